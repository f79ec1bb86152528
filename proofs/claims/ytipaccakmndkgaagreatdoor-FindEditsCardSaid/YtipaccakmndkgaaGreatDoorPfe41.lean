/- The walks of perm's gone, Drop, RowOut, PosOut. Conditions: rows and places in order; at most 1000 numbers. -/
import Derived.Test.YtipaccakmndkgaaGreatDoorPfe40
import Derived.Test.YtipaccakmndkgaaGreatDoorPfe37
import Derived.Test.YtipaccakmndkgaaGreatDoorPfe21
import Derived.StillTailTactics
namespace Go.Proofs.YtipaccakmndkgaaGreatDoor
open Go.RowKit Go.Shelf
set_option linter.unusedVariables false
set_option linter.unusedSimpArgs false
set_option maxRecDepth 100000 in
set_option maxHeartbeats 4000000 in
theorem PermGone_any (F:Nat→Prop) (gp R P i:Nat) (pr:List (Nat×Nat)) (w:World) (h:PermE w F gp R P pr) (hi:i < pr.length):
 Calls Tryz.prog 149 #[.pointer (some ⟨gp,0,none⟩),.int .i64 (i:Int)] w fun e w'=>e=.returned (.tuple #[])∧PermE w' (Gw F w.heap.size) gp R P (delN pr i)∧Keep F w w':=by
 obtain ⟨⟨ga,vl,vo,vt,vf,ks,C,tk,fr,hx,rfl⟩,hsort,hbd⟩:=h
 rw [List.length_map] at hi
 have a:=hx.at_
 have hkl:=ks_len hx.nd a.lt
 have hC1:=hx.sz
 obtain ⟨k,hk⟩:∃k,ks[i]?=some k:=⟨_,List.getElem?_eq_getElem hi⟩
 have hkm:=List.mem_of_getElem? hk
 have htk:=(hx.tkk k).2 hkm
 obtain ⟨go,co,evo,_,hgo⟩:=World.ownsRow.form a.orow (by omega)
 have ho:=a.orow
 rw [evo] at ho
 have c0:w.cell? ⟨gp,0,none⟩=some (.pointer (some ⟨ga,0,none⟩)):=(a.blk.cell 0).trans rfl
 have c2:w.cell? ⟨gp,2,none⟩=some (.slice (some ⟨go,0,none⟩) ks.length co):=(a.blk.cell 2).trans (by rw [evo];rfl)
 have ck:w.cell? ⟨go,i,none⟩=some (.int .i64 (k:Int)):=(World.ownsRow.cellAt ho i (by omega)).trans (by rw [List.getElem?_map,hk];rfl)
 have hgp:=a.blk.lt
 have hfl:fr.length≤1000:=by
  have:=ks_len hx.frn fun x hxx=>(List.getElem?_eq_some_iff.1 ((hx.frk x).1 hxx)).1
  have:=hx.tkl
  omega
 obtain ⟨n,hn⟩:∃n,ks.length=n:=⟨_,rfl⟩
 have hn9:n≤1000:=by omega
 rw [hn] at c2 hi ho
 have hiI:(i:Int) < (n:Int):=by omega
 have hi0:(0:Int)≤(i:Int):=by omega
 have h1i:wrap64 ((i:Int)+1)=((i+1:Nat):Int):=by rw [wrap64_id (by omega) (by omega)];rfl
 have HX:=Lib.hid hx
 have Hn:=Lib.hid hn
 have Hk:=Lib.hid hk
 have Htk:=Lib.hid htk
 have Hsort:=Lib.hid hsort
 have Hbd:=Lib.hid hbd
 have Hevo:=Lib.hid evo
 have Hkm:=Lib.hid hkm
 clear hx hn hk htk hsort hbd evo ho a hkm
 go_enter Tryz.func149,Tryz.ntmps149
 go_wp2_with fail
 refine wp_region_any (by kernel_rfl) ?_
 refine wpAny_keep [4,5,6,7,8,9,10,11,12,13,14,15,16] (AF ga vt vf) 12 [12] (fun w2=>PermX w2 F gp ga vl vo vt vf R P ks C tk fr) (fun _ w2=>ArenaE w2 (Gw (AF ga vt vf) w.heap.size) ga (tk.set k false) (fr++ [k])) [is (.pointer (some ⟨gp,0,none⟩)),is (.pointer (some ⟨gp,0,none⟩)),is (.pointer (some ⟨gp,0,none⟩)),is (.pointer (some ⟨ga,0,none⟩)),is (.pointer (some ⟨gp,0,none⟩)),is (.pointer (some ⟨gp,0,none⟩)),is (.pointer (some ⟨gp,2,none⟩)),is (.slice (some ⟨go,0,none⟩) n co),is (.int .i64 (i:Int)),is (.pointer (some ⟨go,i,none⟩)),is (.int .i64 (k:Int)),newBk (AF ga vt vf) 3 #[.int .i64 (k:Int)] fun g=>.slice (some ⟨g,0,none⟩) 1 1,anyV] _ _ rfl (by kernel_rfl) (by kernel_rfl) (HX.out.drewN 1) (fun w2 w3 h _ hg=> { h with at_:=h.at_.below hg }) (fun _ _ _ h k=>h.keep (G:=fun _=>False) (Keep.of_below k) fun _ _ _ _ _ _ f=>f) (by repeat' (first | exact stbk_is _ _ | exact stbk_any _ | exact stbk_newBk _ _ _ _ |(refine List.forall_mem_cons.2 ⟨?_,?_⟩)|(intro p hp;cases hp))) ?_ ?_
 · refine steps_of ?_
   refine steps_cons (step_on3 rfl rfl fun ev _ _ _ _ _ hold _ _ _ _ hK=>?_) ?_
   · have e0:ev (.tmp 0)=.pointer (some ⟨gp,0,none⟩):=hold 0 (by kernel_rfl)
     go_simp
     exact hK _ _ (kstep_grow (Below.refl _ _)) rfl
   refine steps_cons (step_on3 rfl rfl fun _ _ _ _ _ _ _ hval _ _ _ hK=>?_) ?_
   · have e4:_=_:=hval 0 4 (by kernel_rfl) rfl
     go_simp
     exact hK _ _ (kstep_grow (Below.refl _ _)) rfl
   refine steps_cons (step_on3 rfl rfl fun _ _ _ _ _ _ _ hval _ _ _ hK=>?_) ?_
   · have e5:_=_:=hval 1 5 (by kernel_rfl) rfl
     go_simp
     exact hK _ _ (kstep_grow (Below.refl _ _)) rfl
   refine steps_cons (step_on3 rfl rfl fun _ w5 hS _ _ _ _ hval _ _ _ hK=>?_) ?_
   · replace hS:Keep (AF ga vt vf) w w5:=⟨hS.os,hS.tape,hS.output,hS.size,hS.block⟩
     have e6:_=_:=hval 2 6 (by kernel_rfl) rfl
     have c7:w5.cell? ⟨gp,0,none⟩=some (.pointer (some ⟨ga,0,none⟩)):=((hS.bk HX.out.at_.blk HX.out.gp_af).cell 0).trans rfl
     go_simp
     exact hK _ _ (kstep_grow (Below.refl _ _)) rfl
   refine steps_cons (step_on3 rfl rfl fun ev _ _ _ _ _ hold _ _ _ _ hK=>?_) ?_
   · have e0:ev (.tmp 0)=.pointer (some ⟨gp,0,none⟩):=hold 0 (by kernel_rfl)
     go_simp
     exact hK _ _ (kstep_grow (Below.refl _ _)) rfl
   refine steps_cons (step_on3 rfl rfl fun _ _ _ _ _ _ _ hval _ _ _ hK=>?_) ?_
   · have e8:_=_:=hval 4 8 (by kernel_rfl) rfl
     go_simp
     exact hK _ _ (kstep_grow (Below.refl _ _)) rfl
   refine steps_cons (step_on3 rfl rfl fun _ _ _ _ _ _ _ hval _ _ _ hK=>?_) ?_
   · have e9:_=_:=hval 5 9 (by kernel_rfl) rfl
     go_simp
     exact hK _ _ (kstep_grow (Below.refl _ _)) rfl
   refine steps_cons (step_on3 rfl rfl fun _ w5 hS _ _ _ _ hval _ _ _ hK=>?_) ?_
   · replace hS:Keep (AF ga vt vf) w w5:=⟨hS.os,hS.tape,hS.output,hS.size,hS.block⟩
     have e10:_=_:=hval 6 10 (by kernel_rfl) rfl
     have c11:w5.cell? ⟨gp,2,none⟩=some (.slice (some ⟨go,0,none⟩) n co):=(hS.cell (p:=⟨gp,2,none⟩) hgp HX.out.gp_af).trans c2
     go_simp
     exact hK _ _ (kstep_grow (Below.refl _ _)) rfl
   refine steps_cons (step_on3 rfl rfl fun ev _ _ _ _ _ hold _ _ _ _ hK=>?_) ?_
   · have e1:ev (.tmp 1)=.int .i64 (i:Int):=hold 1 (by kernel_rfl)
     go_simp
     exact hK _ _ (kstep_grow (Below.refl _ _)) rfl
   refine steps_cons (step_on3 rfl rfl fun _ _ _ _ _ _ _ hval _ _ _ hK=>?_) ?_
   · have e11:_=_:=hval 7 11 (by kernel_rfl) rfl
     have e12:_=_:=hval 8 12 (by kernel_rfl) rfl
     go_simp
     exact hK _ _ (kstep_grow (Below.refl _ _)) rfl
   refine steps_cons (step_on3 rfl rfl fun _ w5 hS _ _ _ _ hval _ _ _ hK=>?_) ?_
   · replace hS:Keep (AF ga vt vf) w w5:=⟨hS.os,hS.tape,hS.output,hS.size,hS.block⟩
     have e13:_=_:=hval 9 13 (by kernel_rfl) rfl
     have c14:w5.cell? ⟨go,i,none⟩=some (.int .i64 (k:Int)):=(hS.cell (p:=⟨go,i,none⟩) hgo (HX.out.ord_af (by rw [Hevo.out];rfl))).trans ck
     go_simp
     exact hK _ _ (kstep_grow (Below.refl _ _)) rfl
   refine steps_cons (step_on3 rfl rfl fun _ w5 hS _ _ _ _ hval _ _ _ hK=>?_) ?_
   · replace hS:Keep (AF ga vt vf) w w5:=⟨hS.os,hS.tape,hS.output,hS.size,hS.block⟩
     have e14:_=_:=hval 10 14 (by kernel_rfl) rfl
     go_simp
     exact hK _ _ (kstep_grow ((Below.refl _ _).alloc (Nat.le_refl _) _)) ⟨_,rfl,Bk.new _ _ _,fun f=>by have h1:=HX.out.af_lt f;have h2:=hS.size;omega⟩
   refine steps_cons (step_on3 rfl rfl fun ev w5 hS hU _ _ _ hval _ _ _ hK=>?_) ?_
   · replace hS:Keep (AF ga vt vf) w w5:=⟨hS.os,hS.tape,hS.output,hS.size,hS.block⟩
     have hpre:=hU rfl
     have e7:_=_:=hval 3 7 (by kernel_rfl) rfl
     have p15:(newBk (AF ga vt vf) 3 #[.int .i64 (k:Int)] fun g=>.slice (some ⟨g,0,none⟩) 1 1) (ev (.tmp 15)) w5:=hval 11 15 (by kernel_rfl) rfl
     obtain ⟨g15,e15,hb15,hn15⟩:=p15
     go_simp
     refine (Free_any (AF ga vt vf) ga g15 k tk fr w5 hpre.arena Htk.out hb15 (by omega)).mono ?_
     rintro e w8 ⟨rfl,hA8,hk8⟩
     exact hK _ _ (kstep_keep hk8) (hA8.mono fun b _ f=>by
        rcases f with f | f
        · exact .inl f
        · exact .inr (Nat.le_trans hS.size f))
   exact steps_nil
 · intro ev w6 hS hval hall
   replace hS:Keep (AF ga vt vf) w w6:=⟨hS.os,hS.tape,hS.output,hS.size,hS.block⟩
   obtain ⟨vJ,pJ⟩:∃vJ0,(fun _ w2=>ArenaE w2 (Gw (AF ga vt vf) w.heap.size) ga (tk.set k false) (fr++ [k])) vJ0 w6:=hall 12 (by decide)
   simp only [putsOf,List.foldl_cons,List.foldl_nil,Act.put,List.setIfInBounds_toArray,List.set_cons_zero,List.set_cons_succ]
   clear hval hall
   obtain ⟨w3,hw3⟩:∃w3,w3=w6:=⟨_,rfl⟩
   subst hw3
   have hk3:=hS
   have hA3:=pJ
   clear c0 c2 ck
   have hgp3:=hk3.bk HX.out.at_.blk HX.out.gp_af
   have hvl3:=own_same (w':=w3) HX.out.at_.lrow fun b cs _ hb=>hk3.bk hb (HX.out.pair_af hb)
   have hvo3:=own_same (w':=w3) HX.out.at_.orow fun b cs hb hk=>hk3.bk hk (HX.out.ord_af hb)
   rw [Hn.out,Hevo.out,Hn.out] at hvo3
   have c2:w3.cell? ⟨gp,2,none⟩=some (.slice (some ⟨go,0,none⟩) n co):=(hgp3.cell 2).trans (by rw [Hevo.out,Hn.out];rfl)
   have hgp3l:=hgp3.lt
   have hkF3:Keep F w w3:=(Keep.refl F w).trans (hk3.mono fun b _ f=>HX.out.af f)
   have hA3':=ArenaE.mono hA3 (G:=fun b=>Gw (AF ga vt vf) w.heap.size b∧b < w3.heap.size) fun b hb f=>⟨f,hb⟩
   have hdel:=DeleteOne_any 0 (some ⟨go,0,none⟩) n co i ks w3 hvo3 hi (by omega)
   have Hgp3:=Lib.hid hgp3
   have Hvl3:=Lib.hid hvl3
   have Hvo3:=Lib.hid hvo3
   have HkF3:=Lib.hid hkF3
   have HA3:=Lib.hid hA3'
   have Hdel:=Lib.hid hdel
   clear hgp3 hvl3 hvo3 hkF3 hA3 hA3' hdel hk3 pJ hS
   go_wp2_with fail
   refine Hdel.out.mono ?_
   rintro e w4 ⟨rfl,ho4,hk4⟩
   rw [show (Value.slice (some ⟨go,0,none⟩) n co).ownBlock=some go from rfl] at hk4
   have hty:∀b t cs,t≠3→Bk w3 b t cs→¬(some go=some b):=fun b t cs ht hb e=>by
    obtain ⟨cs',hc⟩:=own_ty Hvo3.out (show (Value.slice (some ⟨go,0,none⟩) n co).ownBlock=some b from e)
    exact ht (bk_inj hb hc).1
   have hgoaf:¬(Gw (AF ga vt vf) w.heap.size go∧go < w3.heap.size):=fun f=>by
    have e0:vo.ownBlock=some go:=by rw [Hevo.out];rfl
    rcases f.1 with f | f
    · exact HX.out.ord_af e0 f
    · have:=(HX.out.at_.orow.lt go e0).2
      omega
   have hgp4:=hk4.bk Hgp3.out (hty _ _ _ (by decide) Hgp3.out)
   have hvl4:=own_same (w':=w4) Hvl3.out fun b cs _ hb=>hk4.bk hb (hty _ _ _ (by decide) hb)
   have hA4:=HA3.out.keep hk4 fun b t cs _ _ f e=>by
    injection e with e
    subst e
    exact hgoaf f
   have hfgo:F go:=HX.out.fo go (by rw [Hevo.out];rfl)
   have hkF4:Keep F w w4:=HkF3.out.trans (hk4.mono fun b _ e=>by
    injection e with e
    subst e
    exact hfgo)
   have c2:w4.cell? ⟨gp,2,none⟩=some (.slice (some ⟨go,0,none⟩) n co):=(hgp4.cell 2).trans (by rw [Hevo.out,Hn.out];rfl)
   have f2:=hgp4.frozen 2
   have hgp4l:=hgp4.lt
   have Hgp4:=Lib.hid hgp4
   have Hvl4:=Lib.hid hvl4
   have HA4:=Lib.hid hA4
   have HkF4:=Lib.hid hkF4
   have Ho4:=Lib.hid ho4
   have Hgoaf:=Lib.hid hgoaf
   clear hgp4 hvl4 hA4 hkF4 ho4 hgoaf hty hk4 Hdel
   go_wp2_with fail
   go_end0
   have hset:Keep (fun b=>b=gp) w4 (w4.setCell ⟨gp,2,none⟩ (.slice (some ⟨go,0,none⟩) (n - 1) co)):=Keep.setCell (F:=fun b=>b=gp) (Keep.refl _ _) (p:=⟨gp,2,none⟩) (.inl rfl) _
   have hfar:∀b t cs,t≠157→Bk w4 b t cs→¬(b=gp):=fun b t cs ht hb e=>by
    subst e
    exact ht (bk_inj hb Hgp4.out).1
   obtain ⟨hAg,At,ct,Af,cf,h1,h2,h3,h4,h5⟩:=HA4.out.keep hset fun b t cs ht hb _=>hfar b t cs (fun e=>by subst e;revert ht;decide) hb
   have hX:=HX.out
   have hperm:(k::delN ks i).Perm ks:=delN_perm Hk.out
   have hnd:=hperm.nodup_iff.2 hX.nd
   obtain ⟨hn1,hn2⟩:=List.nodup_cons.1 hnd
   have hmem:∀x,x∈delN ks i↔x∈ks∧x≠k:=fun x=>by
    rw [←hperm.mem_iff,List.mem_cons]
    constructor
    · intro hxx
      exact ⟨.inr hxx,fun e=>hn1 (by rw [←e];exact hxx)⟩
    · rintro ⟨h6 | h6,h7⟩
      · exact absurd h6 h7
      · exact h6
   have hdl:(delN ks i).length=n - 1:=by
    have:=delN_len ks (k:=i) (by rw [Hn.out];exact hi)
    have:=Hn.out
    omega
   have hAF:∀b,Gw (AF ga vt vf) w.heap.size b∧b < w3.heap.size→Gw F w.heap.size b:=fun b f=>by
    rcases f.1 with g | g
    · exact .inl (hX.af g)
    · exact .inr g
   have hktl:k < tk.length:=(List.getElem?_eq_some_iff.1 Htk.out).1
   have hget:∀x,(tk.set k false)[x]?=if x=k then some false else tk[x]?:=fun x=>by
    rw [List.getElem?_set]
    by_cases c:k=x
    · subst c
      simp [hktl]
    · rw [if_neg c,if_neg (fun e=>c e.symm)]
   refine ⟨rfl,⟨⟨ga,vl,.slice (some ⟨go,0,none⟩) (n - 1) co,_,_,delN ks i,C,tk.set k false,fr++ [k],⟨⟨Hgp4.out.set 2 _,own_same Hvl4.out fun b cs _ hb=>hset.bk hb (hfar _ _ _ (by decide) hb),?_,h1,h2,h3,.inr fun e=>Hgoaf.out (h5 go e.symm),fun x hxx=>hX.at_.lt x ((hmem x).1 hxx).1,⟨Nat.zero_le _,Nat.zero_le _⟩⟩,.inl hX.fp,.inl hX.fa,fun b hb=>.inl (hX.fl b hb),fun b hb=>.inl (hX.fo b (by rw [Hevo.out];exact hb)),fun b hb=>hAF b (h4 b hb),fun b hb=>hAF b (h5 b hb),hn2,by rw [List.length_set];exact hX.tkl,fun x=>?_,?_,fun x=>?_,hX.sz⟩,(delN_map _ _ _).symm⟩,?_,fun x hxx=>?_⟩,Keep.setCell (F:=F) HkF4.out (p:=⟨gp,2,none⟩) (.inl hX.fp) _⟩
   · rw [hdl]
     exact own_same Ho4.out fun b cs _ hb=>hset.bk hb (hfar _ _ _ (by decide) hb)
   · rw [hget,hmem x,←hX.tkk x]
     by_cases c:x=k
     · simp [c]
     · simp [c]
   · rw [List.nodup_append]
     refine ⟨hX.frn,by simp,fun x hxx y hy=>?_⟩
     rw [List.mem_singleton] at hy
     subst hy
     intro e
     subst e
     have h8:=(hX.frk x).1 hxx
     have h9:=Htk.out
     rw [h9] at h8
     cases h8
   · rw [hget,List.mem_append,hX.frk x,List.mem_singleton]
     by_cases c:x=k
     · simp [c]
     · simp [c]
   · unfold delN
     rw [List.pairwise_append]
     have hso:=Hsort.out
     refine ⟨hso.sublist (List.take_sublist _ _),hso.sublist (List.drop_sublist _ _),fun x hx y hy=>?_⟩
     have:=List.pairwise_append.1 (show ((ks.map fun k=>(rowK C k,posK C k)).take i++(ks.map fun k=>(rowK C k,posK C k)).drop i).Pairwise (fun a b=>a.1 < b.1) by rw [List.take_append_drop];exact hso)
     refine this.2.2 x hx y ?_
     rw [←List.drop_drop] at hy
     exact List.mem_of_mem_drop hy
   · refine Hbd.out x ?_
     unfold delN at hxx
     rcases List.mem_append.1 hxx with h6 | h6
     · exact List.mem_of_mem_take h6
     · exact List.mem_of_mem_drop h6
theorem del_mem {l:List (Nat×Nat)} {i:Nat} (hp:l.Pairwise (fun a b=>a.1 < b.1)) (hi:i < l.length) (x:Nat×Nat):x∈delN l i↔x∈l∧x.1≠l[i].1:=by
 have hperm:(l[i]::delN l i).Perm l:=delN_perm (List.getElem?_eq_getElem hi)
 have hpw:(l[i]::delN l i).Pairwise (fun a b:Nat×Nat=>a.1≠b.1):=hperm.symm.pairwise (hp.imp fun {a b} h=>Nat.ne_of_lt h) fun {a b} h e=>h e.symm
 obtain ⟨h1,h2⟩:=List.pairwise_cons.1 hpw
 constructor
 · intro hx
   exact ⟨hperm.subset (by simp [hx]),fun e=>h1 x hx e.symm⟩
 · rintro ⟨h3,h4⟩
   rcases List.mem_cons.1 (hperm.symm.subset h3) with rfl | h5
   · exact absurd rfl h4
   · exact h5
def DropPost (F:Nat→Prop) (gp R P row:Nat) (pr:List (Nat×Nat)) (w:World) (e:Ending) (w':World):Prop:=
 ∃(code:Int) (pr1:List (Nat×Nat)),e=.returned (.int .i64 code)∧(∀x,x∈pr1↔x∈pr∧x.1≠row)∧PermE w' (Gw F w.heap.size) gp R P pr1∧Keep F w w'
set_option maxRecDepth 100000 in
set_option maxHeartbeats 1000000 in
theorem PermDrop_any (F:Nat→Prop) (gp R P row:Nat) (pr:List (Nat×Nat)) (w:World) (h:PermE w F gp R P pr):
 Calls Tryz.prog 147 #[.pointer (some ⟨gp,0,none⟩),.int .i64 (row:Int)] w (DropPost F gp R P row pr w):=by
 have h0:=h
 obtain ⟨⟨ga,vl,vo,vt,vf,ks,C,tk,fr,hx,rfl⟩,hsort,hbd⟩:=h
 have hs0:=List.pairwise_map.1 hsort
 have hs:ks.Pairwise (fun a b=>rowK C a < rowK C b):=hs0
 have hkl:=ks_len hx.nd hx.at_.lt
 have hC1:=hx.sz
 have hat:=PermAt_any 0 gp ga vl vo vt vf R P ks C tk fr row w hx.at_ hs (by omega)
 unfold DropPost
 by_cases hex:∃k∈ks,rowK C k=row
 · rw [decide_eq_true hex] at hat
   obtain ⟨k,hk1,hk2⟩:=(cnt_found hs row).2 hex
   obtain ⟨i,hi⟩:∃i,(ks.countP fun k=>decide (rowK C k < row))=i:=⟨_,rfl⟩
   rw [hi] at hat hk1
   have hil:=(List.getElem?_eq_some_iff.1 hk1).1
   have Hk1:=Lib.hid hk1
   have Hk2:=Lib.hid hk2
   have Hs:=Lib.hid hsort
   have H0:=Lib.hid h0
   clear hx hsort hbd hs hs0 hex h0 hk1 hk2 hi
   go_enter Tryz.func147,Tryz.ntmps147
   go_wp2_with fail
   refine hat.mono ?_
   rintro e w1 ⟨rfl,hb1⟩
   have Hb1:=Lib.hid hb1
   clear hat hb1
   go_wp2_with fail
   have hE1:=H0.out.below Hb1.out
   refine (PermGone_any F gp R P i _ w1 hE1 (by rw [List.length_map];exact hil)).mono ?_
   rintro e w2 ⟨rfl,hE2,hk2⟩
   have HE2:=Lib.hid hE2
   have Hkk:=Lib.hid hk2
   clear hE1 hE2 hk2
   go_wp2_with fail
   go_ret
   refine ⟨0,_,rfl,fun x=>?_,HE2.out.mono fun b _ f=>?_,(Keep.of_below Hb1.out).trans Hkk.out⟩
   · have hl:i < (ks.map fun k=>(rowK C k,posK C k)).length:=by rw [List.length_map];exact hil
     rw [del_mem Hs.out hl]
     have he:((ks.map fun k=>(rowK C k,posK C k))[i]).1=row:=by
       rw [List.getElem_map]
       have h9:=Hk1.out
       rw [List.getElem?_eq_getElem hil] at h9
       injection h9 with h9
       rw [h9]
       exact Hk2.out
     rw [he]
   · rcases f with f | f
     · exact .inl f
     · exact .inr (by have:=Hb1.out.size;omega)
 · rw [decide_eq_false hex] at hat
   obtain ⟨i,hi⟩:∃i,(ks.countP fun k=>decide (rowK C k < row))=i:=⟨_,rfl⟩
   rw [hi] at hat
   have Hex:=Lib.hid hex
   have H0:=Lib.hid h0
   clear hx hsort hbd hs hs0 hex h0 hi
   go_enter Tryz.func147,Tryz.ntmps147
   go_wp2_with fail
   refine hat.mono ?_
   rintro e w1 ⟨rfl,hb1⟩
   have Hb1:=Lib.hid hb1
   clear hat hb1
   go_wp2_with fail
   go_ret
   refine ⟨7,_,rfl,fun x=>?_,(H0.out.below Hb1.out).mono fun b _ f=>.inl f,Keep.of_below Hb1.out⟩
   constructor
   · intro hx
     refine ⟨hx,fun e=>?_⟩
     obtain ⟨k,hk,rfl⟩:=List.mem_map.1 hx
     exact Hex.out ⟨k,hk,e⟩
   · intro hx
     exact hx.1
theorem outR_lt {a b z:Nat} (h:a < b) (ha:a≠z) (hb:b≠z):outR a z < outR b z:=by
 unfold outR
 split <;> split <;> omega
set_option maxRecDepth 100000 in
set_option maxHeartbeats 2000000 in
theorem PermRowOut_any (F:Nat→Prop) (gp R P z:Nat) (pr:List (Nat×Nat)) (w:World) (h:PermE w F gp R P pr) (hF:∀b,F b→b < w.heap.size) (hz:z < R) (hR:R≤100000) (hP:P≤100000):
 Calls Tryz.prog 70 #[.pointer (some ⟨gp,0,none⟩),.int .i64 (z:Int)] w fun e w'=>e=.returned (.int .i64 0)∧(∃pr1:List (Nat×Nat),(∀x,x∈pr1↔x∈pr∧x.1≠z)∧PermE w' (Gw F w.heap.size) gp (R - 1) P (pr1.map fun x=>(outR x.1 z,x.2)))∧Keep F w w':=by
 obtain ⟨R1,rfl⟩:∃R1,R=R1+1:=⟨R - 1,by omega⟩
 rw [Nat.add_sub_cancel]
 have hgp:gp < w.heap.size:=by
  obtain ⟨⟨ga,vl,vo,vt,vf,ks,C,tk,fr,hx,_⟩,_⟩:=h
  exact hx.at_.blk.lt
 have c3:w.cell? ⟨gp,3,none⟩=some (.int .i64 ((R1+1:Nat):Int)):=by
  obtain ⟨⟨ga,vl,vo,vt,vf,ks,C,tk,fr,hx,_⟩,_⟩:=h
  exact (hx.at_.blk.cell 3).trans rfl
 have hzR:¬((z:Int)≥((R1+1:Nat):Int)):=by omega
 have hzN:¬R1+1≤z:=by omega
 have hzb:decide ((z:Int)≥((R1+1:Nat):Int))=false:=decide_eq_false hzR
 have hz0:decide ((z:Int) < 0)=false:=by simp
 have e1:IntKind.i64.wrap (((R1+1:Nat):Int) - 1)=(R1:Int):=by rw [IntKind.wrap_i64];omega
 obtain ⟨R2,hR2⟩:∃R2,R1+1=R2:=⟨_,rfl⟩
 rw [hR2] at c3 hzR hzb e1 h hR hz hzN
 obtain ⟨W,hW⟩:∃W,w.alloc (.cells #[.int .i64 (z:Int)] 3)=W:=⟨_,rfl⟩
 have hbW:Below w.heap.size w W:=by rw [←hW];exact (Below.refl _ _).alloc (Nat.le_refl _) _
 have hgx:Bk W w.heap.size 3 #[.int .i64 (z:Int)]:=by rw [←hW];exact Bk.new w _ _
 have q0:∀q,(W.drewN q).cell? ⟨w.heap.size,0,none⟩=some (.int .i64 (z:Int)):=fun q=>(hgx.cell 0).trans rfl
 have r0:W.cell? ⟨w.heap.size,0,none⟩=some (.int .i64 (z:Int)):=(hgx.cell 0).trans rfl
 have q3:W.cell? ⟨gp,3,none⟩=some (.int .i64 (R2:Int)):=(hbW.cell (p:=⟨gp,3,none⟩) hgp).trans c3
 have hszW:W.heap.size=w.heap.size+1:=by rw [←hW,World.size_alloc]
 have hgpW:gp < W.heap.size:=by omega
 have hE:=h.below hbW
 have HE:=Lib.hid hE
 have HW:=Lib.hid hW
 have HbW:=Lib.hid hbW
 have Hgx:=Lib.hid hgx
 have HF:=Lib.hid hF
 have HR2:=Lib.hid hR2
 have Hsz:=Lib.hid hszW
 clear h hE hW hbW hgx hF hR2 hszW c3
 go_enter Tryz.func70,Tryz.ntmps70
 go_wp2_with fail
 rw [HW.out]
 go_quiet (fail)
 rename_i nq
 have hmf:∀(fn:Fn) (first cap:Array Value) (w:World),(Instr.makeFunc fn first cap).run Tryz.prog w=.ok (.func fn first cap) w:=fun _ _ _ _=>rfl
 go_wp2_with fail
 have hE2:=HE.out.below (below_drewN (Below.refl _ _) nq)
 have hdr:=PermDrop_any F gp R2 P z pr (W.drewN nq) hE2
 unfold DropPost at hdr
 refine hdr.mono ?_
 rintro e w2 ⟨code,pr1,rfl,hmem,hE3,hk2⟩
 obtain ⟨⟨ga,vl,vo,vt,vf,ks,C,tk,fr,hx,rfl⟩,hsort,hbd⟩:=hE3
 have hat:=hx.at_
 have d3:w2.cell? ⟨gp,3,none⟩=some (.int .i64 (R2:Int)):=(hat.blk.cell 3).trans rfl
 have f3:=hat.blk.frozen 3
 have hgp2:=hat.blk.lt
 have hgx2:Bk w2 w.heap.size 3 #[.int .i64 (z:Int)]:=hk2.bk (Hgx.out.drewN nq) fun e=>by
  have:=HF.out _ e
  omega
 have s0:w2.cell? ⟨w.heap.size,0,none⟩=some (.int .i64 (z:Int)):=(hgx2.cell 0).trans rfl
 have HX:=Lib.hid hx
 have Hsort:=Lib.hid hsort
 have Hbd:=Lib.hid hbd
 have Hmem:=Lib.hid hmem
 have Hk2:=Lib.hid hk2
 have Hgx2:=Lib.hid hgx2
 clear hx hsort hbd hmem hk2 hgx2 hat hdr hE2 q0 r0 q3
 go_wp2_with fail
 have hat2:=HX.out.at_.set_rows R1
 have hgx3:=Hgx2.out.far (p:=⟨gp,3,none⟩) (fun e=>by have e':w.heap.size=gp:=e;omega) (.int .i64 (R1:Int))
 have hvl:∀b,vl.ownBlock=some b→b≠w.heap.size:=fun b hb e=>by
  subst e
  obtain ⟨cs,hc⟩:=own_ty HX.out.at_.lrow hb
  exact absurd (bk_inj hc Hgx2.out).1 (by decide)
 have hC:∀k,k∈ks→rowK C k≤1000000000000∧posK C k≤1000000000000:=fun k hk=>by
  have:=Hbd.out (rowK C k,posK C k) (List.mem_map.2 ⟨k,hk,rfl⟩)
  have h1:rowK C k < R2:=this.1
  have h2:posK C k < P:=this.2
  omega
 have hkl:=ks_len HX.out.nd HX.out.at_.lt
 refine (EachRowOut_any 0 gp ga w.heap.size z vl vo vt vf R1 P ks C tk fr _ hat2 HX.out.nd (by have:=HX.out.sz;omega) hgx3 hvl hC).mono ?_
 rintro e w3 ⟨rfl,hk3,C',hl',hf',hat3⟩
 have hfg:∀b,Gw F (W.drewN nq).heap.size b→Gw F w.heap.size b:=fun b f=>by
  rcases f with f | f
  · exact .inl f
  · exact .inr (by have:=Hsz.out;simp at f;omega)
 have hkF:Keep F w w3:=((Keep.of_below (below_drewN HbW.out nq)).trans Hk2.out).trans' ((Keep.setCell (F:=Gw F (W.drewN nq).heap.size) (Keep.refl _ _) (p:=⟨gp,3,none⟩) (.inl HX.out.fp) _).trans (hk3.mono fun b _ hb=>HX.out.fl b hb)) fun b hb f=>by
  rcases hfg b f with g | g
  · exact g
  · omega
 have hE4:PermE w3 (Gw F w.heap.size) gp R1 P ((ks.map fun k=>(rowK C k,posK C k)).map fun x=>(outR x.1 z,x.2)):=by
  refine PermE.mono (F:=Gw F (W.drewN nq).heap.size) ⟨⟨ga,vl,vo,vt,vf,ks,C',tk,fr,⟨hat3,HX.out.fp,HX.out.fa,HX.out.fl,HX.out.fo,HX.out.ft,HX.out.ff,HX.out.nd,by rw [hl'];exact HX.out.tkl,HX.out.tkk,HX.out.frn,HX.out.frk,by rw [hl'];exact HX.out.sz⟩,(pr_map (f:=fun x=>(outR x.1 z,x.2)) hf').symm⟩,?_,fun x hx=>?_⟩ fun b _ f=>hfg b f
  · refine List.pairwise_map.2 (List.Pairwise.imp_of_mem (fun {a b} ha hb hab=>?_) Hsort.out)
    exact outR_lt hab ((Hmem.out a).1 ha).2 ((Hmem.out b).1 hb).2
  · obtain ⟨y,hy,rfl⟩:=List.mem_map.1 hx
    have h1:=Hbd.out y hy
    have h2:=((Hmem.out y).1 hy).2
    have h3:=HR2.out
    refine ⟨?_,h1.2⟩
    show outR y.1 z < R1
    unfold outR
    split <;> omega
 have HE4:=Lib.hid hE4
 have HkF:=Lib.hid hkF
 clear hkF hE4 hat3 hf' hk3 hl' hC hvl hgx3 hat2
 go_wp2_with fail
 go_ret
 exact ⟨rfl,⟨_,Hmem.out,HE4.out⟩,HkF.out⟩
set_option maxRecDepth 100000 in
set_option maxHeartbeats 2000000 in
theorem PermPosOut_any (F:Nat→Prop) (gp R P z:Nat) (pr:List (Nat×Nat)) (w:World) (h:PermE w F gp R P pr) (hF:∀b,F b→b < w.heap.size) (hz:z < P) (hR:R≤100000) (hP:P≤100000) (hinj:∀x∈pr,∀y∈pr,x.2=y.2→x=y):
 Calls Tryz.prog 71 #[.pointer (some ⟨gp,0,none⟩),.int .i64 (z:Int)] w fun e w'=>e=.returned (.int .i64 0)∧(∃pr1:List (Nat×Nat),(∀x,x∈pr1↔x∈pr∧x.2≠z)∧PermE w' (Gw F w.heap.size) gp R (P - 1) (pr1.map fun x=>(x.1,outR x.2 z)))∧Keep F w w':=by
 obtain ⟨P1,rfl⟩:∃P1,P=P1+1:=⟨P - 1,by omega⟩
 rw [Nat.add_sub_cancel]
 have hgp:gp < w.heap.size:=by
  obtain ⟨⟨ga,vl,vo,vt,vf,ks,C,tk,fr,hx,_⟩,_⟩:=h
  exact hx.at_.blk.lt
 have c3:w.cell? ⟨gp,4,none⟩=some (.int .i64 ((P1+1:Nat):Int)):=by
  obtain ⟨⟨ga,vl,vo,vt,vf,ks,C,tk,fr,hx,_⟩,_⟩:=h
  exact (hx.at_.blk.cell 4).trans rfl
 have hzR:¬((z:Int)≥((P1+1:Nat):Int)):=by omega
 have hzN:¬P1+1≤z:=by omega
 have hzb:decide ((z:Int)≥((P1+1:Nat):Int))=false:=decide_eq_false hzR
 have hz0:decide ((z:Int) < 0)=false:=by simp
 have e1:IntKind.i64.wrap (((P1+1:Nat):Int) - 1)=(P1:Int):=by rw [IntKind.wrap_i64];omega
 obtain ⟨P2,hP2⟩:∃P2,P1+1=P2:=⟨_,rfl⟩
 rw [hP2] at c3 hzR hzb e1 h hP hz hzN
 obtain ⟨W,hW⟩:∃W,w.alloc (.cells #[.int .i64 (z:Int)] 3)=W:=⟨_,rfl⟩
 have hbW:Below w.heap.size w W:=by rw [←hW];exact (Below.refl _ _).alloc (Nat.le_refl _) _
 have hgx:Bk W w.heap.size 3 #[.int .i64 (z:Int)]:=by rw [←hW];exact Bk.new w _ _
 have q0:∀q,(W.drewN q).cell? ⟨w.heap.size,0,none⟩=some (.int .i64 (z:Int)):=fun q=>(hgx.cell 0).trans rfl
 have r0:W.cell? ⟨w.heap.size,0,none⟩=some (.int .i64 (z:Int)):=(hgx.cell 0).trans rfl
 have q3:W.cell? ⟨gp,4,none⟩=some (.int .i64 (P2:Int)):=(hbW.cell (p:=⟨gp,4,none⟩) hgp).trans c3
 have hszW:W.heap.size=w.heap.size+1:=by rw [←hW,World.size_alloc]
 have hgpW:gp < W.heap.size:=by omega
 have hE:=h.below hbW
 have HE:=Lib.hid hE
 have HW:=Lib.hid hW
 have HbW:=Lib.hid hbW
 have Hgx:=Lib.hid hgx
 have HF:=Lib.hid hF
 have HP2:=Lib.hid hP2
 have Hsz:=Lib.hid hszW
 have Hinj:=Lib.hid hinj
 clear h hE hW hbW hgx hF hP2 hszW c3 hinj
 go_enter Tryz.func71,Tryz.ntmps71
 go_wp2_with fail
 rw [HW.out]
 go_quiet (fail)
 rename_i nq
 have hmf:∀(fn:Fn) (first cap:Array Value) (w:World),(Instr.makeFunc fn first cap).run Tryz.prog w=.ok (.func fn first cap) w:=fun _ _ _ _=>rfl
 go_wp2_with fail
 have hE2:=HE.out.below (below_drewN (Below.refl _ _) nq)
 have hgone:Calls Tryz.prog 121 #[.pointer (some ⟨gp,0,none⟩),.int .i64 (z:Int)] (W.drewN nq) fun e w'=>Below (W.drewN nq).heap.size (W.drewN nq) w'∧((e=.returned (.int .i64 (-1))∧∀x∈pr,x.2≠z)∨∃i x,e=.returned (.int .i64 ((i:Nat):Int))∧pr[i]?=some x∧x.2=z):=by
  obtain ⟨⟨ga,vl,vo,vt,vf,ks,C,tk,fr,hx,rfl⟩,hsort,hbd⟩:=hE2
  have hkl:=ks_len hx.nd hx.at_.lt
  have hC1:=hx.sz
  refine (PermHas_any 0 gp ga vl vo vt vf R P2 ks C tk fr z _ hx.at_ (by omega)).mono ?_
  rintro e w' ⟨rfl,hb⟩
  refine ⟨hb,?_⟩
  by_cases hex:∃k∈ks,posK C k=z
  · obtain ⟨q,x,hq,hx1,hx2⟩:=firstI_some (p:=fun k=>decide (posK C k=z)) (l:=ks) (by obtain ⟨k,hk1,hk2⟩:=hex;exact ⟨k,hk1,decide_eq_true hk2⟩) 0
    rw [hq,Nat.zero_add]
    exact .inr ⟨q,_,rfl,by rw [List.getElem?_map,hx1];rfl,of_decide_eq_true hx2⟩
  · rw [firstI_none (p:=fun k=>decide (posK C k=z)) (l:=ks) (fun k hk=>decide_eq_false fun e=>hex ⟨k,hk,e⟩) 0]
    refine .inl ⟨rfl,fun x hx=>?_⟩
    obtain ⟨k,hk,rfl⟩:=List.mem_map.1 hx
    exact fun e=>hex ⟨k,hk,e⟩
 have hrest:∀w2 (pr1:List (Nat×Nat)),(∀x,x∈pr1↔x∈pr∧x.2≠z)→PermE w2 (Gw F w.heap.size) gp R P2 pr1→Keep F w w2→Bk w2 w.heap.size 3 #[.int .i64 (z:Int)]→∃ga vl vo vt vf ks C tk fr,PermX w2 (Gw F w.heap.size) gp ga vl vo vt vf R P2 ks C tk fr∧Calls Tryz.prog 137 #[.pointer (some ⟨gp,0,none⟩),.func (.func 150) #[] #[.pointer (some ⟨w.heap.size,0,none⟩)]] (w2.setCell ⟨gp,4,none⟩ (.int .i64 (P1:Int))) fun e w'=>e=.returned (.tuple #[])∧PermE w' (Gw F w.heap.size) gp R P1 (pr1.map fun x=>(x.1,outR x.2 z))∧Keep F w w':=by
  rintro w2 pr1 hmem ⟨⟨ga,vl,vo,vt,vf,ks,C,tk,fr,hx,rfl⟩,hsort,hbd⟩ hk2 hgx2
  refine ⟨ga,vl,vo,vt,vf,ks,C,tk,fr,hx,?_⟩
  have hat2:=hx.at_.set_places P1
  have hgx3:=hgx2.far (p:=⟨gp,4,none⟩) (fun e=>by have e':w.heap.size=gp:=e;omega) (.int .i64 (P1:Int))
  have hvl:∀b,vl.ownBlock=some b→b≠w.heap.size:=fun b hb e=>by
   subst e
   obtain ⟨cs,hc⟩:=own_ty hx.at_.lrow hb
   exact absurd (bk_inj hc hgx2).1 (by decide)
  have hC:∀k,k∈ks→rowK C k≤1000000000000∧posK C k≤1000000000000:=fun k hk=>by
   have:=hbd (rowK C k,posK C k) (List.mem_map.2 ⟨k,hk,rfl⟩)
   have h1:rowK C k < R:=this.1
   have h2:posK C k < P2:=this.2
   omega
  have hkl:=ks_len hx.nd hx.at_.lt
  refine (EachPosOut_any 0 gp ga w.heap.size z vl vo vt vf R P1 ks C tk fr _ hat2 hx.nd (by have:=hx.sz;omega) hgx3 hvl hC).mono ?_
  rintro e w3 ⟨rfl,hk3,C',hl',hf',hat3⟩
  refine ⟨rfl,⟨⟨ga,vl,vo,vt,vf,ks,C',tk,fr,⟨hat3,hx.fp,hx.fa,hx.fl,hx.fo,hx.ft,hx.ff,hx.nd,by rw [hl'];exact hx.tkl,hx.tkk,hx.frn,hx.frk,by rw [hl'];exact hx.sz⟩,(pr_map (f:=fun x=>(x.1,outR x.2 z)) hf').symm⟩,List.pairwise_map.2 (hsort.imp fun {a b} hab=>hab),fun x hxx=>?_⟩,?_⟩
  · obtain ⟨y,hy,rfl⟩:=List.mem_map.1 hxx
    have h1:=hbd y hy
    have h2:=((hmem y).1 hy).2
    have h3:=HP2.out
    refine ⟨h1.1,?_⟩
    show outR y.2 z < P1
    unfold outR
    split <;> omega
  · refine hk2.trans' ((Keep.setCell (F:=Gw F w.heap.size) (Keep.refl _ _) (p:=⟨gp,4,none⟩) (.inl hx.fp) _).trans (hk3.mono fun b _ hb=>hx.fl b hb)) fun b hb f=>by
        rcases f with g | g
        · exact g
        · omega
 have Hrest:=Lib.hid hrest
 clear hrest
 refine hgone.mono ?_
 rintro e w2 ⟨hb2,⟨rfl,hno⟩|⟨i,x,rfl,hpi,hxz⟩⟩
 · have hgx2:Bk w2 w.heap.size 3 #[.int .i64 (z:Int)]:=(Hgx.out.drewN nq).below hb2 (by have:=Hsz.out;simp;omega)
   have hkw:Keep F w w2:=(Keep.of_below (below_drewN HbW.out nq)).trans (Keep.of_below hb2)
   have hE3:=(hE2.below hb2).mono (G:=Gw F w.heap.size) fun b _ f=>.inl f
   obtain ⟨ga,vl,vo,vt,vf,ks,C,tk,fr,hx,hcall⟩:=Hrest.out w2 pr (fun x=>⟨fun h=>⟨h,hno x h⟩,fun h=>h.1⟩) hE3 hkw hgx2
   have d3:w2.cell? ⟨gp,4,none⟩=some (.int .i64 (P2:Int)):=(hx.at_.blk.cell 4).trans rfl
   have f3:=hx.at_.blk.frozen 4
   have hgp2:=hx.at_.blk.lt
   have s0:w2.cell? ⟨w.heap.size,0,none⟩=some (.int .i64 (z:Int)):=(hgx2.cell 0).trans rfl
   have Hcall:=Lib.hid hcall
   have Hno:=Lib.hid hno
   clear hcall hno hx hE3 hkw hgx2 hb2 hE2 hgone q0 r0 q3
   go_wp2_with fail
   refine Hcall.out.mono ?_
   rintro e w3 ⟨rfl,hE4,hk4⟩
   have HE4:=Lib.hid hE4
   have Hk4:=Lib.hid hk4
   clear hE4 hk4
   go_wp2_with fail
   go_ret
   exact ⟨rfl,⟨pr,fun x=>⟨fun h=>⟨h,Hno.out x h⟩,fun h=>h.1⟩,HE4.out⟩,Hk4.out⟩
 · have hgx2:Bk w2 w.heap.size 3 #[.int .i64 (z:Int)]:=(Hgx.out.drewN nq).below hb2 (by have:=Hsz.out;simp;omega)
   have hE3:=hE2.below hb2
   have hi:=(List.getElem?_eq_some_iff.1 hpi).1
   have hgn:=PermGone_any F gp R P2 i pr w2 hE3 hi
   have Hsrt:=Lib.hid hE3.2.1
   have Hj1:=Lib.hid (fun y (hy:y∈pr) x (hx:x∈pr) (e:y.1=x.1)=>hE3.inj hy hx e)
   have hi0:decide ((i:Int)≥0)=true:=by simp
   have hsz2:=hb2.size
   have Hpi:=Lib.hid hpi
   have Hxz:=Lib.hid hxz
   have Hb2:=Lib.hid hb2
   have Hgx2:=Lib.hid hgx2
   clear hpi hxz hgx2 hb2 hE3 hE2 hgone q0 r0 q3
   go_wp2_with fail
   refine hgn.mono ?_
   rintro e w3 ⟨rfl,hE4,hk4⟩
   have hgx3:Bk w3 w.heap.size 3 #[.int .i64 (z:Int)]:=hk4.bk Hgx2.out fun e=>by
    have:=HF.out _ e
    omega
   have hkw:Keep F w w3:=((Keep.of_below (below_drewN HbW.out nq)).trans (Keep.of_below Hb2.out)).trans hk4
   have hmem:∀y,y∈delN pr i↔y∈pr∧y.2≠z:=fun y=>by
    rw [del_mem Hsrt.out hi]
    have he:pr[i]=x:=by
        have h9:=Hpi.out
        rw [List.getElem?_eq_getElem hi] at h9
        injection h9
    rw [he]
    have hxm:x∈pr:=List.mem_of_getElem? Hpi.out
    refine and_congr_right fun hy=>not_congr ⟨fun e=>?_,fun e=>?_⟩
    · rw [Hj1.out y hy x hxm e]
      exact Hxz.out
    · rw [Hinj.out y hy x hxm (by rw [e,Hxz.out])]
   have hE5:=hE4.mono (G:=Gw F w.heap.size) fun b _ f=>by
    rcases f with f | f
    · exact .inl f
    · exact .inr (by have:=Hsz.out;simp at hsz2;omega)
   obtain ⟨ga,vl,vo,vt,vf,ks,C,tk,fr,hx,hcall⟩:=Hrest.out w3 (delN pr i) hmem hE5 hkw hgx3
   have d3:w3.cell? ⟨gp,4,none⟩=some (.int .i64 (P2:Int)):=(hx.at_.blk.cell 4).trans rfl
   have f3:=hx.at_.blk.frozen 4
   have hgp2:=hx.at_.blk.lt
   have s0:w3.cell? ⟨w.heap.size,0,none⟩=some (.int .i64 (z:Int)):=(hgx3.cell 0).trans rfl
   have Hcall:=Lib.hid hcall
   have Hmem:=Lib.hid hmem
   clear hcall hmem hx hE5 hE4 hkw hgx3 hk4 hgn
   go_wp2_with fail
   refine Hcall.out.mono ?_
   rintro e w4 ⟨rfl,hE6,hk6⟩
   have HE6:=Lib.hid hE6
   have Hk6:=Lib.hid hk6
   clear hE6 hk6
   go_wp2_with fail
   go_ret
   exact ⟨rfl,⟨_,Hmem.out,HE6.out⟩,Hk6.out⟩
end Go.Proofs.YtipaccakmndkgaaGreatDoor
