/- Lemmas of the walk. Conditions: each its own. -/
import Derived.Test.YthldmddkfbijhaaGreatDoorPsr22
import Derived.Test.YthldmddkfbijhaaGreatDoorPsr23
import Derived.Test.YthldmddkfbijhaaGreatDoorProg
import Derived.Test.YthldmddkfbijhaaGreatDoorShl
import Derived.Test.YthldmddkfbijhaaGreatDoorShi
import Derived.Test.YthldmddkfbijhaaGreatDoorShs
set_option linter.all false
set_option maxRecDepth 100000
set_option maxHeartbeats 4000000
namespace Go.Proofs.YthldmddkfbijhaaGreatDoor
section
open Go.RowKit Go.Shelf
theorem sR (F:Nat->Prop) (gp R P i:Nat) (pr:List (Nat×Nat)) (w:World) (h:PermE w F gp R P pr) (hi:i < pr.length):
 Calls Tryz.prog 157 #[gp,(i:Int)] w fun e w'=>e=.returned (.tuple #[])/\PermE w' (Gw F w.heap.size) gp R P (aF pr i)/\Keep F w w':=by
 obtain ⟨⟨ga,vl,vo,vt,vf,ks,C,tk,fr,hx,rfl⟩,hsort,hbd⟩:=h;rw [zBc] at hi;have a:=hx.at_;have hkl:=iA hx.nd a.lt;have hC1:=hx.sz;obtain ⟨k,hk⟩:∃k,ks[i]?=some k:=⟨_,zAa hi⟩;have hkm:=zAd hk;have htk:=(hx.tkk k).2 hkm;obtain ⟨go,co,evo,_,hgo⟩:=World.ownsRow.form a.orow oM;have ho:=a.orow;rw [evo] at ho;have c0:w.cell? ⟨gp,0,none⟩=some (.pointer (some ⟨ga,0,none⟩)):=(a.blk.cell 0).trans rfl;have c2:w.cell? ⟨gp,2,none⟩=some (.slice (some ⟨go,0,none⟩) ks.length co):=(a.blk.cell 2).trans (by rw [evo];rfl);have ck:w.cell? ⟨go,i,none⟩=some (.int .i64 (k:Int)):=(World.ownsRow.cellAt ho i oM).trans (by rw [zAf,hk];rfl);have hgp:=a.blk.lt;have hfl:fr.length<=1000:=by have:=iA hx.frn fun x hxx=>(zAc.1 ((hx.frk x).1 hxx)).1;have:=hx.tkl;omega
 obtain ⟨n,hn⟩:=eqx ks.length;have hn9:n<=1000:=oM;rw [hn] at c2 hi ho;have hiI:(i:Int) < (n:Int):=oM;have hi0:(0:Int)<=(i:Int):=oM;have h1i:wrap64 ((i:Int)+1)=((i+1:Nat):Int):=by rw [dI oM oM];rfl
 obtain ⟨HX,Hn,Hk,Htk,Hsort,Hbd,Hevo,Hkm⟩:=hqq8 hx hn hk htk hsort hbd evo hkm;clear hx hn hk htk hsort hbd evo ho a hkm;go_enter Tryz.func157,Tryz.ntmps157;go_wp2_with fail;refine wp_region_any kR ?_;refine bH [4,5,6,7,8,9,10,11,12,13,14,15,16] (AF ga vt vf) 12 [12] (fun w2=>PermX w2 F gp ga vl vo vt vf R P ks C tk fr) (fun _ w2=>ArenaE w2 (Gw (AF ga vt vf) w.heap.size) ga (tk.set k false) (fr++ [k])) [is gp,is gp,is gp,is ga,is gp,is gp,is (.pointer (some ⟨gp,2,none⟩)),is (.slice (some ⟨go,0,none⟩) n co),is (i:Int),is (.pointer (some ⟨go,i,none⟩)),is (k:Int),nS (AF ga vt vf) 3 #[(k:Int)] fun g=>.slice (some ⟨g,0,none⟩) 1 1,cR] _ _ rfl kR kR (HX.out.drewN 1) (fun w2 w3 h _ hg=> { h with at_:=h.at_.below hg }) (fun _ _ _ h k=>h.keep (G:=fun _=>False) (Keep.of_below k) fun _ _ _ _ _ _ f=>f) tA3 ?_ ?_
 · refine aM ?_;refine pH3 0 (.pointer (some ⟨gp,0,none⟩)) ?_;refine pV3 0 4 ?_;refine pV3 1 5 ?_;refine sC3 (fun _ w5 hS _ _ _ _ hval _ _ _ hK=>?_) ?_
   · replace hS:Keep (AF ga vt vf) w w5:=kD hS;have e6:_=_:=hval 2 6 kR rfl;have c7:w5.cell? ⟨gp,0,none⟩=some (.pointer (some ⟨ga,0,none⟩)):=((hS.bk HX.out.at_.blk HX.out.gp_af).cell 0).trans rfl;go_simp;exact kq hK rfl
   refine pH3 0 (.pointer (some ⟨gp,0,none⟩)) ?_;refine pV3 4 8 ?_;refine pV3 5 9 ?_;refine sC3 (fun _ w5 hS _ _ _ _ hval _ _ _ hK=>?_) ?_
   · replace hS:Keep (AF ga vt vf) w w5:=kD hS;have e10:_=_:=hval 6 10 kR rfl;have c11:w5.cell? ⟨gp,2,none⟩=some (.slice (some ⟨go,0,none⟩) n co):=(hS.cell (p:=⟨gp,2,none⟩) hgp HX.out.gp_af).trans c2;go_simp;exact kq hK rfl
   refine pH3 1 (.int .i64 (i:Int)) ?_;refine pW3 7 11 8 12 ?_;refine sC3 (fun _ w5 hS _ _ _ _ hval _ _ _ hK=>?_) ?_
   · replace hS:Keep (AF ga vt vf) w w5:=kD hS;have e13:_=_:=hval 9 13 kR rfl;have c14:w5.cell? ⟨go,i,none⟩=some (.int .i64 (k:Int)):=(hS.cell (p:=⟨go,i,none⟩) hgo (HX.out.ord_af (by rw [Hevo.out];rfl))).trans ck;go_simp;exact kq hK rfl
   refine sC3 (fun _ w5 hS _ _ _ _ hval _ _ _ hK=>?_) ?_
   · replace hS:Keep (AF ga vt vf) w w5:=kD hS;have e14:_=_:=hval 10 14 kR rfl;go_simp;exact hK _ _ (aJ (bR.alloc nL _)) ⟨_,rfl,Bk.new _ _ _,fun f=>by have h1:=HX.out.af_lt f;have h2:=hS.size;omega⟩
   refine sC3 (fun ev w5 hS hU _ _ _ hval _ _ _ hK=>?_) ?_
   · replace hS:Keep (AF ga vt vf) w w5:=kD hS;have hpre:=hU rfl;have e7:_=_:=hval 3 7 kR rfl;have p15:(nS (AF ga vt vf) 3 #[(k:Int)] fun g=>.slice (some ⟨g,0,none⟩) 1 1) (ev (.tmp 15)) w5:=hval 11 15 kR rfl;obtain ⟨g15,e15,hb15,hn15⟩:=p15;go_simp;refine (aDF (AF ga vt vf) ga g15 k tk fr w5 hpre.arena Htk.out hb15 oM).mono ?_;rintro e w8 ⟨rfl,hA8,hk8⟩
     exact hK _ _ (aW hk8) (hA8.mono fun b _ f=>by
        rcases f with f | f;exact .inl f
        · exact .inr (zAk hS.size f))
   exact aC
 · intro ev w6 hS hval hall;replace hS:Keep (AF ga vt vf) w w6:=kD hS;obtain ⟨vJ,pJ⟩:∃vJ0,(fun _ w2=>ArenaE w2 (Gw (AF ga vt vf) w.heap.size) ga (tk.set k false) (fr++ [k])) vJ0 w6:=hall 12 dC;simp only [aI,zq1,zq2,Act.put,zq3,zq4,zq5];clear hval hall;obtain ⟨w3,hw3⟩:∃w3,w3=w6:=⟨_,rfl⟩;subst hw3;have hk3:=hS;have hA3:=pJ;clear c0 c2 ck;have hgp3:=hk3.bk HX.out.at_.blk HX.out.gp_af;have hvl3:=aA (w':=w3) HX.out.at_.lrow fun b cs _ hb=>hk3.bk hb (HX.out.pair_af hb);have hvo3:=aA (w':=w3) HX.out.at_.orow fun b cs hb hk=>hk3.bk hk (HX.out.ord_af hb);rw [Hn.out,Hevo.out,Hn.out] at hvo3;have c2:w3.cell? ⟨gp,2,none⟩=some (.slice (some ⟨go,0,none⟩) n co):=(hgp3.cell 2).trans (by rw [Hevo.out,Hn.out];rfl);have hgp3l:=hgp3.lt;have hkF3:Keep F w w3:=(Keep.refl F w).trans (hk3.mono fun b _ f=>HX.out.af f);have hA3':=ArenaE.mono hA3 (G:=fun b=>Gw (AF ga vt vf) w.heap.size b/\b < w3.heap.size) fun b hb f=>⟨f,hb⟩;have hdel:=aAq 0 (some ⟨go,0,none⟩) n co i ks w3 hvo3 hi oM;obtain ⟨Hgp3,Hvl3,Hvo3,HkF3,HA3,Hdel⟩:=hqq6 hgp3 hvl3 hvo3 hkF3 hA3' hdel;clear hgp3 hvl3 hvo3 hkF3 hA3 hA3' hdel hk3 pJ hS;go_wp2_with fail;refine Hdel.out.mono ?_;rintro e w4 ⟨rfl,ho4,hk4⟩;rw [show (Value.slice (some ⟨go,0,none⟩) n co).ownBlock=some go from rfl] at hk4;have hty:∀b t cs,t≠3->Bk w3 b t cs->¬(some go=some b):=fun b t cs ht hb e=>by obtain ⟨cs',hc⟩:=eW Hvo3.out (show (Value.slice (some ⟨go,0,none⟩) n co).ownBlock=some b from e);exact ht (aR hb hc).1
   have hgoaf:¬(Gw (AF ga vt vf) w.heap.size go/\go < w3.heap.size):=fun f=>by have e0:vo.ownBlock=some go:=(by rw [Hevo.out];rfl);rcases f.1 with f | f;exact HX.out.ord_af e0 f;have:=(HX.out.at_.orow.lt go e0).2;omega
   have hgp4:=hk4.bk Hgp3.out (hty _ _ _ dC Hgp3.out);have hvl4:=aA (w':=w4) Hvl3.out fun b cs _ hb=>hk4.bk hb (hty _ _ _ dC hb);have hA4:=HA3.out.keep hk4 fun b t cs _ _ f e=>by injection e with e;subst e;exact hgoaf f
   have hfgo:F go:=HX.out.fo go (by rw [Hevo.out];rfl);have hkF4:Keep F w w4:=HkF3.out.trans (hk4.mono fun b _ e=>by
    injection e with e;subst e;exact hfgo)
   have c2:w4.cell? ⟨gp,2,none⟩=some (.slice (some ⟨go,0,none⟩) n co):=(hgp4.cell 2).trans (by rw [Hevo.out,Hn.out];rfl);have f2:=hgp4.frozen 2;have hgp4l:=hgp4.lt;obtain ⟨Hgp4,Hvl4,HA4,HkF4,Ho4,Hgoaf⟩:=hqq6 hgp4 hvl4 hA4 hkF4 ho4 hgoaf;clear hgp4 hvl4 hA4 hkF4 ho4 hgoaf hty hk4 Hdel;go_wp2_with fail;go_end0;have hset:Keep (fun b=>b=gp) w4 (w4.setCell ⟨gp,2,none⟩ (.slice (some ⟨go,0,none⟩) (n - 1) co)):=Keep.setCell (F:=fun b=>b=gp) (Keep.refl _ _) (p:=⟨gp,2,none⟩) (.inl rfl) _;have hfar:∀b t cs,t≠166->Bk w4 b t cs->¬(b=gp):=fun b t cs ht hb e=>by subst e;exact ht (aR hb Hgp4.out).1
   obtain ⟨hAg,At,ct,Af,cf,h1,h2,h3,h4,h5⟩:=HA4.out.keep hset fun b t cs ht hb _=>hfar b t cs (fun e=>by subst e;revert ht;decide) hb;have hX:=HX.out;have hperm:(k::aF ks i).Perm ks:=eL Hk.out;have hnd:=hperm.nodup_iff.2 hX.nd;obtain ⟨hn1,hn2⟩:=List.nodup_cons.1 hnd;have hmem:∀x,x∈aF ks i↔x∈ks/\x≠k:=fun x=>by rw [<-hperm.mem_iff,List.mem_cons];constructor;intro hxx;exact ⟨.inr hxx,fun e=>hn1 (by rw [<-e];exact hxx)⟩;rintro ⟨h6 | h6,h7⟩;exact absurd h6 h7;exact h6
   have hdl:(aF ks i).length=n - 1:=(by have:=cZ ks (k:=i) (by rw [Hn.out];exact hi);have:=Hn.out;omega);have hAF:∀b,Gw (AF ga vt vf) w.heap.size b/\b < w3.heap.size->Gw F w.heap.size b:=fun b f=>by rcases f.1 with g | g;exact .inl (hX.af g);exact .inr g
   have hktl:k < tk.length:=(zAc.1 Htk.out).1;have hget:∀x,(tk.set k false)[x]?=if x=k then some false else tk[x]?:=fun x=>by
    rw [zBm];by_cases c:k=x
    · subst c;simp [hktl]
    · rw [zBw c,zBw (fun e=>c e.symm)]
   refine ⟨rfl,⟨⟨ga,vl,.slice (some ⟨go,0,none⟩) (n - 1) co,_,_,aF ks i,C,tk.set k false,fr++ [k],⟨⟨Hgp4.out.set 2 _,aA Hvl4.out fun b cs _ hb=>hset.bk hb (hfar _ _ _ dC hb),?_,h1,h2,h3,.inr fun e=>Hgoaf.out (h5 go e.symm),fun x hxx=>hX.at_.lt x ((hmem x).1 hxx).1,⟨zAp _,zAp _⟩⟩,.inl hX.fp,.inl hX.fa,fun b hb=>.inl (hX.fl b hb),fun b hb=>.inl (hX.fo b (by rw [Hevo.out];exact hb)),fun b hb=>hAF b (h4 b hb),fun b hb=>hAF b (h5 b hb),hn2,by rw [zAt];exact hX.tkl,fun x=>?_,?_,fun x=>?_,hX.sz⟩,(rX _ _ _).symm⟩,?_,fun x hxx=>?_⟩,Keep.setCell (F:=F) HkF4.out (p:=⟨gp,2,none⟩) (.inl hX.fp) _⟩;rw [hdl];exact aA Ho4.out fun b cs _ hb=>hset.bk hb (hfar _ _ _ dC hb)
   · rw [hget,hmem x,<-hX.tkk x];by_cases c:x=k
     · simp [c]
     · simp [c]
   · rw [List.nodup_append];refine ⟨hX.frn,by simp,fun x hxx y hy=>?_⟩;rw [List.mem_singleton] at hy;subst hy;intro e;subst e;have h8:=(hX.frk x).1 hxx;have h9:=Htk.out;rw [h9] at h8;cases h8
   · rw [hget,zCp,hX.frk x,List.mem_singleton];by_cases c:x=k
     · simp [c]
     · simp [c]
   unfold aF;rw [List.pairwise_append];have hso:=Hsort.out;refine ⟨hso.sublist (List.take_sublist _ _),hso.sublist (List.drop_sublist _ _),fun x hx y hy=>?_⟩;have:=List.pairwise_append.1 (show ((ks.map fun k=>(aB C k,aH C k)).take i++(ks.map fun k=>(aB C k,aH C k)).drop i).Pairwise (fun a b=>a.1 < b.1) by rw [zAu];exact hso);refine this.2.2 x hx y ?_;rw [<-List.drop_drop] at hy;exact List.mem_of_mem_drop hy;refine Hbd.out x ?_;unfold aF at hxx;rcases zCp.1 hxx with h6 | h6;exact List.mem_of_mem_take h6;exact List.mem_of_mem_drop h6
theorem aFH {l:List (Nat×Nat)} {i:Nat} (hp:l.Pairwise (fun a b=>a.1 < b.1)) (hi:i < l.length) (x:Nat×Nat):x∈aF l i↔x∈l/\x.1≠l[i].1:=by
 have hperm:(l[i]::aF l i).Perm l:=eL (zAa hi);have hpw:(l[i]::aF l i).Pairwise (fun a b:Nat×Nat=>a.1≠b.1):=hperm.symm.pairwise (hp.imp fun {a b} h=>Nat.ne_of_lt h) fun {a b} h e=>h e.symm;obtain ⟨h1,h2⟩:=List.pairwise_cons.1 hpw;constructor;intro hx;exact ⟨hperm.subset (by simp [hx]),fun e=>h1 x hx e.symm⟩;rintro ⟨h3,h4⟩;rcases List.mem_cons.1 (hperm.symm.subset h3) with rfl | h5;exact absurd rfl h4;exact h5
def zJ (F:Nat->Prop) (gp R P row:Nat) (pr:List (Nat×Nat)) (w:World) (e:Ending) (w':World):Prop:=
 ∃(code:Int) (pr1:List (Nat×Nat)),e=.returned (.int .i64 code)/\(∀x,x∈pr1↔x∈pr/\x.1≠row)/\PermE w' (Gw F w.heap.size) gp R P pr1/\Keep F w w'
theorem aBY (F:Nat->Prop) (gp R P row:Nat) (pr:List (Nat×Nat)) (w:World) (h:PermE w F gp R P pr):
 Calls Tryz.prog 155 #[gp,(row:Int)] w (zJ F gp R P row pr w):=by
 have h0:=h;obtain ⟨⟨ga,vl,vo,vt,vf,ks,C,tk,fr,hx,rfl⟩,hsort,hbd⟩:=h;have hs0:=List.pairwise_map.1 hsort;have hs:ks.Pairwise (fun a b=>aB C a < aB C b):=hs0;have hkl:=iA hx.nd hx.at_.lt;have hC1:=hx.sz;have hat:=kN 0 gp ga vl vo vt vf R P ks C tk fr row w hx.at_ hs oM;unfold zJ;by_cases hex:∃k∈ks,aB C k=row
 · rw [zBz hex] at hat;obtain ⟨k,hk1,hk2⟩:=(tT hs row).2 hex;obtain ⟨i,hi⟩:∃i,(ks.countP fun k=>decide (aB C k < row))=i:=⟨_,rfl⟩;rw [hi] at hat hk1;have hil:=(zAc.1 hk1).1;obtain ⟨Hk1,Hk2,Hs,H0⟩:=hqq4 hk1 hk2 hsort h0;clear hx hsort hbd hs hs0 hex h0 hk1 hk2 hi;go_enter Tryz.func155,Tryz.ntmps155;go_wp2_with fail;refine hat.mono ?_;rintro e w1 ⟨rfl,hb1⟩;have Hb1:=lhd hb1;clear hat hb1;go_wp2_with fail;have hE1:=H0.out.below Hb1.out;refine (sR F gp R P i _ w1 hE1 (by rw [zBc];exact hil)).mono ?_;rintro e w2 ⟨rfl,hE2,hk2⟩;obtain ⟨HE2,Hkk⟩:=hqq2 hE2 hk2;clear hE1 hE2 hk2;go_wp2_with fail;go_ret;refine ⟨0,_,rfl,fun x=>?_,HE2.out.mono fun b _ f=>?_,(Keep.of_below Hb1.out).trans Hkk.out⟩
   · have hl:i < (ks.map fun k=>(aB C k,aH C k)).length:=(by rw [zBc];exact hil);rw [aFH Hs.out hl];have he:((ks.map fun k=>(aB C k,aH C k))[i]).1=row:=(by rw [List.getElem_map];have h9:=Hk1.out;rw [zAa hil] at h9;injection h9 with h9;rw [h9];exact Hk2.out);rw [he]
   rcases f with f | f;exact .inl f;exact .inr (by have:=Hb1.out.size;omega)
 · rw [zBy hex] at hat;obtain ⟨i,hi⟩:∃i,(ks.countP fun k=>decide (aB C k < row))=i:=⟨_,rfl⟩;rw [hi] at hat;obtain ⟨Hex,H0⟩:=hqq2 hex h0;clear hx hsort hbd hs hs0 hex h0 hi;go_enter Tryz.func155,Tryz.ntmps155;go_wp2_with fail;refine hat.mono ?_;rintro e w1 ⟨rfl,hb1⟩;have Hb1:=lhd hb1;clear hat hb1;go_wp2_with fail;go_ret;refine ⟨7,_,rfl,fun x=>?_,(H0.out.below Hb1.out).mono fun b _ f=>.inl f,Keep.of_below Hb1.out⟩;constructor;intro hx;refine ⟨hx,fun e=>?_⟩;obtain ⟨k,hk,rfl⟩:=zAy.1 hx;exact Hex.out ⟨k,hk,e⟩;intro hx;exact hx.1
theorem aJN {a b z:Nat} (h:a < b) (ha:a≠z) (hb:b≠z):bC a z < bC b z:=by
 unfold bC;split <;> split <;> omega
theorem zE (F:Nat->Prop) (gp R P z:Nat) (pr:List (Nat×Nat)) (w:World) (h:PermE w F gp R P pr) (hF:∀b,F b->b < w.heap.size) (hz:z < R) (hR:R<=100000) (hP:P<=100000):
 Calls Tryz.prog 93 #[gp,(z:Int)] w fun e w'=>e=.returned (.int .i64 0)/\(∃pr1:List (Nat×Nat),(∀x,x∈pr1↔x∈pr/\x.1≠z)/\PermE w' (Gw F w.heap.size) gp (R - 1) P (pr1.map fun x=>(bC x.1 z,x.2)))/\Keep F w w':=by
 obtain ⟨R1,rfl⟩:∃R1,R=R1+1:=⟨R - 1,by omega⟩;rw [zBb];have hgp:gp < w.heap.size:=by obtain ⟨⟨ga,vl,vo,vt,vf,ks,C,tk,fr,hx,_⟩,_⟩:=h;exact hx.at_.blk.lt
 have c3:w.cell? ⟨gp,3,none⟩=some (.int .i64 ((R1+1:Nat):Int)):=by obtain ⟨⟨ga,vl,vo,vt,vf,ks,C,tk,fr,hx,_⟩,_⟩:=h;exact (hx.at_.blk.cell 3).trans rfl
 have hzR:¬((z:Int)>=((R1+1:Nat):Int)):=oM;have hzN:¬R1+1<=z:=oM;have hzb:decide ((z:Int)>=((R1+1:Nat):Int))=false:=zBy hzR;have hz0:decide ((z:Int) < 0)=false:=by simp
 have e1:IntKind.i64.wrap (((R1+1:Nat):Int) - 1)=(R1:Int):=by rw [IntKind.wrap_i64];omega
 obtain ⟨R2,hR2⟩:=eqx (R1+1);rw [hR2] at c3 hzR hzb e1 h hR hz hzN;obtain ⟨W,hW⟩:=eqx (w.alloc (.cells #[(z:Int)] 3));have hbW:Below w.heap.size w W:=by rw [<-hW];exact bR.alloc nL _
 have hgx:Bk W w.heap.size 3 #[(z:Int)]:=by rw [<-hW];exact Bk.new w _ _
 have q0:∀q,(W.drewN q).cell? ⟨w.heap.size,0,none⟩=some (.int .i64 (z:Int)):=fun q=>(hgx.cell 0).trans rfl;have r0:W.cell? ⟨w.heap.size,0,none⟩=some (.int .i64 (z:Int)):=(hgx.cell 0).trans rfl;have q3:W.cell? ⟨gp,3,none⟩=some (.int .i64 (R2:Int)):=(hbW.cell (p:=⟨gp,3,none⟩) hgp).trans c3;have hszW:W.heap.size=w.heap.size+1:=by rw [<-hW,World.size_alloc]
 have hgpW:gp < W.heap.size:=oM;have hE:=h.below hbW;obtain ⟨HE,HW,HbW,Hgx,HF,HR2,Hsz⟩:=hqq7 hE hW hbW hgx hF hR2 hszW;clear h hE hW hbW hgx hF hR2 hszW c3;go_enter Tryz.func93,Tryz.ntmps93;go_wp2_with fail;rw [HW.out];go_quiet (fail)
 rename_i nq
 have hmf:∀(fn:Fn) (first cap:Array Value) (w:World),(Instr.makeFunc fn first cap).run Tryz.prog w=.ok (.func fn first cap) w:=fun _ _ _ _=>rfl;go_wp2_with fail;have hE2:=HE.out.below (below_drewN bR nq);have hdr:=aBY F gp R2 P z pr (W.drewN nq) hE2;unfold zJ at hdr;refine hdr.mono ?_;rintro e w2 ⟨code,pr1,rfl,hmem,hE3,hk2⟩;obtain ⟨⟨ga,vl,vo,vt,vf,ks,C,tk,fr,hx,rfl⟩,hsort,hbd⟩:=hE3;have hat:=hx.at_;have d3:w2.cell? ⟨gp,3,none⟩=some (.int .i64 (R2:Int)):=(hat.blk.cell 3).trans rfl;have f3:=hat.blk.frozen 3;have hgp2:=hat.blk.lt;have hgx2:Bk w2 w.heap.size 3 #[(z:Int)]:=hk2.bk (Hgx.out.drewN nq) fun e=>by have:=HF.out _ e;omega
 have s0:w2.cell? ⟨w.heap.size,0,none⟩=some (.int .i64 (z:Int)):=(hgx2.cell 0).trans rfl;obtain ⟨HX,Hsort,Hbd,Hmem,Hk2,Hgx2⟩:=hqq6 hx hsort hbd hmem hk2 hgx2;clear hx hsort hbd hmem hk2 hgx2 hat hdr hE2 q0 r0 q3;go_wp2_with fail;have hat2:=HX.out.at_.set_rows R1;have hgx3:=Hgx2.out.far (p:=⟨gp,3,none⟩) (fun e=>by have e':w.heap.size=gp:=e;omega) (.int .i64 (R1:Int));have hvl:∀b,vl.ownBlock=some b->b≠w.heap.size:=fun b hb e=>by subst e;obtain ⟨cs,hc⟩:=eW HX.out.at_.lrow hb;exact absurd (aR hc Hgx2.out).1 dC
 have hC:∀k,k∈ks->aB C k<=1000000000000/\aH C k<=1000000000000:=fun k hk=>by have:=Hbd.out (aB C k,aH C k) (zAy.2 ⟨k,hk,rfl⟩);have h1:aB C k < R2:=this.1;have h2:aH C k < P:=this.2;omega
 have hkl:=iA HX.out.nd HX.out.at_.lt;refine (zH 0 gp ga w.heap.size z vl vo vt vf R1 P ks C tk fr _ hat2 HX.out.nd (by have:=HX.out.sz;omega) hgx3 hvl hC).mono ?_;rintro e w3 ⟨rfl,hk3,C',hl',hf',hat3⟩;have hfg:∀b,Gw F (W.drewN nq).heap.size b->Gw F w.heap.size b:=fun b f=>by rcases f with f | f;exact .inl f;exact .inr (by have:=Hsz.out;simp at f;omega)
 have hkF:Keep F w w3:=((Keep.of_below (below_drewN HbW.out nq)).trans Hk2.out).trans' ((Keep.setCell (F:=Gw F (W.drewN nq).heap.size) (Keep.refl _ _) (p:=⟨gp,3,none⟩) (.inl HX.out.fp) _).trans (hk3.mono fun b _ hb=>HX.out.fl b hb)) fun b hb f=>by rcases hfg b f with g | g;exact g;omega
 have hE4:PermE w3 (Gw F w.heap.size) gp R1 P ((ks.map fun k=>(aB C k,aH C k)).map fun x=>(bC x.1 z,x.2)):=by
  refine PermE.mono (F:=Gw F (W.drewN nq).heap.size) ⟨⟨ga,vl,vo,vt,vf,ks,C',tk,fr,⟨hat3,HX.out.fp,HX.out.fa,HX.out.fl,HX.out.fo,HX.out.ft,HX.out.ff,HX.out.nd,by rw [hl'];exact HX.out.tkl,HX.out.tkk,HX.out.frn,HX.out.frk,by rw [hl'];exact HX.out.sz⟩,(aBg (f:=fun x=>(bC x.1 z,x.2)) hf').symm⟩,?_,fun x hx=>?_⟩ fun b _ f=>hfg b f;refine List.pairwise_map.2 (List.Pairwise.imp_of_mem (fun {a b} ha hb hab=>?_) Hsort.out);exact aJN hab ((Hmem.out a).1 ha).2 ((Hmem.out b).1 hb).2
  · obtain ⟨y,hy,rfl⟩:=zAy.1 hx;have h1:=Hbd.out y hy;have h2:=((Hmem.out y).1 hy).2;have h3:=HR2.out;refine ⟨?_,h1.2⟩;show bC y.1 z < R1;unfold bC;split <;> omega
 obtain ⟨HE4,HkF⟩:=hqq2 hE4 hkF;clear hkF hE4 hat3 hf' hk3 hl' hC hvl hgx3 hat2;go_wp2_with fail;go_ret;exact ⟨rfl,⟨_,Hmem.out,HE4.out⟩,HkF.out⟩
theorem zF (F:Nat->Prop) (gp R P z:Nat) (pr:List (Nat×Nat)) (w:World) (h:PermE w F gp R P pr) (hF:∀b,F b->b < w.heap.size) (hz:z < P) (hR:R<=100000) (hP:P<=100000) (hinj:∀x∈pr,∀y∈pr,x.2=y.2->x=y):
 Calls Tryz.prog 94 #[gp,(z:Int)] w fun e w'=>e=.returned (.int .i64 0)/\(∃pr1:List (Nat×Nat),(∀x,x∈pr1↔x∈pr/\x.2≠z)/\PermE w' (Gw F w.heap.size) gp R (P - 1) (pr1.map fun x=>(x.1,bC x.2 z)))/\Keep F w w':=by
 obtain ⟨P1,rfl⟩:∃P1,P=P1+1:=⟨P - 1,by omega⟩;rw [zBb];have hgp:gp < w.heap.size:=by obtain ⟨⟨ga,vl,vo,vt,vf,ks,C,tk,fr,hx,_⟩,_⟩:=h;exact hx.at_.blk.lt
 have c3:w.cell? ⟨gp,4,none⟩=some (.int .i64 ((P1+1:Nat):Int)):=by obtain ⟨⟨ga,vl,vo,vt,vf,ks,C,tk,fr,hx,_⟩,_⟩:=h;exact (hx.at_.blk.cell 4).trans rfl
 have hzR:¬((z:Int)>=((P1+1:Nat):Int)):=oM;have hzN:¬P1+1<=z:=oM;have hzb:decide ((z:Int)>=((P1+1:Nat):Int))=false:=zBy hzR;have hz0:decide ((z:Int) < 0)=false:=by simp
 have e1:IntKind.i64.wrap (((P1+1:Nat):Int) - 1)=(P1:Int):=by rw [IntKind.wrap_i64];omega
 obtain ⟨P2,hP2⟩:=eqx (P1+1);rw [hP2] at c3 hzR hzb e1 h hP hz hzN;obtain ⟨W,hW⟩:=eqx (w.alloc (.cells #[(z:Int)] 3));have hbW:Below w.heap.size w W:=by rw [<-hW];exact bR.alloc nL _
 have hgx:Bk W w.heap.size 3 #[(z:Int)]:=by rw [<-hW];exact Bk.new w _ _
 have q0:∀q,(W.drewN q).cell? ⟨w.heap.size,0,none⟩=some (.int .i64 (z:Int)):=fun q=>(hgx.cell 0).trans rfl;have r0:W.cell? ⟨w.heap.size,0,none⟩=some (.int .i64 (z:Int)):=(hgx.cell 0).trans rfl;have q3:W.cell? ⟨gp,4,none⟩=some (.int .i64 (P2:Int)):=(hbW.cell (p:=⟨gp,4,none⟩) hgp).trans c3;have hszW:W.heap.size=w.heap.size+1:=by rw [<-hW,World.size_alloc]
 have hgpW:gp < W.heap.size:=oM;have hE:=h.below hbW;obtain ⟨HE,HW,HbW,Hgx,HF,HP2,Hsz,Hinj⟩:=hqq8 hE hW hbW hgx hF hP2 hszW hinj;clear h hE hW hbW hgx hF hP2 hszW c3 hinj;go_enter Tryz.func94,Tryz.ntmps94;go_wp2_with fail;rw [HW.out];go_quiet (fail)
 rename_i nq
 have hmf:∀(fn:Fn) (first cap:Array Value) (w:World),(Instr.makeFunc fn first cap).run Tryz.prog w=.ok (.func fn first cap) w:=fun _ _ _ _=>rfl;go_wp2_with fail;have hE2:=HE.out.below (below_drewN bR nq);have hgone:Calls Tryz.prog 149 #[gp,(z:Int)] (W.drewN nq) fun e w'=>Below (W.drewN nq).heap.size (W.drewN nq) w'/\((e=.returned (.int .i64 (-1))/\∀x∈pr,x.2≠z)∨∃i x,e=.returned (.int .i64 ((i:Nat):Int))/\pr[i]?=some x/\x.2=z):=by
  obtain ⟨⟨ga,vl,vo,vt,vf,ks,C,tk,fr,hx,rfl⟩,hsort,hbd⟩:=hE2;have hkl:=iA hx.nd hx.at_.lt;have hC1:=hx.sz;refine (jJ 0 gp ga vl vo vt vf R P2 ks C tk fr z _ hx.at_ oM).mono ?_;rintro e w' ⟨rfl,hb⟩;refine ⟨hb,?_⟩;by_cases hex:∃k∈ks,aH C k=z
  · obtain ⟨q,x,hq,hx1,hx2⟩:=uK (p:=fun k=>decide (aH C k=z)) (l:=ks) (by obtain ⟨k,hk1,hk2⟩:=hex;exact ⟨k,hk1,zBz hk2⟩) 0;rw [hq,zBi];exact .inr ⟨q,_,rfl,by rw [zAf,hx1];rfl,of_decide_eq_true hx2⟩
  rw [kY (p:=fun k=>decide (aH C k=z)) (l:=ks) (fun k hk=>zBy fun e=>hex ⟨k,hk,e⟩) 0];refine .inl ⟨rfl,fun x hx=>?_⟩;obtain ⟨k,hk,rfl⟩:=zAy.1 hx;exact fun e=>hex ⟨k,hk,e⟩
 have hrest:∀w2 (pr1:List (Nat×Nat)),(∀x,x∈pr1↔x∈pr/\x.2≠z)->PermE w2 (Gw F w.heap.size) gp R P2 pr1->Keep F w w2->Bk w2 w.heap.size 3 #[(z:Int)]->∃ga vl vo vt vf ks C tk fr,PermX w2 (Gw F w.heap.size) gp ga vl vo vt vf R P2 ks C tk fr/\Calls Tryz.prog 118 #[gp,.func (.func 158) #[] #[w.heap.size]] (w2.setCell ⟨gp,4,none⟩ (.int .i64 (P1:Int))) fun e w'=>e=.returned (.tuple #[])/\PermE w' (Gw F w.heap.size) gp R P1 (pr1.map fun x=>(x.1,bC x.2 z))/\Keep F w w':=by
  rintro w2 pr1 hmem ⟨⟨ga,vl,vo,vt,vf,ks,C,tk,fr,hx,rfl⟩,hsort,hbd⟩ hk2 hgx2;refine ⟨ga,vl,vo,vt,vf,ks,C,tk,fr,hx,?_⟩;have hat2:=hx.at_.set_places P1;have hgx3:=hgx2.far (p:=⟨gp,4,none⟩) (fun e=>by have e':w.heap.size=gp:=e;omega) (.int .i64 (P1:Int));have hvl:∀b,vl.ownBlock=some b->b≠w.heap.size:=fun b hb e=>by subst e;obtain ⟨cs,hc⟩:=eW hx.at_.lrow hb;exact absurd (aR hc hgx2).1 dC
  have hC:∀k,k∈ks->aB C k<=1000000000000/\aH C k<=1000000000000:=fun k hk=>by have:=hbd (aB C k,aH C k) (zAy.2 ⟨k,hk,rfl⟩);have h1:aB C k < R:=this.1;have h2:aH C k < P2:=this.2;omega
  have hkl:=iA hx.nd hx.at_.lt;refine (zI 0 gp ga w.heap.size z vl vo vt vf R P1 ks C tk fr _ hat2 hx.nd (by have:=hx.sz;omega) hgx3 hvl hC).mono ?_;rintro e w3 ⟨rfl,hk3,C',hl',hf',hat3⟩;refine ⟨rfl,⟨⟨ga,vl,vo,vt,vf,ks,C',tk,fr,⟨hat3,hx.fp,hx.fa,hx.fl,hx.fo,hx.ft,hx.ff,hx.nd,by rw [hl'];exact hx.tkl,hx.tkk,hx.frn,hx.frk,by rw [hl'];exact hx.sz⟩,(aBg (f:=fun x=>(x.1,bC x.2 z)) hf').symm⟩,List.pairwise_map.2 (hsort.imp fun {a b} hab=>hab),fun x hxx=>?_⟩,?_⟩
  · obtain ⟨y,hy,rfl⟩:=zAy.1 hxx;have h1:=hbd y hy;have h2:=((hmem y).1 hy).2;have h3:=HP2.out;refine ⟨h1.1,?_⟩;show bC y.2 z < P1;unfold bC;split <;> omega
  · refine hk2.trans' ((Keep.setCell (F:=Gw F w.heap.size) (Keep.refl _ _) (p:=⟨gp,4,none⟩) (.inl hx.fp) _).trans (hk3.mono fun b _ hb=>hx.fl b hb)) fun b hb f=>by rcases f with g | g;exact g;omega
 have Hrest:=lhd hrest;clear hrest;refine hgone.mono ?_;rintro e w2 ⟨hb2,⟨rfl,hno⟩|⟨i,x,rfl,hpi,hxz⟩⟩
 · have hgx2:Bk w2 w.heap.size 3 #[(z:Int)]:=(Hgx.out.drewN nq).below hb2 (by have:=Hsz.out;simp;omega);have hkw:Keep F w w2:=(Keep.of_below (below_drewN HbW.out nq)).trans (Keep.of_below hb2);have hE3:=(hE2.below hb2).mono (G:=Gw F w.heap.size) fun b _ f=>.inl f;obtain ⟨ga,vl,vo,vt,vf,ks,C,tk,fr,hx,hcall⟩:=Hrest.out w2 pr (fun x=>⟨fun h=>⟨h,hno x h⟩,fun h=>h.1⟩) hE3 hkw hgx2;have d3:w2.cell? ⟨gp,4,none⟩=some (.int .i64 (P2:Int)):=(hx.at_.blk.cell 4).trans rfl;have f3:=hx.at_.blk.frozen 4;have hgp2:=hx.at_.blk.lt;have s0:w2.cell? ⟨w.heap.size,0,none⟩=some (.int .i64 (z:Int)):=(hgx2.cell 0).trans rfl;obtain ⟨Hcall,Hno⟩:=hqq2 hcall hno;clear hcall hno hx hE3 hkw hgx2 hb2 hE2 hgone q0 r0 q3;go_wp2_with fail;refine Hcall.out.mono ?_;rintro e w3 ⟨rfl,hE4,hk4⟩;obtain ⟨HE4,Hk4⟩:=hqq2 hE4 hk4;clear hE4 hk4;go_wp2_with fail;go_ret;exact ⟨rfl,⟨pr,fun x=>⟨fun h=>⟨h,Hno.out x h⟩,fun h=>h.1⟩,HE4.out⟩,Hk4.out⟩
 · have hgx2:Bk w2 w.heap.size 3 #[(z:Int)]:=(Hgx.out.drewN nq).below hb2 (by have:=Hsz.out;simp;omega);have hE3:=hE2.below hb2;have hi:=(zAc.1 hpi).1;have hgn:=sR F gp R P2 i pr w2 hE3 hi;have Hsrt:=lhd hE3.2.1;have Hj1:=lhd (fun y (hy:y∈pr) x (hx:x∈pr) (e:y.1=x.1)=>hE3.inj hy hx e);have hi0:decide ((i:Int)>=0)=true:=(by simp);have hsz2:=hb2.size;obtain ⟨Hpi,Hxz,Hb2,Hgx2⟩:=hqq4 hpi hxz hb2 hgx2;clear hpi hxz hgx2 hb2 hE3 hE2 hgone q0 r0 q3;go_wp2_with fail;refine hgn.mono ?_;rintro e w3 ⟨rfl,hE4,hk4⟩;have hgx3:Bk w3 w.heap.size 3 #[(z:Int)]:=hk4.bk Hgx2.out fun e=>by have:=HF.out _ e;omega
   have hkw:Keep F w w3:=((Keep.of_below (below_drewN HbW.out nq)).trans (Keep.of_below Hb2.out)).trans hk4;have hmem:∀y,y∈aF pr i↔y∈pr/\y.2≠z:=fun y=>by
    rw [aFH Hsrt.out hi];have he:pr[i]=x:=(by have h9:=Hpi.out;rw [zAa hi] at h9;injection h9);rw [he];have hxm:x∈pr:=zAd Hpi.out;refine and_congr_right fun hy=>not_congr ⟨fun e=>?_,fun e=>?_⟩;rw [Hj1.out y hy x hxm e];exact Hxz.out
    · rw [Hinj.out y hy x hxm (by rw [e,Hxz.out])]
   have hE5:=hE4.mono (G:=Gw F w.heap.size) fun b _ f=>by rcases f with f | f;exact .inl f;exact .inr (by have:=Hsz.out;simp at hsz2;omega)
   obtain ⟨ga,vl,vo,vt,vf,ks,C,tk,fr,hx,hcall⟩:=Hrest.out w3 (aF pr i) hmem hE5 hkw hgx3;have d3:w3.cell? ⟨gp,4,none⟩=some (.int .i64 (P2:Int)):=(hx.at_.blk.cell 4).trans rfl;have f3:=hx.at_.blk.frozen 4;have hgp2:=hx.at_.blk.lt;have s0:w3.cell? ⟨w.heap.size,0,none⟩=some (.int .i64 (z:Int)):=(hgx3.cell 0).trans rfl;obtain ⟨Hcall,Hmem⟩:=hqq2 hcall hmem;clear hcall hmem hx hE5 hE4 hkw hgx3 hk4 hgn;go_wp2_with fail;refine Hcall.out.mono ?_;rintro e w4 ⟨rfl,hE6,hk6⟩;obtain ⟨HE6,Hk6⟩:=hqq2 hE6 hk6;clear hE6 hk6;go_wp2_with fail;go_ret;exact ⟨rfl,⟨_,Hmem.out,HE6.out⟩,Hk6.out⟩
theorem aAf (gp R P:Nat) (pr:List (Nat×Nat)) (row:Nat) (w:World) (h:PermR w gp R P pr) (hno:∀x∈pr,x.1≠row):
 Calls Tryz.prog 183 #[gp,(row:Int)] w fun e w'=>e=.returned (.int .i64 (-1))/\Below w.heap.size w w':=by
 obtain ⟨B,ga,vl,vo,vt,vf,ks,C,tk,fr,h1,h2,h3,h4,rfl⟩:=h;exact aBW B gp ga vl vo vt vf R P ks C tk fr row w h1 h2 oM fun k hk=>hno _ (zAy.2 ⟨k,hk,rfl⟩)
theorem pO (gp R P:Nat) (pr:List (Nat×Nat)) (row pos:Nat) (w:World) (h:PermR w gp R P pr) (hin:(row,pos)∈pr):
 Calls Tryz.prog 183 #[gp,(row:Int)] w fun e w'=>e=.returned (.int .i64 (pos:Int))/\Below w.heap.size w w':=by
 obtain ⟨B,ga,vl,vo,vt,vf,ks,C,tk,fr,h1,h2,h3,h4,rfl⟩:=h;obtain ⟨k,hk,e⟩:=zAy.1 hin;injection e with e1 e2;subst e2;exact aBV B gp ga vl vo vt vf R P ks C tk fr row k w h1 h2 oM oM hk e1
theorem aB1 (Bw gl gk gp rate:Nat) (t:List UInt8) (rs:List Nat) (C:List (Nat×Nat)) (i p:Nat) (w:World) (h:LiveG w Bw gl gk gp rate (t.length+1) (aE (aG t) rs) C) (hrt:∀x∈C,rs[x.1]?=some x.2) (hz0:∃x∈C,x.2=0) (hs:IsSuf (aG t) rs) (hn:t.length<=127) (hip:rs[i]?=some p):
 Calls Tryz.prog 134 #[gl,(i:Int)] w fun e w'=>e=.returned (.int .i64 (p:Int))/\VB Bw w w':=by
 have hl:rs.length=t.length+1:=by rw [hs.len,aT]
 have hi:=(zAc.1 hip).1;have hL:(aE (aG t) rs).length=t.length+1:=by rw [bU,hl]
 have hpN:p < t.length+1:=by have:=hs.lt (zAd hip);rwa [aT] at this
 obtain ⟨N,hN⟩:=eqx t.length;have hz1:∀a:Nat,rs[a]?=some 0->(a,0)∈C:=fun a ha=>by obtain ⟨⟨r,q⟩,hx,e⟩:=hz0;have e':q=0:=e;subst e';have h1:rs[r]?=some 0:=hrt _ hx;rw [vP hs ha h1];exact hx
 have hpr:∀a b b':Nat,rs[a]?=some b->(a,b')∈C->b'=b:=fun a b b' hab hm=>by have h1:rs[a]?=some b':=hrt _ hm;rw [hab] at h1;injection h1 with h1;exact h1.symm
 have hstep:∀a b:Nat,rs[a]?=some (b+1)->∃s a',(aE (aG t) rs)[a]?=some s/\cJ (aE (aG t) rs) s a=a'/\rs[a']?=some b:=fun a b hab=>by obtain ⟨ha,ea⟩:=zAc.1 hab;have hbm:b+1 < (aG t).length:=hs.lt (zAd hab);obtain ⟨a',ha',ea'⟩:=hs.row (p:=b) oM;have he:=eF t;have hla:=rP he ha ea (by rw [aT] at hbm;omega);exact ⟨(aG t).getD b 0,a',zAc.2 ⟨_,hla⟩,lf hs he ha ha' ea ea',zAc.2 ⟨ha',ea'⟩⟩
 rw [hN] at h;rw [hN] at hL hpN hn hl;have hiI:¬(N:Int) < (i:Int):=oM;have hi0:decide ((i:Int) < 0)=false:=by simp
 have hi2:decide ((i:Int) > (N:Int))=false:=by simp;omega
 have hi3:decide (N < i)=false:=by simp;omega
 obtain ⟨H,Hz1,Hpr,Hstep,HL⟩:=hqq5 h hz1 hpr hstep hL;have HLt:=lhd (dM (eT t) (rs:=rs));have Hip:=lhd hip;obtain ⟨mv,hblk⟩:=h.blk;have c0:=hblk.cell 0;have c1:=hblk.cell 1;have hlt:=hblk.lt;clear h hz1 hpr hz0 hrt hstep hL hs hip hi hN hl hblk;go_enter Tryz.func134,Tryz.ntmps134;go_wp2_with fail;refine (cB Bw gl _ N w H.out.lvw HL.out oM).mono ?_;rintro e w1 ⟨rfl,rfl⟩;go_wp2_with fail;clear c0 c1 hiI hi0 hi2 hi3;go_loopw [1,5] (fun x y wr=>∃a b m:Nat,rs[a]?=some b/\b+m=p/\x=.int .i64 (a:Int)/\y=.int .i64 (m:Int)/\VB Bw w wr) (fun _ y _=>p+1 -(intOf y).toNat)
 case atStart=>exact ⟨i,p,0,Hip.out,rfl,rfl,rfl,VisK.refl _ _⟩
 case round=>
  obtain ⟨a,b,m,hab,hbm,rfl,rfl,hv⟩:=hrel;have h1:=H.out.vis hv.1;obtain ⟨mv1,hblk1⟩:=h1.blk;have c0:=hblk1.cell 0;have c1:=hblk1.cell 1;have hlt1:=hblk1.lt;obtain ⟨Hv,H1,Hab⟩:=hqq3 hv h1 hab;clear h1 hv hab hblk1;by_cases hb0:∃b',(a,b')∈C
  · obtain ⟨b',hb1⟩:=hb0;have hbb:=Hpr.out a b b' Hab.out hb1;subst hbb;have Hin:=lhd hb1;have hbI:¬(b':Int) < 0:=oM;have hsum:IntKind.i64.wrap ((b':Int)+(m:Int))=(p:Int):=(by rw [IntKind.wrap_i64];omega);clear hb1 hbm;go_wp2_with fail;refine (pO gp (N+1) (N+1) C a b' wr H1.out.perm Hin.out).mono ?_;rintro e w2 ⟨rfl,hb2⟩;have h2:=H1.out.vis (Vis.of_below hb2);obtain ⟨mv2,hblk2⟩:=h2.blk;have c20:=hblk2.cell 0;have c21:=hblk2.cell 1;have hlt2:=hblk2.lt;have hv2:=Hv.out.below hb2;obtain ⟨Hv2,H2⟩:=hqq2 hv2 h2;clear c0 c1 h2 hv2 hb2 hblk2;go_wp2_with fail;refine (pO gp (N+1) (N+1) C a b' w2 H2.out.perm Hin.out).mono ?_;rintro e w3 ⟨rfl,hb3⟩;have hv3:=Hv2.out.below hb3;have Hv3:=lhd hv3;clear c20 c21 hv3 hb3;go_wp2_with fail;go_ret;exact ⟨rfl,Hv3.out⟩
  · have hno:∀x∈C,x.1≠a:=fun x hx e=>hb0 ⟨x.2,by rw [<-e];exact hx⟩;have Hno:=lhd hno
    obtain ⟨b',rfl⟩:∃b',b=b'+1:=⟨b - 1,by
        rcases zBa b with h0 | h0;subst h0;exact absurd ⟨0,Hz1.out a Hab.out⟩ hb0
        · omega⟩
    obtain ⟨s,a',hs1,hs2,hs3⟩:=Hstep.out a b' Hab.out;obtain ⟨Hs1,Hs2,Hs3⟩:=hqq3 hs1 hs2 hs3;clear hno hb0 hs1 hs2 hs3;go_wp2_with fail;refine (aAf gp (N+1) (N+1) C a wr H1.out.perm Hno.out).mono ?_;rintro e w2 ⟨rfl,hb2⟩;have h2:=H1.out.vis (Vis.of_below hb2);obtain ⟨mv2,hblk2⟩:=h2.blk;have c20:=hblk2.cell 0;have c21:=hblk2.cell 1;have hlt2:=hblk2.lt;have hv2:=Hv.out.below hb2;obtain ⟨Hv2,H2⟩:=hqq2 hv2 h2;clear c0 c1 h2 hv2 hb2 hblk2;go_wp2_with fail;refine (mU Bw gk _ a s w2 H2.out.walk Hs1.out HLt.out (by rw [HL.out];omega)).mono ?_;rintro e w3 ⟨rfl,hv3⟩;rw [Hs2.out];have hv4:=Hv2.out.trans hv3;have Hv4:=lhd hv4;clear c20 c21 hv3 hv4;go_wp2_with fail;go_roundw
    case rel=>exact ⟨a',b',m+1,Hs3.out,by omega,rfl,by go_num,Hv4.out⟩
    case measure=>simp [intOf];omega
end
section
open Go.RowKit
theorem aIh {l rs:List Nat} (h:IsSuf l rs) (b:Bool) (q:List Nat) (i:Nat) (hi:i < rs.length):Pq l b q rs[i]=decide (i < Nq l b q):=by
 have hN:rs.countP (Pq l b q)=Nq l b q:=h.count _;have ht:=tF (P:=Pq l b q) h.sorted (fun x y hxy hy=>aBP q hxy hy);rw [hN] at ht;rw [Bool.eq_iff_iff,zCa];constructor;intro hp;by_cases hlt:i < Nq l b q;exact hlt;exfalso;have hall:∀x∈rs.take (i+1),Pq l b q x=true:=(by intro x hx;obtain ⟨k,hk,rfl⟩:=zBo.1 hx;rw [zAj] at hk;rw [List.getElem_take];rcases zBe k i with h1 | h1;exact aBP q (zAr.1 h.sorted k i oM hi h1) hp;obtain rfl:k=i:=oM;exact hp);have h1:=List.countP_eq_length.2 hall;rw [zAj] at h1;have h2:(rs.take (i+1)).countP (Pq l b q)<=rs.countP (Pq l b q):=(List.take_sublist _ _).countP_le;omega;intro hlt;have hm:rs[i]∈rs.take (Nq l b q):=(by rw [List.mem_take_iff_getElem];exact ⟨i,by omega,rfl⟩);rw [ht,zCv] at hm;exact hm.2
theorem aJJ {l rs:List Nat} (h:IsSuf l rs) (q:List Nat) (i:Nat) (hi:i < rs.length):tK l q rs[i]=true↔Nq l false q<=i/\i < Nq l true q:=by
 obtain ⟨h1,h2⟩:=aJc l q rs[i];rw [aIh h false q i hi,aIh h true q i hi] at h1;rw [aIh h false q i hi] at h2;constructor;intro hp;rw [hp] at h1 h2;constructor;rcases zBe i (Nq l false q) with h3 | h3;exact absurd ⟨zBz h3,rfl⟩ h2;exact h3;simpa using h1;rintro ⟨h3,h4⟩;rw [zBz h4,zBy oM] at h1;simpa using h1.symm
theorem aEu {α:Type} (P:α->Bool) (rs:List α) (a b:Nat) (hab:a<=b) (hb:b<=rs.length) (h:∀i (hi:i < rs.length),P rs[i]=true↔a<=i/\i < b):(rs.drop a).take (b - a)=rs.filter P:=by
 have e:rs=rs.take a++((rs.drop a).take (b - a)++(rs.drop a).drop (b - a)):=by rw [zAu,zAu]
 conv=>rhs;rw [e]
 rw [List.filter_append,List.filter_append];have h1:(rs.take a).filter P= []:=List.filter_eq_nil_iff.2 fun x hx hp=>by obtain ⟨k,hk,rfl⟩:=zBo.1 hx;rw [zAj] at hk;rw [List.getElem_take] at hp;have:=(h k oM).1 hp;omega
 have h2:((rs.drop a).take (b - a)).filter P=(rs.drop a).take (b - a):=List.filter_eq_self.2 fun x hx=>by obtain ⟨k,hk,rfl⟩:=zBo.1 hx;rw [zAj,zAw] at hk;rw [List.getElem_take,List.getElem_drop];exact (h (a+k) oM).2 ⟨by omega,by omega⟩
 have h3:((rs.drop a).drop (b - a)).filter P= []:=List.filter_eq_nil_iff.2 fun x hx hp=>by obtain ⟨k,hk,rfl⟩:=zBo.1 hx;rw [zAw,zAw] at hk;rw [List.getElem_drop,List.getElem_drop] at hp;have:=(h (a+(b - a+k)) oM).1 hp;omega
 rw [h1,h2,h3];simp
def gG (t q:List UInt8):List Nat:=(List.range (t.length+1)).filter (tK (aG t) (dF q))
theorem aCt {t:List UInt8} {rs:List Nat} (h:IsSuf (aG t) rs) (q:List UInt8):((rs.drop (Nq (aG t) false (dF q))).take (Nq (aG t) true (dF q) - Nq (aG t) false (dF q))).Perm (gG t q):=by
 have hab:Nq (aG t) false (dF q)<=Nq (aG t) true (dF q):=by rw [aFb];omega
 rw [aEu (tK (aG t) (dF q)) rs _ _ hab (by rw [h.len];exact aKt _ _ _) (fun i hi=>aJJ h (dF q) i hi)];have:=h.perm.filter (tK (aG t) (dF q));rw [aT] at this;exact this
theorem rW:∀(a b:List Int),a.Pairwise (fun x y=>x<=y)->b.Pairwise (fun x y=>x<=y)->a.Perm b->a=b
 | [],b,_,_,h=>h.nil_eq.symm ▸ rfl
 | x::a, [],_,_,h=>by simp at h
 | x::a,y::b,ha,hb,h=>by obtain ⟨h1,h2⟩:=List.pairwise_cons.1 ha;obtain ⟨h3,h4⟩:=List.pairwise_cons.1 hb;have hxy:x=y:=(by have hx:x∈y::b:=h.mem_iff.1 (by simp);have hy:y∈x::a:=h.mem_iff.2 (by simp);rcases List.mem_cons.1 hx with e | hx;exact e;rcases List.mem_cons.1 hy with e | hy;exact e.symm;have:=h1 y hy;have:=h3 x hx;omega);subst hxy;rw [rW a b h2 h4 (List.perm_cons x |>.1 h)]
theorem aCm {t:List UInt8} {rs:List Nat} (h:IsSuf (aG t) rs) (q:List UInt8):(((rs.drop (Nq (aG t) false (dF q))).take (Nq (aG t) true (dF q) - Nq (aG t) false (dF q))).map fun n:Nat=>(n:Int)).mergeSort (fun x y=>decide (x<=y))=(gG t q).map fun n:Nat=>(n:Int):=by
 refine rW _ _ ?_ ?_ ((List.mergeSort_perm _ _).trans ((aCt h q).map _));have:=List.pairwise_mergeSort (le:=fun x y:Int=>decide (x<=y)) (fun a b c h1 h2=>by simp at*;omega) (fun a b=>by simp;omega) (((rs.drop (Nq (aG t) false (dF q))).take (Nq (aG t) true (dF q) - Nq (aG t) false (dF q))).map fun n:Nat=>(n:Int));exact this.imp fun h=>by simpa using h
 rw [List.pairwise_map];unfold gG;refine (List.Pairwise.filter _ List.pairwise_lt_range).imp fun {a b} h=>?_;omega
end
section
theorem aCu {l rs:List Nat} {m:Nat} (h:IsSuf l rs) (he:EndOk l m) (p:List UInt8):gY (aE l rs) p=(Nq l false (dF p),Nq l true (dF p)):=by
 have hL:(aE l rs).length=l.length:=by rw [bU,h.len]
 unfold gY;rw [hL]
 induction p with
 | nil=>
   obtain ⟨h1,h2⟩:=aLa l;show (0,l.length)=(Nq l false [],Nq l true []);rw [h1,h2]
 | cons c p ih=>
   rw [List.reverse_cons,List.foldl_append,ih];show (cJ _ (c.toNat+1) (Nq l false (dF p)),cJ _ (c.toNat+1) (Nq l true (dF p)))=_;rw [aFy h he _ _ _ oM,aFy h he _ _ _ oM];rfl
theorem aGH {t:List UInt8} {rs:List Nat} (h:IsSuf (aG t) rs) (p:List UInt8):(gY (aE (aG t) rs) p).2 -(gY (aE (aG t) rs) p).1=occ (aG t) (dF p):=by
 rw [aCu h (eF t),aFb];omega
end
section
open Go.RowKit
def aCc (w:World) (Bw:Nat) (t p:List UInt8) (e:Ending) (w':World):Prop:=
 ∃A c,e=.returned (.slice A (gG t p).length c)/\Made w' w.heap.size 3 1 A (gG t p).length c ((gG t p).map sv)/\VB Bw w w'
theorem aKm (Bw gl rate:Nat) (t:List UInt8) (A0:Option Addr) (m0 c0 B:Nat) (ss:List Sl) (p:List UInt8) (hT:iE ss=p) (w:World) (h:TpAt w Bw gl t rate) (hr0:Rd w B 1 A0 m0 (ss.map slV)) (hss:∀s∈ss,Rd w B 1 s.A s.n (s.l.map bv)) (hB:B<=w.heap.size) (hm:m0<=1000000) (hp:p.length<=1000000):
 Calls Tryz.prog 77 #[gl,.slice A0 m0 c0] w (aCc w Bw t p):=by
 obtain ⟨i0,hi0,hz0,hz1,hz2⟩:=info_parts gC;obtain ⟨rs,gk,gp,pr,hs,hl,hrt,hz0,hn⟩:=h;obtain ⟨Hrt,Hz0⟩:=hqq2 hrt hz0;clear hrt hz0;have hrl:rs.length=t.length+1:=by rw [hs.len,aT]
 have hrows:=sX Bw gl _ t.length A0 m0 c0 B ss p p.length hT rfl w hl.lvw (by rw [bU,hrl]) oM (dM (eT t)) hr0 hss hB hm hp;rw [aCu hs (eF t)] at hrows;have hsort:=aCm hs p;have hle:=aKt (aG t) true (dF p);rw [aT] at hle;have hab:Nq (aG t) false (dF p)<=Nq (aG t) true (dF p):=by rw [aFb];omega
 have hlen:(gG t p).length=Nq (aG t) true (dF p) - Nq (aG t) false (dF p):=by rw [<-(aCt hs p).length_eq,zAj,zAw,hrl];omega
 obtain ⟨lo,hlo⟩:∃x,Nq (aG t) false (dF p)=x:=⟨_,rfl⟩;obtain ⟨hi,hhi⟩:∃x,Nq (aG t) true (dF p)=x:=⟨_,rfl⟩;obtain ⟨ps,hps⟩:∃x,gG t p=x:=⟨_,rfl⟩;unfold aCc;rw [hlo,hhi] at hrows hsort hlen;rw [hlo] at hab;rw [hhi] at hle hab;rw [hps] at hsort hlen⊢;obtain ⟨Hl,Hs,Hsort,Hlen,Hrl⟩:=hqq5 hl hs hsort hlen hrl;clear hr0 hss hl hs hsort hlen hrl hlo hhi hps hT;go_enter Tryz.func77,Tryz.ntmps77;go_wp2_with fail;refine hrows.mono ?_;rintro e w1 ⟨rfl,hv1⟩;clear hrows;go_wp2_with fail;go_loopw [7,8] (fun v i wr=>∃k:Nat,k<=hi - lo/\i=.int .i64 ((lo+k:Nat):Int)/\wr.ownsRow w.heap.size 3 1 v k (((rs.drop lo).take k).map sv)/\VB Bw w wr) (fun _ i _=>hi -(intOf i).toNat)
 case atStart=>exact ⟨0,zAp _,by simp,World.ownsRow_nil _ _ _ _,hv1⟩
 case round=>
  obtain ⟨k,hk,rfl,hown,hv⟩:=hrel;by_cases hlt:k < hi - lo
  · have hltI:((lo+k:Nat):Int) < (hi:Int):=oM;have hir:lo+k < rs.length:=(by rw [Hrl.out];omega);obtain ⟨y,hy⟩:∃y,rs[lo+k]?=some y:=⟨_,zAa hir⟩;have hnext:(rs.drop lo).take (k+1)=(rs.drop lo).take k++ [y]:=(by rw [zAv,zBt,hy];rfl);have hl5:=Hl.out.vis hv.1;obtain ⟨Hown,Hv,Hl5,Hy,Hnext⟩:=hqq5 hown hv hl5 hy hnext;clear hown hv hl5 hy hnext;go_wp2_with fail;refine (aB1 Bw gl gk gp rate t rs pr (lo+k) y wr Hl5.out Hrt.out Hz0.out Hs.out hn Hy.out).mono ?_;rintro e w2 ⟨rfl,hv2⟩;have hv3:=Hv.out.trans hv2;have hown3:=hv2.1.own Hown.out dC dC;have hsz3:=hv3.1.size;obtain ⟨Hv3,Hown3⟩:=hqq2 hv3 hown3;clear hv2 hv3 hown3;go_wp2_with (at_builtin;refine bP _ rfl (.tmp 21) (.tmp 25) _ rfl w.heap.size 3 i0 (.int .i64 0) 1 8 Tryz.underlying22 hi0 hz0 hz1 hz2 rfl dC _ k _ rfl Hown3.out rfl rfl (by simp [Value.oneCell']) (by unfold maxLen;omega) oM hsz3 ?_;intro v2 w3 hown2 hg2 hs2 hat2);have hb3:=aZ (Below.refl w.heap.size w2) Hown3.out hg2 hsz3;have hv4:=VB.grow Hv3.out hb3;have Hv4:=lhd hv4;clear hb3 hv4 hg2 hat2;go_roundw
    case rel=>exact ⟨k+1,by omega,by go_num,by rw [Hnext.out,zAz];exact hown2,Hv4.out⟩
    case measure=>simp [intOf];omega
  · obtain rfl:k=hi - lo:=oM;have hltI:¬((lo+(hi - lo):Nat):Int) < (hi:Int):=oM;have hmap:((rs.drop lo).take (hi - lo)).map sv=(((rs.drop lo).take (hi - lo)).map fun n:Nat=>(n:Int)).map (Value.int .i64):=(by rw [zCh];rfl);rw [hmap] at hown;obtain ⟨A,c,rfl,hsrt⟩:=aDk w.heap.size _ (hi - lo) _ wr hown (by rw [zBc,zAj,zAw,Hrl.out];omega) oM;have hown9:=hown;rw [Hsort.out] at hsrt;have hlt9:∀b,(Value.slice A (hi - lo) c).ownBlock=some b->w.heap.size<=b:=fun b hb=>(hown9.lt b hb).1;obtain ⟨Hv,Hsrt,Hlt9⟩:=hqq3 hv hsrt hlt9;clear hown hown9 hv hsrt hlt9 hlt hmap;go_wp2_with fail;refine Hsrt.out.mono ?_;rintro e w3 ⟨rfl,hown3,hk3⟩;have hb3:Below w.heap.size wr w3:=hk3.to_below Hv.out.1.size (fun b hb e=>by have:=Hlt9.out b e;omega);have hv4:=VB.grow Hv.out hb3;rw [zCh] at hown3;obtain ⟨A9,c9,e9,hm9⟩:=aS hown3;cases e9;obtain ⟨Hm9,Hv4⟩:=hqq2 hm9 hv4;clear hown3 hk3 hb3 hv4 hm9;go_wp2_with fail;go_ret;exact ⟨A,c,by rw [Hlen.out];rfl,by rw [Hlen.out];exact Hm9.out,Hv4.out⟩
theorem aIg (l:List Nat) (q:List Nat):∀p,tK l q p=true↔∀(i s:Nat),q[i]?=some s->aN l (p+i)=(s:Int):=by
 induction q with
 | nil=>intro p;exact ⟨fun _ i s h=>by simp at h,fun _=>rfl⟩
 | cons x q ih=>
   intro p;rw [aAE,zBd,zCa,ih];constructor
   · rintro ⟨h1,h2⟩ i s h;rcases i with _ | i;simp at h;subst h;exact h1
     · have:=h2 i s (by simpa using h);rwa [show p+(i+1)=p+1+i by omega]
   · intro h;refine ⟨h 0 x (by simp),fun i s hi=>?_⟩;have:=h (i+1) s (by simpa using hi);rwa [show p+1+i=p+(i+1) by omega]
theorem pE (t:List UInt8) {p:Nat} {c:UInt8} (h:t[p]?=some c):aN (aG t) p=((c.toNat+1:Nat):Int):=by
 have hp:=(zAc.1 h).1;refine lA ?_;unfold aG dF;rw [zAn (by simpa using hp),zAf,h];rfl
theorem aEl (t q:List UInt8) (p:Nat):tK (aG t) (dF q) p=true↔∀(i:Nat) (c:UInt8),q[i]?=some c->t[p+i]?=some c:=by
 rw [aIg];constructor
 · intro h i c hc;have:=h i (c.toNat+1) (by unfold dF;rw [zAf,hc];rfl);cases ht:t[p+i]? with
   | none=>
     exfalso;have hge:=List.getElem?_eq_none_iff.1 ht;rcases Nat.eq_or_lt_of_le hge with e | e
     · have:aN (aG t) (p+i)=0:=by
         rw [lA (x:=0)];rfl
         · unfold aG dF;rw [zAo (by simp;omega)];simp [e]
       omega
     have:aN (aG t) (p+i)=-1:=nK (by rw [aT];omega);omega
   | some d=>
     rw [pE t ht] at this;have e:d.toNat=c.toNat:=oM;rw [UInt8.toNat_inj.1 e]
 intro h i s hs;unfold dF at hs;rw [zAf] at hs;obtain ⟨c,hc,rfl⟩:=Option.map_eq_some_iff.1 hs;exact pE t (h i c hc)
theorem aI7 (t:List UInt8):aN (aG t) t.length=0:=by
 refine lA (x:=0) ?_;unfold aG dF;rw [zAo (by simp)];simp
end
end Go.Proofs.YthldmddkfbijhaaGreatDoor
