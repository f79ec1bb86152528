/- Lemmas of the walk. Conditions: each its own. -/
import Derived.Test.YthldmddkfbijhaaGreatDoorPsr3
import Derived.Test.YthldmddkfbijhaaGreatDoorPsr4
import Derived.Test.YthldmddkfbijhaaGreatDoorProg
import Derived.Test.YthldmddkfbijhaaGreatDoorSht
import Derived.Test.YthldmddkfbijhaaGreatDoorRows
import Derived.Test.YthldmddkfbijhaaGreatDoorShl
set_option linter.all false
set_option maxRecDepth 100000
set_option maxHeartbeats 4000000
namespace Go.Proofs.YthldmddkfbijhaaGreatDoor
section
open Go.ChangeShapes Go.WideShapes Go.ChangeAt Go.RowKit
theorem oT:laidOutB Tryz.prog=true:=by kernel_rfl
theorem own:ownKnob Tryz.prog.godebug=none:=by kernel_rfl
theorem aJH {k:IntKind} {w:World} {x:Addr} {len cap:Nat} {zs:List Int} (hl:len<=cap) (hz:zs.length=cap) (hb:0 < len->x.block < w.heap.size)
 (hc:∀i,i < zs.length->w.cell? (x.add i)=some (.int k (zs.getD i 0))):Rd w w.heap.size 1 (some x) len ((zs.take len).map (Value.int k)):=by
 refine ⟨by simp;omega,fun hn=>?_⟩;have hc0:=hc 0 oM;obtain ⟨b,off,spot⟩:=x;have hspot:spot=none:=by simpa [Addr.add] using World.cell?_spot hc0
 subst hspot;refine ⟨b,off,rfl,hb hn,fun j u hu=>?_⟩;simp only [zAf,zBs] at hu;split at hu
 · rename_i hj
   have:=hc j oM;rw [iS] at this;rw [this];have hjz:j < zs.length:=oM;rw [zAa hjz] at hu;simp only [Option.map_some,Option.some.injEq] at hu;rw [<-hu,zAb,zAa hjz];rfl
 · simp at hu
theorem xY (zs:List Int) (h:∀n∈zs,(Lit.int .u8 n).wf=true):∃l:List UInt8,zs.map (Value.int .u8)=l.map bv:=by
 induction zs with
 | nil=>exact ⟨[],rfl⟩
 | cons z zs ih=>
   obtain ⟨l,hl⟩:=ih fun n hn=>h n (List.mem_cons_of_mem _ hn);have hz:=bounds_u8 (h z (List.mem_cons_self ..));refine ⟨UInt8.ofNat z.toNat::l,?_⟩;simp only [List.map_cons,hl];congr 1;unfold bv;congr 1;simp [UInt8.toNat_ofNat'];omega
theorem yD {H:Type} {enc:TypeId×Value->H} {t e:TypeId} {k:IntKind} {w:World} {a:Option Addr} {len cap:Nat} {d:DataW H} {p:List MemPlace}
 (ht:Tryz.prog.underlying t=some (.slice e)) (he:Tryz.prog.underlying e=some (.int k)) (hC:Tryz.prog.cellsOf e=1)
 (h:DataW.Trod enc Tryz.prog w 0 (fun _=>true) true t (.slice a len cap) d p):
 ∃zs:List Int,Rd w w.heap.size 1 a len (zs.map (Value.int k))/\(∀n∈zs,(Lit.int k n).wf=true)/\len<=cap/\cap<=maxLen:=by
 obtain ⟨fuel,hf⟩:=h;rcases open_ints ht he hC hf with ⟨hcs,_⟩|⟨x,l,c,zs,hcs,_,hl,hm,hz,hx,hcell,hwz⟩;simp [Value.cells] at hcs;obtain ⟨rfl,rfl,rfl⟩:=hcs;exact ⟨[],Rd.nil _ _ _ _,by simp,zAs _,zAp _⟩;simp [Value.cells] at hcs;obtain ⟨rfl,rfl,rfl⟩:=hcs;have hzc:zs.length=cap:=(by simpa using hz);refine ⟨zs.take len,aJH hl hzc (fun hn=>?_) hcell,fun n hn=>hwz n (List.mem_of_mem_take hn),hl,hm⟩;have:=World.block_lt_of_cell? w (x.add 0) (hcell 0 oM);simpa [Addr.add] using this
end
section
open Go.RowKit
def TabW (w:World):Prop:=TabAt 1 Lib.deBruijn64tab w
theorem TabW.below {B:Nat} {w w':World} (h:TabW w) (k:Below B w w') (hB:1 < B):TabW w':=fun j hj=>(k.cell (p:=⟨1,j,none⟩) hB).trans (h j hj)
theorem TabW.pos {w:World} (h:TabW w):1 < w.heap.size:=by
 have h0:=h 0 dC;rcases zBe 1 w.heap.size with e | e;exact e
 · exfalso;have:w.heap[1]?=none:=Array.getElem?_eq_none e;simp [World.cell?,this] at h0
def gF:List (String×DataW Unit):= [("math/bits.deBruijn64tab",Rows.laid_math_bits_deBruijn64tab)]
theorem aLj:Tryz.prog.globalNamed "math/bits.deBruijn64tab" =some 1:=by kernel_rfl
theorem aLm:(Tryz.prog.globals[1]?).map (·.type)=some 279:=by kernel_rfl
theorem xV (os:Os) (args:Array Value):laidMetH Tryz.prog gF ((World.doorLaid Tryz.prog 14 os).forCall (fun _ _=>0) ⟨#[],args, []⟩).memory:=
 laidMetH_of_parts3 (fuel:=8) (laidMet_of_run' 8 kR kR) kR kR
theorem aFW:(Rows.laid_math_bits_deBruijn64tab:DataW Unit)=Lib.tabData .u8 (Lib.deBruijn64tab.map fun n:Nat=>(n:Int)):=rfl
theorem mF {W:World} (h:laidMetH Tryz.prog gF W):TabW W:=by
 rw [MakeChecks.laidMetH_plain _ _ _ kR] at h;unfold gF at h;rw [aFW] at h;have hT:=Lib.tabIs_of_head aLj aLm Tryz.underlying279 Tryz.underlying5 kR kR h;intro j hj;have:=hT.cell aLj j (by rw [zBc];exact hj);rw [this,zAb,zAf,zAb];cases Lib.deBruijn64tab[j]? <;> rfl
theorem tA (gb:Nat) (l:List Bool) (k:Nat) (w:World) (hb:Bk w gb 230 (iI l)) (hk:k < l.length):
 Calls Tryz.prog 208 #[gb,(k:Int)] w fun e w'=>e=.returned (.int .i64 0)/\Below w.heap.size w w':=by
 have c0:w.cell? ⟨gb,0,none⟩=some (.int .i64 (l.length:Int)):=(hb.cell 0).trans rfl;have hlt:=hb.lt;have hkI:¬(k:Int) < 0:=oM;have hkJ:decide ((k:Int)>=(l.length:Int))=false:=by simp;omega
 clear hb;go_enter Tryz.func208,Tryz.ntmps208;go_wp2_with fail;go_ret;exact ⟨rfl,Below.refl _ _⟩
theorem aLh (l:List Bool) (k:Nat):(if k < 64 then w0 l >>> k else w1 l >>>(k - 64))&&& 1=if l.getD k false then 1 else 0:=by
 by_cases h:k < 64
 · rw [zBx h];have:=kI (l.take 64) k;rw [Nat.and_one_is_mod,Nat.shiftRight_eq_div_pow,<-Nat.toNat_testBit,show (w0 l).testBit k=(l.take 64).getD k false from this];have e:(l.take 64).getD k false=l.getD k false:=(by simp [zAb,zBs,h]);rw [e];cases l.getD k false <;> rfl
 · rw [zBw h];have:=kI (l.drop 64) (k - 64);rw [Nat.and_one_is_mod,Nat.shiftRight_eq_div_pow,<-Nat.toNat_testBit,show (w1 l).testBit (k - 64)=(l.drop 64).getD (k - 64) false from this];have e:(l.drop 64).getD (k - 64) false=l.getD k false:=(by simp [zAb,zBt,show 64+(k - 64)=k by omega]);rw [e];cases l.getD k false <;> rfl
theorem aFM (u k:Nat) (bb:Bool) (hu:u < 18446744073709551616) (h:u >>> k&&& 1=if bb then 1 else 0):(bits .and .u64 ((u:Int)/ 2 ^ k) 1==1)=bb:=by
 have e:=aA4 u k 1 (2 ^ k) hu oM rfl;have e2:((2 ^ k:Nat):Int)=(2:Int)^ k:=by push_cast;rfl
 rw [e2] at e;have e3:bits .and .u64 ((u:Int)/ 2 ^ k) 1=((u >>> k&&& 1:Nat):Int):=e;rw [e3,h];cases bb <;> rfl
theorem aB8 (gb:Nat) (l:List Bool) (k:Nat) (w:World) (hb:Bk w gb 230 (iI l)) (hl:l.length<=128) (hk:k < l.length):
 Calls Tryz.prog 166 #[gb,(k:Int)] w fun e w'=>e=.returned (.tuple #[.bool (l.getD k false),.int .i64 0])/\Below w.heap.size w w':=by
 have Hb:=lhd hb;have hwb:=aLh l k;obtain ⟨bb,hbb⟩:∃b,l.getD k false=b:=⟨_,rfl⟩;rw [hbb] at hwb⊢;clear hbb;have b0:=nM l;have b1:=nH l hl;have hlt:=hb.lt;clear hb;go_enter Tryz.func166,Tryz.ntmps166;go_wp2_with fail;refine (tA gb l k _ Hb.out hk).mono ?_;rintro e w1' ⟨rfl,hb1⟩;have hb2:=Hb.out.below hb1 Hb.out.lt;have c1:w1'.cell? ⟨gb,1,none⟩=some (.int .u64 ((w0 l:Nat):Int)):=(hb2.cell 1).trans rfl;have c2:w1'.cell? ⟨gb,2,none⟩=some (.int .u64 ((w1 l:Nat):Int)):=(hb2.cell 2).trans rfl;have hlt2:=hb2.lt;by_cases h64:k < 64
 · rw [zBx h64] at hwb;have e1:(k:Int).tdiv 64=0:=(by rw [Int.tdiv_eq_ediv_of_nonneg oM];omega);have e2:(k:Int).tmod 64=(k:Int):=(by rw [Int.tmod_eq_emod_of_nonneg oM];omega);have e3:IntKind.u64.wrap (k:Int)=(k:Int):=(by rw [IntKind.wrap_u64];omega);generalize w0 l=u at*
   obtain ⟨Hwb,Hb1⟩:=hqq2 hwb hb1;clear hb1 hb2 c2 Hb hwb;go_wp2_with fail;go_ret2;exact ⟨by rw [aFM u k bb b0 Hwb.out];rfl,Hb1.out⟩
 · rw [zBw h64] at hwb;have e1:(k:Int).tdiv 64=1:=(by rw [Int.tdiv_eq_ediv_of_nonneg oM];omega);have e2:(k:Int).tmod 64=((k - 64:Nat):Int):=(by rw [Int.tmod_eq_emod_of_nonneg oM];omega);have e3:IntKind.u64.wrap ((k - 64:Nat):Int)=((k - 64:Nat):Int):=(by rw [IntKind.wrap_u64];omega);have hk64:k - 64 < 64:=oM;generalize w1 l=u at*
   generalize k - 64=k2 at*
   obtain ⟨Hwb,Hb1⟩:=hqq2 hwb hb1;clear hb1 hb2 c1 Hb hwb;go_wp2_with fail;go_ret2;exact ⟨by rw [aFM u k2 bb b1 Hwb.out];rfl,Hb1.out⟩
theorem uQ (gt:Nat) (bs:List Bool) (k:Nat) (w:World) (h:TreeAt w gt bs) (hk:k < bs.length):
 Calls Tryz.prog 165 #[gt,(k:Int)] w fun e w'=>e=.returned (.int .i64 0)/\VisK (fun b=>b=gt) w w':=by
 have hv0:∃cs,Bk w gt 202 cs/\3 < cs.size:=by obtain ⟨ga,v,⟨rfl,vl,h2⟩|⟨h1,h2,gl,cl,gb,h3⟩⟩:=h;exact ⟨_,h2,by simp⟩;exact ⟨_,h3.tree,by simp⟩
 obtain ⟨cs,hcs,hc3⟩:=hv0;have hv1:=VisK.set_tree hcs 0;have ht1:=h.vis hv1.1;have hgl:=hcs.lt;have c3:w.cell? ⟨gt,3,none⟩=some cs[3]:=by rw [hcs.cell 3];simp [hc3]
 have f3:=hcs.frozen 3;have hkI:¬(k:Int) < 0:=oM;obtain ⟨HV,Ht⟩:=hqq2 hv1 ht1;obtain ⟨N,hN⟩:=eqx bs.length;have HN:=lhd hN;have hkJ:¬(N<=k):=oM;clear h hv1 ht1 hcs hN hk;go_enter Tryz.func165,Tryz.ntmps165;go_wp2_with fail;clear c3 f3;refine (eR gt bs _ Ht.out).mono ?_;rintro e w2 ⟨rfl,hb2⟩;rw [HN.out];have hv2:=HV.out.below hb2;have HV2:=lhd hv2;clear hv2 hb2 HV Ht;go_wp2_with fail;go_ret;exact ⟨rfl,HV2.out⟩
theorem aDf (gt:Nat) (bs:List Bool) (k:Nat) (w:World) (h:TreeAt w gt bs) (hk:k < bs.length):
 Calls Tryz.prog 113 #[gt,(k:Int)] w fun e w'=>e=.returned (.tuple #[.bool (bs.getD k false),.int .i64 0])/\VisK (fun b=>b=gt) w w':=by
 have Hh:=lhd h;obtain ⟨bb,hbb⟩:∃b,bs.getD k false=b:=⟨_,rfl⟩;rw [hbb];obtain ⟨Hbb,Hk⟩:=hqq2 hbb hk;clear h hbb;go_enter Tryz.func113,Tryz.ntmps113;go_wp2_with fail;refine (uQ gt bs k w Hh.out hk).mono ?_;rintro e w2 ⟨rfl,hv2⟩;have ht2:=Hh.out.vis hv2.1;have HV2:=lhd hv2;clear hv2 Hh;obtain ⟨ga,v,⟨hbe,_,_⟩|⟨hbe,hb2,gl,cl,gb,hl⟩⟩:=ht2
 · rw [hbe] at hk;simp at hk
 clear hk;obtain ⟨c0,c1,c2,c3,d0,d1,d2,d3,d4,d5,d6,d7⟩:=hl.cells;have hl2:=hl.row.lt;have hgl2:=hl.tree.lt;have hgt_gl:gt≠gl:=hl.row.bk_ne hl.tree dC;have f3:=hl.tree.frozen 3;obtain ⟨Hl,H2⟩:=hqq2 hl hb2;clear hl hb2 hbe;go_wp2_with fail;go_loopw [1,7,8] (fun x y z wr=>x=.int .i64 (k:Int)/\y=.int .i64 0/\wr=w2) (fun _ _ _ _=>0)
 case atStart=>exact ⟨rfl,rfl,rfl⟩
 case round=>obtain ⟨rfl,rfl,rfl⟩:=hrel;go_wp2_with fail;have hgb:=Bk.ne Hl.out.blk Hl.out.tree dC;have hbb:=H2.out;have hv3:=(VisK.set_tree Hl.out.tree (wrap64 (v+1))).alloc (.cells #[.int .i64 (-1),.int .i64 (-1),.int .i64 0,(bs.length:Int),.int .i64 ((bs.count true:Nat):Int),.int .i64 0,.int .i64 0,gb] 205);refine (aB8 gb bs k _ ((Hl.out.blk.far hgb _).alloc _) H2.out Hk.out).mono ?_;rintro e w4 ⟨rfl,hb4⟩;rw [Hbb.out];have hv4:=(HV2.out.trans hv3).below hb4;have HV4:=lhd hv4;clear hv3 hb4 hv4 hgb hbb;go_wp2_with fail;go_ret2;exact ⟨rfl,HV4.out⟩
end
section
def gI (q:List (Int×Nat)):List UInt8:=q.flatMap cQ
theorem rR (x:Int×Nat) (q:List (Int×Nat)):gI (x::q)=cQ x++gI q:=by simp [gI]
theorem uL (x:Int×Nat) (q:List (Int×Nat)):eK (x::q)=List.replicate x.2 x.1++eK q:=by simp [eK]
def aFP:Nat->List (Int×Nat)->Prop
 | _, []=>True
 | last,x::q=>(kE x.1/\x.1.toNat≠last/\1<=x.2/\x.2 < 18446744073709551616)/\aFP x.1.toNat q
theorem aGf (b:List UInt8) (a:Nat) (x:Int×Nat) (r:List UInt8) (h1:kE x.1) (h2:x.2 < 18446744073709551616) (h:b.drop a=cQ x++r):pG b a=some (x.1.toNat,x.2,a+(cQ x).length):=by
 have e1:=oV x.1.toNat (by have:=h1.2;omega) (cA x.2++r) a;rw [cQ,zCo] at h;rw [<-h] at e1;have hd:b.drop (a+(cA x.1.toNat).length)=cA x.2++r:=by rw [<-List.drop_drop,h,List.drop_left]
 have e2:=oV x.2 h2 r (a+(cA x.1.toNat).length);rw [<-hd] at e2;rw [wV _ _ _ _ _ _ e1 e2,cQ,zAi,Nat.add_assoc]
theorem aH5 (b:List UInt8) (mst n':Nat) (t:List UInt8):∀(q:List (Int×Nat)) (a last:Nat) (acc:List Int),b.drop a=gI q++t->aFP last q->acc.length+(eK q).length<=mst->
 ∃last',rgo b mst (q.length+n') a last acc=rgo b mst n' (a+(gI q).length) last' (acc++eK q):=by
 intro q
 induction q with
 | nil=>intro a last acc _ _ _;exact ⟨last,by simp [gI,eK]⟩
 | cons x q ih=>
   intro a last acc h hc hm;obtain ⟨⟨c1,c2,c3,c4⟩,c5⟩:=hc;rw [rR,zCo] at h;have hr:=aGf b a x _ c1 c4 h;rw [uL,zAi,zCn] at hm;have e0:(x::q).length+n'=(q.length+n')+1:=(by simp;omega);rw [e0,aCz _ _ _ _ _ _ _ _ _ hr,zBw (by have:=c1.1;have:=c1.2;omega),zBw oM];have hx:((x.1.toNat:Nat):Int)=x.1:=(by have:=c1.1;omega);rw [hx];have hd:b.drop (a+(cQ x).length)=gI q++t:=(by rw [<-List.drop_drop,h,List.drop_left]);obtain ⟨l',hl'⟩:=ih (a+(cQ x).length) x.1.toNat (acc++List.replicate x.2 x.1) hd c5 (by rw [zAi,zCn];omega);refine ⟨l',?_⟩;rw [hl',rR,uL,zAi,zCo,Nat.add_assoc]
theorem aIX (q:List (Int×Nat)) (h:tW q) (hs:∀x∈q,kE x.1/\x.2 < 18446744073709551616) (last:Nat) (hl:∀x,q[0]?=some x->x.1.toNat≠last):aFP last q:=by
 induction q generalizing last with
 | nil=>trivial
 | cons x q ih=>
   obtain ⟨h1,_,h3⟩:=h;refine ⟨⟨(hs x (List.mem_cons_self ..)).1,hl x rfl,h1 x (List.mem_cons_self ..),(hs x (List.mem_cons_self ..)).2⟩,?_⟩;refine ih ⟨fun y hy=>h1 y (List.mem_cons_of_mem _ hy),List.pairwise_of_forall (by intros;trivial),fun i a b ha hb=>h3 (i+1) a b (by simpa using ha) (by simpa using hb)⟩ (fun y hy=>hs y (List.mem_cons_of_mem _ hy)) _ ?_;intro y hy;have:=h3 0 x y rfl (by simpa using hy);have hx:=(hs x (List.mem_cons_self ..)).1;have hy':=(hs y (List.mem_cons_of_mem _ (zAd hy))).1;have:=hx.1;have:=hy'.1;omega
theorem aES (l:List Int) (hs:∀x∈bN l,kE x.1) (hl:l.length < 18446744073709551616):aFP 257 (bN l):=
 aIX _ (aAC l) (fun x hx=>⟨hs x hx,by have:=pZ l x hx;omega⟩) 257 fun x hx=>by have:=(hs x (zAd hx)).2;have:=(hs x (zAd hx)).1;omega
theorem aA9 (l:List Int) (hl:l.length < 18446744073709551616):(bN l).length < 18446744073709551616:=by have:=mH l;omega
theorem aBq (l:List Int) (hs:∀x∈bN l,kE x.1) (hl:l.length < 18446744073709551616) (most:Int) (hm:(l.length:Int)<=most) (t:List UInt8):
 mP (fE (bN l)++t) most=if t= [] then (l,0) else ([],4):=by
 have e1:=oV (bN l).length (aA9 l hl) (gI (bN l)++t) 0;have hb:fE (bN l)++t=cA (bN l).length++(gI (bN l)++t):=by simp [fE,gI]
 rw [hb,mP,e1];simp only [zBi];have hd:(cA (bN l).length++(gI (bN l)++t)).drop (cA (bN l).length).length=gI (bN l)++t:=List.drop_left;have hex:=nV l;obtain ⟨l',hl'⟩:=aH5 _ most.toNat 0 t (bN l) _ 257 [] hd (aES l hs hl) (by rw [hex];simp;omega);rw [zBq] at hl';rw [hl',hex,List.nil_append,rgo];by_cases ht:t= []
 · subst ht;rw [zBx (by simp),zBx rfl]
 · have:0 < t.length:=List.length_pos_iff.2 ht;rw [zBw (by simp;omega),zBw ht]
theorem aBa:(Tryz.prog.info? 3).map (fun i=>(i.zero,i.size,i.bytes))=some (some (.int .i64 0),1,8):=by kernel_rfl
theorem aF4 (m:List Int) (x:Int×Nat) (h:x∈bN m):x.1∈m:=by
 have h1:=(aAC m).1 x h;have h2:x.1∈eK (bN m):=List.mem_flatMap.2 ⟨x,h,List.mem_replicate.2 ⟨by omega,rfl⟩⟩;rwa [nV] at h2
theorem aCh {L:List Nat} (h:∀x∈L,x < 257):∀x∈bN (jN L),kE x.1:=by
 intro x hx;obtain ⟨y,hy,e⟩:=zAy.1 (aF4 _ x hx);have:=h y hy;unfold kE;omega
theorem oG (L:List Nat):(jN L).length=L.length:=by simp [jN]
theorem aEC {L:List Nat} (h:∀x∈L,x < 257):rC (jN L)=some (gM L):=by
 unfold rC;rw [zBx (aCh h)];rfl
theorem qI (L:List Nat):(gM L).length<=11+22*L.length:=by
 unfold gM;have h1:=uJ (bN (jN L));have h2:=mH (jN L);have h3:=dG (bN (jN L)).length;rw [oG] at h2;have e:fE (bN (jN L))=cA (bN (jN L)).length++(bN (jN L)).flatMap cQ:=by simp [fE]
 rw [e,zAi];omega
def aA8 (rs:List Nat) (rate k:Nat):List UInt8:=(List.range k).flatMap fun k=>cA (rs.idxOf (k*rate))
theorem tJ (rs:List Nat) (rate k:Nat):aA8 rs rate (k+1)=aA8 rs rate k++cA (rs.idxOf (k*rate)):=by
 unfold aA8;rw [List.range_succ,List.flatMap_append];simp
theorem qX (rs:List Nat) (rate k:Nat):(aA8 rs rate k).length<=11*k:=by
 induction k with
 | zero=>simp [aA8]
 | succ k ih=>
   rw [tJ,zAi];have:=dG (rs.idxOf (k*rate));omega
theorem vO (rs:List Nat) (rate N:Nat):wT rs rate N=aA8 rs rate (N / rate+1):=rfl
theorem aJE (rs:List Nat) (rate k:Nat):k<=(aA8 rs rate k).length:=by
 induction k with
 | zero=>simp
 | succ k ih=>
   rw [tJ,zAi];have:=aIN (rs.idxOf (k*rate));omega
theorem aKO {k rate N:Nat} (hr:1<=rate) (hk:k<=N / rate+1) (h:¬k*rate<=N):k=N / rate+1:=by
 have h1:N / rate < k:=(Nat.div_lt_iff_lt_mul oM).2 oM;omega
theorem aKK {k rate N:Nat} (hr:1<=rate) (h:k*rate<=N):k+1<=N / rate+1:=by
 have:=(Nat.le_div_iff_mul_le oM).2 h;omega
end
section
open Go.RowKit
def aB3 (w w':World) (o:List Int×Int) (e:Ending):Prop:=
 ∃A c,e=.returned (.tuple #[.slice A o.1.length c,.int .i64 o.2])/\Made w' w.heap.size 3 1 A o.1.length c (o.1.map iv)
theorem gT {w w':World} {o:List Int×Int} {k:Int} (h:([],k)=o):aB3 w w' o (.returned (.tuple #[.slice none 0 0,.int .i64 k])):=by
 subst h;exact ⟨none,0,rfl,⟨World.ownsRow_nil _ _ _ _,Rd.nil _ _ _ _,zAs _,zAp _⟩⟩
theorem uU (A:Option Addr) (m c:Nat) (b:List UInt8) (most:Int) (w:World) (i0:TypeInfo) (hi0:Tryz.prog.info? 3=some i0) (hz0:i0.zero=some (.int .i64 0)) (hz1:i0.size=1) (hz2:i0.bytes=8)
 (Hll:Hid (b.length=m)) (Hr:Hid (Rd w w.heap.size 1 A m (b.map bv))) (hB0:Below w.heap.size w w) (hmc:m<=c) (hcl:c<=maxLen) (R:List Int×Int) (n0 a0:Nat) (ha0:a0<=m)
 (H0:Hid (eI b 0=(n0,(a0:Int),0))) (Hn0:Hid (n0 < 18446744073709551616)) (mst:Nat) (H1:Hid (rgo b mst n0 a0 257 []=R)) (hmsb:mst<=1099511627776) (hcase:most=(mst:Int)∨(most < 0/\mst<=0)):
 Calls Tryz.prog 48 #[.slice A m c,.int .i64 most] w fun e w'=>aB3 w w' R e/\Below w.heap.size w w':=by
 have Hcase:=lhd hcase;clear hcase;go_enter Tryz.func48,Tryz.ntmps48;go_wp2_with (go_at_call 104;refine (fK _ _ _ _ _ _ _ _ _ _ H0.out Hr.out hmc hcl).mono ?_;rintro e w5 ⟨rfl,rfl⟩);go_loopw [6,7,9,10] (fun x y v z wr=>∃(n a last:Nat) (acc:List Int),x=.int .u64 (n:Int)/\y=.int .i64 (a:Int)/\z=.int .u64 (last:Int)/\wr.ownsRow w.heap.size 3 1 v acc.length (acc.map iv)/\acc.length<=mst/\a<=m/\n < 18446744073709551616/\rgo b mst n a last acc=R/\Below w.heap.size w wr) (fun x _ _ _ _=>(intOf x).toNat)
 case atStart=>exact ⟨n0,a0,257, [],rfl,rfl,rfl,World.ownsRow_nil _ _ _ _,zAp _,ha0,Hn0.out,H1.out,hB0⟩
 case round=>
  obtain ⟨n,a,last,acc,rfl,rfl,rfl,hown,hacc,ha,hn,hg,hb⟩:=hrel;obtain ⟨Hg,Hn⟩:=hqq2 hg hn;have hsz:=hb.size;have hr2:=Hr.out.below hb;have Hr2:=lhd hr2;clear hg hn hr2;rcases n with _ | n
  · have hgt:((0:Nat):Int)=0:=rfl;by_cases hend:a=m
    · have hR:(acc,0)=R:=(by rw [<-Hg.out,rgo,zBx (by rw [Hll.out];exact hend)]);have HR:=lhd hR;have ht:((a:Int)==(m:Int))=true:=(by rw [zCq];omega);obtain ⟨A',c',rfl,hm3⟩:=aS hown;clear hend hR hown;go_wp2;go_ret2;refine ⟨?_,hb⟩;rw [<-HR.out];exact ⟨A',c',rfl,hm3⟩
    · have hR:([],4)=R:=(by rw [<-Hg.out,rgo,zBw (by rw [Hll.out];exact hend)]);have HR:=lhd hR;have ht:((a:Int)==(m:Int))=false:=(by rw [zCb];omega);clear hend hR;go_wp2;go_ret2;exact ⟨gT HR.out,hb⟩
  · have hab:a<=b.length:=(by rw [Hll.out];exact ha);rcases h1:eJ (b.drop a) true 0 a with _ |⟨s,to_⟩
    · have hR:([],4)=R:=(by rw [<-Hg.out,aCA _ _ _ _ _ _ (aCs _ _ h1)]);obtain ⟨HR,Hb1⟩:=hqq2 hR (qH b a hab h1);clear hR hab h1;go_wp2_with (go_at_call 104;refine (fK _ _ _ _ _ _ _ _ _ _ Hb1.out Hr2.out hmc hcl).mono ?_;rintro e w5 ⟨rfl,rfl⟩);go_ret2;exact ⟨gT HR.out,hb⟩
    · have hle1:=xR _ _ _ _ _ _ h1;have hb1:=qG b a s to_ hab h1;have hto:to_<=m:=(by rw [zAw,Hll.out] at hle1;omega);have htob:to_<=b.length:=(by rw [Hll.out];exact hto);obtain ⟨Hb1,Hs64⟩:=hqq2 hb1 hle1.2.2;rcases h2:eJ (b.drop to_) true 0 to_ with _ |⟨k,e⟩
      · have hR:([],4)=R:=(by rw [<-Hg.out,aCA _ _ _ _ _ _ (aCr _ _ _ _ h1 h2)]);obtain ⟨HR,Hb2⟩:=hqq2 hR (qH b to_ htob h2);clear hR hab h1 h2 hb1 hle1 htob;go_wp2_with fail;refine (fK _ _ _ _ _ _ _ _ _ _ Hb1.out Hr2.out hmc hcl).mono ?_;rintro e w5 ⟨rfl,rfl⟩;go_wp2_with fail;refine (fK _ _ _ _ _ _ _ _ _ _ Hb2.out Hr2.out hmc hcl).mono ?_;rintro e w5 ⟨rfl,rfl⟩;go_wp2;go_ret2;exact ⟨gT HR.out,hb⟩
      · have hle2:=xR _ _ _ _ _ _ h2;have hb2:=qG b to_ k e htob h2;have he:e<=m:=(by rw [zAw,Hll.out] at hle2;omega);have Hb2:=lhd hb2;have hrun2:rgo b mst (n+1) a last acc=if 257<=s∨s=last∨k=0 then ([],4) else if mst - acc.length < k then ([],3) else rgo b mst n e s (acc++List.replicate k (s:Int)):=aCz _ _ _ _ _ _ _ _ _ (wV _ _ _ _ _ _ h1 h2);obtain ⟨Hrun2,Hk64⟩:=hqq2 hrun2 hle2.2.2;clear hab h1 h2 hb1 hle1 htob hb2 hle2 hrun2;by_cases hbad:257<=s∨s=last∨k=0
        · have hR:([],4)=R:=(by rw [<-Hg.out,Hrun2.out,zBx hbad]);have HR:=lhd hR;have hbad':257<=s∨(s < 257/\s=last)∨(s < 257/\s≠last/\k=0):=oM;clear hR hbad;rcases hbad' with h |⟨h,h'⟩|⟨h,h',h''⟩
          · go_wp2_with fail;refine (fK _ _ _ _ _ _ _ _ _ _ Hb1.out Hr2.out hmc hcl).mono ?_;rintro e w5 ⟨rfl,rfl⟩;go_wp2_with fail;refine (fK _ _ _ _ _ _ _ _ _ _ Hb2.out Hr2.out hmc hcl).mono ?_;rintro e w5 ⟨rfl,rfl⟩;go_wp2;go_ret2;exact ⟨gT HR.out,hb⟩
          · subst h';go_wp2_with fail;refine (fK _ _ _ _ _ _ _ _ _ _ Hb1.out Hr2.out hmc hcl).mono ?_;rintro e w5 ⟨rfl,rfl⟩;go_wp2_with fail;refine (fK _ _ _ _ _ _ _ _ _ _ Hb2.out Hr2.out hmc hcl).mono ?_;rintro e w5 ⟨rfl,rfl⟩;go_wp2;go_ret2;exact ⟨gT HR.out,hb⟩
          · subst h'';have ht:((s:Int)==(last:Int))=false:=(by rw [zCb];omega);clear h';go_wp2_with fail;refine (fK _ _ _ _ _ _ _ _ _ _ Hb1.out Hr2.out hmc hcl).mono ?_;rintro e w5 ⟨rfl,rfl⟩;go_wp2_with fail;refine (fK _ _ _ _ _ _ _ _ _ _ Hb2.out Hr2.out hmc hcl).mono ?_;rintro e w5 ⟨rfl,rfl⟩;go_wp2;go_ret2;exact ⟨gT HR.out,hb⟩
        · have h257:s < 257:=oM;have hk0:0 < k:=oM;have ht0:((k:Int)==0)=false:=(by rw [zCb];omega);have ht1:decide ((257:Int)<=(s:Int))=false:=(by simp;omega);have ht:((s:Int)==(last:Int))=false:=(by rw [zCb];omega);obtain ⟨q,hq⟩:=eqx acc.length;have hrun3:rgo b mst (n+1) a last acc=if mst - q < k then ([],3) else rgo b mst n e s (acc++List.replicate k (s:Int)):=(by rw [Hrun2.out,zBw hbad,hq]);obtain ⟨Hrun3,Hq⟩:=hqq2 hrun3 hq;rw [hq] at hown hacc;obtain ⟨A',c',rfl,hm3⟩:=aS hown;have Hown:=lhd hown;have hn64:=Hn.out;have hmxl:∃mx:Int,mx=(mst:Int) -(q:Int):=⟨_,rfl⟩;clear hbad hrun3 hq hm3 hown hmxl;by_cases hfull:mst - q < k
          · have hR:([],3)=R:=(by rw [<-Hg.out,Hrun3.out,zBx hfull]);have HR:=lhd hR;have hf2:(mst:Int) -(q:Int) < (k:Int):=oM;clear hR hfull hn64;rcases Hcase.out with hc |⟨hc,hc'⟩
            · subst hc;go_wp2_with fail;refine (fK _ _ _ _ _ _ _ _ _ _ Hb1.out Hr2.out hmc hcl).mono ?_;rintro e w5 ⟨rfl,rfl⟩;go_wp2_with fail;refine (fK _ _ _ _ _ _ _ _ _ _ Hb2.out Hr2.out hmc hcl).mono ?_;rintro e w5 ⟨rfl,rfl⟩;go_wp2;go_ret2;exact ⟨gT HR.out,hb⟩
            · go_wp2_with fail;refine (fK _ _ _ _ _ _ _ _ _ _ Hb1.out Hr2.out hmc hcl).mono ?_;rintro e w5 ⟨rfl,rfl⟩;go_wp2_with fail;refine (fK _ _ _ _ _ _ _ _ _ _ Hb2.out Hr2.out hmc hcl).mono ?_;rintro e w5 ⟨rfl,rfl⟩;go_wp2;go_ret2;exact ⟨gT HR.out,hb⟩
          · have hR:rgo b mst n e s (acc++List.replicate k (s:Int))=R:=(by rw [<-Hg.out,Hrun3.out,zBw hfull]);have HR:=lhd hR;have hf2:(k:Int)<=(mst:Int) -(q:Int):=oM;have hc:most=(mst:Int):=(by rcases Hcase.out with h |⟨_,h⟩<;> omega);subst hc;clear hR hfull;go_wp2_with fail;refine (fK _ _ _ _ _ _ _ _ _ _ Hb1.out Hr2.out hmc hcl).mono ?_;rintro e w5 ⟨rfl,rfl⟩;go_wp2_with fail;refine (fK _ _ _ _ _ _ _ _ _ _ Hb2.out Hr2.out hmc hcl).mono ?_;rintro e w5 ⟨rfl,rfl⟩;go_wp2;go_loopw [9,73] (fun v i wx=>∃j:Nat,j<=k/\i=.int .u64 (j:Int)/\wx.ownsRow w.heap.size 3 1 v (q+j) ((acc++List.replicate j (s:Int)).map iv)/\Below w.heap.size w wx) (fun _ i _=>k -(intOf i).toNat)
            case atStart=>exact ⟨0,zAp _,rfl,by simpa using Hown.out,hb⟩
            case round=>
             obtain ⟨j,hj,rfl,hown1,hb1⟩:=hrel;have hsz1:=hb1.size;by_cases hjk:j < k
             · go_wp2_with (at_builtin;refine bP _ rfl (.tmp 75) (.tmp 78) _ rfl w.heap.size 3 i0 (.int .i64 0) 1 8 Tryz.underlying22 hi0 hz0 hz1 hz2 rfl dC u9 (q+j) _ rfl hown1 rfl rfl (by simp [Value.oneCell']) (by unfold maxLen;omega) oM hsz1 ?_;intro v2 w2 hown2 hg2 hs2 hat2);have hb2:=aZ hb1 hown1 hg2 hsz1;clear hg2 hat2;go_roundw
               case rel=>refine ⟨j+1,by omega,by go_num,?_,hb2⟩;rw [List.replicate_succ',<-zCo,zAz];exact hown2
               case measure=>simp [intOf];omega
             · have hjk2:j=k:=oM;have hge:k<=j:=oM;rw [hjk2] at hown1;clear hjk2;go_wp2;refine ⟨⟨n,e,s,acc++List.replicate k (s:Int),dN oM,rfl,rfl,?_,?_,he,by omega,HR.out,hb1⟩,by simp [intOf]⟩;rw [zAi,zCn,Hq.out];exact hown1;rw [zAi,zCn,Hq.out];omega
theorem aE6 (A:Option Addr) (m c B:Nat) (b:List UInt8) (most:Int) (w:World) (hr:Rd w B 1 A m (b.map bv)) (hB:B<=w.heap.size) (hmc:m<=c) (hcl:c<=maxLen) (hmost:most<=1099511627776) (hmost2:-9223372036854775808<=most):
 Calls Tryz.prog 48 #[.slice A m c,.int .i64 most] w fun e w'=>aB3 w w' (mP b most) e/\Below w.heap.size w w':=by
 obtain ⟨i0,hi0,hz0,hz1,hz2⟩:=info_parts aBa;have hll:b.length=m:=by simpa using hr.1
 obtain ⟨Hll,Hr⟩:=hqq2 hll (hr.mono hB);have hB0:=Below.refl w.heap.size w;obtain ⟨R,hR⟩:=eqx (mP b most);rw [hR];rcases hfirst:eJ b true 0 0 with _ |⟨n0,a0⟩
 · have h0:eI b 0=(0,0,4):=qH b 0 (zAp _) (by simpa using hfirst);have h1:([],4)=R:=(by rw [<-hR,mP,hfirst]);obtain ⟨H0,H1⟩:=hqq2 h0 h1;clear hr hll hR h0 h1 hfirst;go_enter Tryz.func48,Tryz.ntmps48;go_wp2_with (go_at_call 104;refine (fK _ _ _ _ _ _ _ _ _ _ H0.out Hr.out hmc hcl).mono ?_;rintro e w5 ⟨rfl,rfl⟩)
   go_loop [6] (fun x=>x=.int .u64 0) (fun _=>0)
   case atStart=>rfl
   case round=>subst hrel;go_wp2;go_ret2;exact ⟨gT H1.out,hB0⟩
 have hle:=xR _ _ _ _ _ _ hfirst;have h0:eI b 0=(n0,(a0:Int),0):=qG b 0 n0 a0 (zAp _) (by simpa using hfirst);have h1:rgo b most.toNat n0 a0 257 []=R:=(by rw [<-hR,mP,hfirst]);have ha0:a0<=m:=oM;obtain ⟨H0,H1,Hn0⟩:=hqq3 h0 h1 hle.2.2;obtain ⟨mst,hmst⟩:∃mst:Nat,most.toNat=mst:=⟨_,rfl⟩;rw [hmst] at H1;have hmsb:mst<=1099511627776:=oM;have hcase:most=(mst:Int)∨(most < 0/\mst<=0):=oM;clear hr hll hR h0 h1 hfirst hle hmst hmost hmost2;rcases hcase with hcase |⟨hneg,hm0⟩;subst hcase;exact uU A m c b (mst:Int) w i0 hi0 hz0 hz1 hz2 Hll Hr hB0 hmc hcl R n0 a0 ha0 H0 Hn0 mst H1 hmsb (.inl rfl);exact uU A m c b most w i0 hi0 hz0 hz1 hz2 Hll Hr hB0 hmc hcl R n0 a0 ha0 H0 Hn0 mst H1 hmsb (.inr ⟨hneg,hm0⟩)
theorem aHa (A:Option Addr) (m c B:Nat) (b:List UInt8) (most:Int) (w:World) (l:List Int) (n:Nat) (k:Int) (h:mP b most=(l,k)) (hn:l.length=n) (hr:Rd w B 1 A m (b.map bv)) (hB:B<=w.heap.size) (hmc:m<=c) (hcl:c<=maxLen) (hmost:most<=1099511627776) (hmost2:-9223372036854775808<=most):
 Calls Tryz.prog 48 #[.slice A m c,.int .i64 most] w fun e w'=>∃A' c',e=.returned (.tuple #[.slice A' n c',.int .i64 k])/\Made w' w.heap.size 3 1 A' n c' (l.map iv)/\Below w.heap.size w w':=by
 subst hn;refine (aE6 A m c B b most w hr hB hmc hcl hmost hmost2).mono fun e w' ⟨⟨A',c',he,hm⟩,hb⟩=>?_;rw [h] at he hm;exact ⟨A',c',he,hm,hb⟩
theorem tI {w:World} {B n:Nat} {A:Option Addr} {l:List UInt8} (hr:Rd w B 1 A n (l.map bv)):∀c,(convert 26 9 (.slice A n c)).run Tryz.prog w=.ok (.string ⟨l.toArray⟩) w:=
 fun c=>gL (P:=Tryz.prog) 26 9 5 Tryz.underlying26 Tryz.underlying5 Tryz.underlying9 hr
section
variable (l : List UInt8) (w : World)
end
end
end Go.Proofs.YthldmddkfbijhaaGreatDoor
