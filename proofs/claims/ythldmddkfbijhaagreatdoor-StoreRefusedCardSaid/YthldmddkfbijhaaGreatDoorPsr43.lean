/- Lemmas of the walk. Conditions: each its own. -/
import Derived.Test.YthldmddkfbijhaaGreatDoorPsr39
import Derived.Test.YthldmddkfbijhaaGreatDoorProg
import Derived.Test.YthldmddkfbijhaaGreatDoorShl
import Derived.Test.YthldmddkfbijhaaGreatDoorShi
set_option linter.all false
set_option maxRecDepth 100000
set_option maxHeartbeats 4000000
namespace Go.Proofs.YthldmddkfbijhaaGreatDoor
open Go.RowKit
def shO (bs:List Bool):Shp:=⟨(bs.length:Int),0,1,1⟩
def shL (L:List Nat) (lv:Nat):Nat->List Shp
 | 0=> []
 | p+1=>shL L lv p++if aL L lv p= [] then [] else [shO (aL L lv p)]
def shA (L:List Nat):Nat->List Shp
 | 0=> []
 | lv+1=>shA L lv++shL L lv (2 ^ lv)
theorem aJz {L:List Nat} {lv p:Nat} {s:Shp} (h:s∈shL L lv p):∃q,q < p/\aL L lv q≠ []/\s=shO (aL L lv q):=by
 induction p with
 | zero=>cases h
 | succ p ih=>
   unfold shL at h;rcases zCp.1 h with h | h;obtain ⟨q,h1,h2⟩:=ih h;exact ⟨q,by omega,h2⟩
   · by_cases c:aL L lv p= []
     · rw [zBx c] at h;cases h
     rw [zBw c] at h;exact ⟨p,by omega,c,List.mem_singleton.1 h⟩
theorem aJA {L:List Nat} {k:Nat} {s:Shp} (h:s∈shA L k):∃lv q,lv < k/\q < 2 ^ lv/\aL L lv q≠ []/\s=shO (aL L lv q):=by
 induction k with
 | zero=>cases h
 | succ k ih=>
   unfold shA at h;rcases zCp.1 h with h | h;obtain ⟨lv,q,h1,h2⟩:=ih h;exact ⟨lv,q,by omega,h2⟩;obtain ⟨q,h1,h2⟩:=aJz h;exact ⟨k,q,by omega,h1,h2⟩
theorem aA7 (L:List Nat) (lv p:Nat):(shL L lv p).length<=p:=by
 induction p with
 | zero=>exact zAs _
 | succ p ih=>
   unfold shL;rw [zAi];split;simp;omega;simp;omega
theorem aJB (L:List Nat):(shA L 9).length<=511:=by
 have h:=fun lv=>aA7 L lv (2 ^ lv);have:=h 0;have:=h 1;have:=h 2;have:=h 3;have:=h 4;have:=h 5;have:=h 6;have:=h 7;have:=h 8;simp only [shA,zAi,List.length_nil];omega
theorem aKc (L:List Nat) (lv q:Nat):(aL L lv q).length<=L.length:=by
 rw [jF];exact zBh
theorem aGL (L:List Nat) (hL:∀s∈L,s < 257):(aL L 0 0).length=L.length:=by
 rw [jF,List.countP_eq_length];intro s hs;have h:=hL s hs;have:bG s 0=0:=by unfold bG;omega
 rw [this];rfl
theorem aHS (L:List Nat) (hL:∀s∈L,s < 257) (h0:L≠ []):∃R,shA L 9=⟨(L.length:Int),0,1,1⟩::R:=by
 have hz:=aGL L hL;have hne:aL L 0 0≠ []:=fun e=>by rw [e] at hz;exact h0 (zCx.1 hz.symm)
 have h1:shA L 1= [⟨(L.length:Int),0,1,1⟩]:=by show []++shL L 0 1=_;show []++([]++if aL L 0 0= [] then [] else [shO (aL L 0 0)])=_;rw [zBw hne];unfold shO;rw [hz];rfl
 have h9:∀k,∃R,shA L (1+k)=⟨(L.length:Int),0,1,1⟩::R:=fun k=>by
  induction k with
  | zero=>exact ⟨[],h1⟩
  | succ k ih=>
    obtain ⟨R,hR⟩:=ih;refine ⟨R++shL L (1+k) (2 ^(1+k)),?_⟩;show shA L (1+k)++_=_;rw [hR];rfl
 exact h9 8
theorem aA5 (a b:List Shp):cD (a++b)=cD a++cD b:=by simp [cD]
theorem aFj (F:Nat->Prop) (ga:Nat) (w:World) (h:ArenaE w F ga [true] []):
 Calls Tryz.prog 198 #[ga] w fun e w'=>e=.returned (.int .i64 1)/\Below w.heap.size w w':=by
 obtain ⟨_,At,ct,Af,cf,hb,_⟩:=h;have c0:w.cell? ⟨ga,0,none⟩=some (.slice At 1 ct):=(hb.cell 0).trans rfl;have c1:w.cell? ⟨ga,1,none⟩=some (.slice Af 0 cf):=(hb.cell 1).trans rfl;clear hb;go_enter Tryz.func198,Tryz.ntmps198;go_wp2;go_quiet (fail);go_wp2;go_ret;exact ⟨rfl,below_drewN bR _⟩
theorem aGR (F:Nat->Prop) (gt ga:Nat) (a b c:Value) (w:World) (ht:Bk w gt 202 #[ga,a,b,c]) (h:ArenaE w F ga [true] []):
 Calls Tryz.prog 215 #[gt] w fun e w'=>e=.returned (.int .i64 1)/\Below w.heap.size w w':=by
 have c0:=ht.cell 0;have ha:=aFj F ga w h;clear ht h;go_enter Tryz.func215,Tryz.ntmps215;go_wp2_with fail;refine ha.mono ?_;rintro e w1 ⟨rfl,hb⟩;clear ha;go_wp2_with fail;go_ret;exact ⟨rfl,hb⟩
theorem zV (F:Nat->Prop) (gt:Nat) (bs:List Bool) (w:World) (h:TreeE w F gt bs) (hne:bs≠ []):
 Calls Tryz.prog 179 #[gt] w fun e w'=>e=.returned (shO bs).val/\Below w.heap.size w w':=by
 have hT:=h;obtain ⟨h0,ga,v,⟨h1,_⟩|⟨h1,_⟩|⟨h1,h2,gl,cl,gb,h3,h4,h5,h6⟩⟩:=h;exact absurd h1 hne;exact absurd h1 hne;obtain ⟨W,hW⟩:=eqx (w.alloc (.cells #[.int .i64 0,.int .i64 0,.int .i64 0,.int .i64 0] 122));obtain ⟨gr,hgre⟩:=eqx w.heap.size;obtain ⟨n,hn⟩:=eqx bs.length;have hbW:Below gr w W:=by rw [<-hW,<-hgre];exact bR.alloc nL _
 have hgr:Bk W gr 122 #[.int .i64 0,.int .i64 0,.int .i64 0,.int .i64 0]:=by rw [<-hW,<-hgre];exact Bk.new _ _ _
 have hsW:=hgr.lt;have hlt:gt < gr:=by rw [<-hgre];exact h5.tree.lt
 have hll:gl < gr:=by rw [<-hgre];exact h5.row.lt.2
 have hlv:=aGR F gt ga _ _ _ W (h5.tree.below hbW hlt) (h6.vis (Vis.of_below (by rw [hgre];exact hbW)));obtain ⟨t0,t1,t2,t3,t4,t5,t6,t7,t8,t9,t10,t11⟩:=h5.cells;have hsh:(shO bs).val=.agg #[(n:Int),.int .i64 0,.int .i64 1,.int .i64 1]:=by rw [<-hn];rfl
 obtain ⟨HW,Hgre,HbW,Hgr0,Ht1,Ht2,Ht6,HT,Hn⟩:=hqq9 hW hgre hbW hgr t1 t2 t6 hT hn;have Hsh:=lhd hsh;clear hT h0 h1 h2 h3 h4 h5 h6 hW hgre hbW hgr t0 t1 t2 t3 t4 t5 t6 t7 t8 t9 t10 t11 hsh hn;rw [Hsh.out,Hgre.out];go_enter Tryz.func179,Tryz.ntmps179;have c2:w.cell? ⟨gt,2,none⟩=some (.int .i64 0):=Ht2.out;have hlt2:gt < w.heap.size:=by rw [Hgre.out];exact hlt
 go_wp2_with fail;rw [HW.out]
 try rw [Hgre.out]
 refine hlv.mono ?_;clear hlv c2 hlt2;rintro e w2 ⟨rfl,hb2⟩;have hb02:Below gr w w2:=HbW.out.trans (hb2.mono (zCm hsW));have hle:gr<=w2.heap.size:=zAk (zCm hsW) hb2.size;have hcells:∀w5,Keep (fun _=>False) w2 w5->w5.cell? ⟨gt,1,none⟩=some (.slice (some ⟨gl,0,none⟩) 1 cl)/\w5.cell? ⟨gt,2,none⟩=some (.int .i64 0)/\w5.cell? ⟨gl,2,none⟩=some (.int .i64 0):=fun w5 k=>by have q:=hb02.trans (k.to_below hle fun b _ f=>f.elim);exact ⟨(q.cell hlt).trans Ht1.out,(q.cell hlt).trans Ht2.out,(q.cell hll).trans Ht6.out⟩
 have hlen:∀w5,Keep (fun _=>False) w2 w5->Calls Tryz.prog 178 #[gt] w5 fun e w'=>e=.returned (.int .i64 (n:Int))/\Below w5.heap.size w5 w':=fun w5 k=>by have q:=hb02.trans (k.to_below hle fun b _ f=>f.elim);have:=eR gt bs w5 (HT.out.at.below (by rw [Hgre.out];exact q));rw [Hn.out] at this;exact this
 obtain ⟨Hgr,Hb02,Hcells,Hlen⟩:=hqq4 (Hgr0.out.below hb2 hsW) hb02 hcells hlen;clear hb2 hb02 hle hcells hlen hsW;go_wp2_with fail;refine wp_region_any kR ?_;refine cH 18 [16,17,18,19,20,21,22,23,24,25,26,27,28,29,30,31,32,33] (fun _=>False) 0 [] (fun _=>True) (is gt) [cR,is (n:Int),is gt,is gt,is (.pointer (some ⟨gt,1,none⟩)),is (.slice (some ⟨gl,0,none⟩) 1 cl),is gt,is gt,is (.pointer (some ⟨gt,2,none⟩)),is (.int .i64 0),is gl,is (.pointer (some ⟨gl,2,none⟩)),is (.int .i64 0),is (.int .i64 1),is (.int .i64 2),is (.int .i64 1),is (.int .i64 1),is (.agg #[(n:Int),.int .i64 0,.int .i64 1,.int .i64 1])] _ _ rfl dC kR kR kR (trivial) (fun _ _ _ _ _=>trivial) (fun _ _ _ h _=>h) tA0 ?_ ?_
 · refine bM ?_;refine sC3 (fun ev _ _ _ _ _ hold _ _ _ _ hK=>?_) ?_
   · have e0:ev (.tmp 0)=.pointer (some ⟨gt,0,none⟩):=hold 0 kR;go_simp;exact hK _ _ (aW (Keep.refl _ _)) rfl
   refine sC3 (fun ev w5 hS _ _ _ _ hval _ _ _ hK=>?_) ?_
   · replace hS:Keep (fun _=>False) w2 w5:=kD hS;have p16:(is gt) (ev (.tmp 16)) w5:=hval 0 16 kR rfl;have e16:ev (.tmp 16)=.pointer (some ⟨gt,0,none⟩):=p16;have hl5:=Hlen.out w5 hS;go_simp;refine hl5.mono ?_;rintro e w8 ⟨rfl,hb8⟩;exact hK _ _ (aJ hb8) rfl
   refine pH3 0 (.pointer (some ⟨gt,0,none⟩)) ?_;refine pV3 2 18 ?_;refine pV3 3 19 ?_;refine sC3 (fun _ w5 hS _ _ _ _ hval _ _ _ hK=>?_) ?_
   · replace hS:Keep (fun _=>False) w2 w5:=kD hS;have e20:_=_:=hval 4 20 kR rfl;obtain ⟨k1,k2,k3⟩:=Hcells.out w5 hS;go_simp;exact kq hK rfl
   refine pH3 0 (.pointer (some ⟨gt,0,none⟩)) ?_;refine pV3 6 22 ?_;refine pV3 7 23 ?_;refine sC3 (fun _ w5 hS _ _ _ _ hval _ _ _ hK=>?_) ?_
   · replace hS:Keep (fun _=>False) w2 w5:=kD hS;have e24:_=_:=hval 8 24 kR rfl;obtain ⟨k1,k2,k3⟩:=Hcells.out w5 hS;go_simp;exact kq hK rfl
   refine sC3 (fun _ w5 hS _ _ _ _ hval _ _ _ hK=>?_) ?_
   · replace hS:Keep (fun _=>False) w2 w5:=kD hS;have e21:_=_:=hval 5 21 kR rfl;have e25:_=_:=hval 9 25 kR rfl;obtain ⟨k1,k2,k3⟩:=Hcells.out w5 hS;go_simp;exact kq hK rfl
   refine pV3 10 26 ?_;refine sC3 (fun _ w5 hS _ _ _ _ hval _ _ _ hK=>?_) ?_
   · replace hS:Keep (fun _=>False) w2 w5:=kD hS;have e27:_=_:=hval 11 27 kR rfl;obtain ⟨k1,k2,k3⟩:=Hcells.out w5 hS;go_simp;exact kq hK rfl
   refine pH3 3 (.int .i64 1) ?_;refine pV3 13 29 ?_;refine pV3 14 30 ?_;refine pH3 3 (.int .i64 1) ?_;refine sC3 (fun _ _ _ _ _ _ _ hval _ _ _ hK=>?_) ?_
   · have e17:_=_:=hval 1 17 kR rfl;have e28:_=_:=hval 12 28 kR rfl;have e31:_=_:=hval 15 31 kR rfl;have e32:_=_:=hval 16 32 kR rfl;go_simp;exact kq hK rfl
   exact aC
 · intro ev w6 f hS hval;replace hS:Keep (fun _=>False) w2 w6:=kD hS;have e33:ev (.tmp 33)=.agg #[(n:Int),.int .i64 0,.int .i64 1,.int .i64 1]:=hval 17 33 dC rfl;simp only [aI,zq1,zq2,Act.put,zq3,zq4,zq5];rw [e33];clear hval;have hb6:Bk w6 gr 122 #[.int .i64 0,.int .i64 0,.int .i64 0,.int .i64 0]:=Keep.bk hS Hgr.out fun f=>f;have f0:=hb6.frozen 0;have f1:=hb6.frozen 1;have f2:=hb6.frozen 2;have f3:=hb6.frozen 3;have c0:=hb6.cell 0;have c1:=hb6.cell 1;have c2:=hb6.cell 2;have c3:=hb6.cell 3;obtain ⟨Hb6,HS⟩:=hqq2 hb6 hS;clear hb6 hS;change wpAny Tryz.prog Region.Mode.any _ _ (1+f) (bV 18 19) _ w6;rw [zCs 1 f];refine aQ (f:=f) (i:=18) kR ?_;refine bW rfl rfl ?_;generalize hK:wpAny Tryz.prog _ _ _ f _=K5;go_simp;subst hK;refine bK kR ?_;have hb6b:Below gr w w6:=Hb02.out.trans (HS.out.to_below (zCm Hgr.out.lt) fun b _ f=>f.elim);have hfin:=(((hb6b.setCell (p:=⟨gr,0,none⟩) nL (.int .i64 (n:Int))).setCell (p:=⟨gr,1,none⟩) nL (.int .i64 0)).setCell (p:=⟨gr,2,none⟩) nL (.int .i64 1)).setCell (p:=⟨gr,3,none⟩) nL (.int .i64 1);have hres:=(((Hb6.out.set 0 (.int .i64 (n:Int))).set 1 (.int .i64 0)).set 2 (.int .i64 1)).set 3 (.int .i64 1);generalize (((w6.setCell ⟨gr,0,none⟩ (.int .i64 (n:Int))).setCell ⟨gr,1,none⟩ (.int .i64 0)).setCell ⟨gr,2,none⟩ (.int .i64 1)).setCell ⟨gr,3,none⟩ (.int .i64 1)=w9 at hfin hres⊢;obtain ⟨Hfin,Hres⟩:=hqq2 hfin hres;clear hfin hres hb6b f0 f1 f2 f3 c0 c1 c2 c3;go_wp2_with fail;exact bodyPost_ret (results_cell_row (P:=Tryz.prog) (fn:=Tryz.f179) (p:=2) (ty:=122) rfl _ w9 gr 122 #[(n:Int),.int .i64 0,.int .i64 1,.int .i64 1] (0,0) _ rfl Hres.out Tryz.underlying122 rfl kR) rfl ⟨rfl,Hfin.out⟩
theorem aHR:(Tryz.prog.info? 122).map (fun i=>(i.zero.map (·.cells.size),i.size,i.bytes))=some (some 4,4,32):=by kernel_rfl
theorem aF5:∃i0 z0,Tryz.prog.info? 122=some i0/\i0.zero=some z0/\i0.size=4/\i0.bytes=32/\z0.cells.size=4:=by
 have h:=aHR;cases hi:Tryz.prog.info? 122 with
 | none=>rw [hi] at h;cases h
 | some i0=>
   rw [hi] at h;cases hz:i0.zero with
   | none=>simp [hz] at h
   | some z0=>
     simp [hz] at h;exact ⟨i0,z0,rfl,hz,h.2.1,h.2.2,h.1⟩
theorem aKB (L:List Nat) (lv:Nat):(shA L lv).length+1<=2 ^ lv:=by
 induction lv with
 | zero=>exact zAs _
 | succ lv ih=>
   have:=aA7 L lv (2 ^ lv);unfold shA;rw [zAi,Nat.pow_succ];omega
def mZ (w:World) (l:List Shp) (e:Ending) (w':World):Prop:=∃v,e=.returned v/\w'.ownsRow w.heap.size 122 4 v l.length (cD l)/\Below w.heap.size w w'
theorem yF (B gv:Nat) (own:Nat->Nat) (L:List Nat) (w:World) (h:WaveE w B own gv L):
 Calls Tryz.prog 129 #[gv] w (mZ w (shA L 9)):=by
 obtain ⟨i0,z0,hi0,hz0,hz1,hz2,hz3⟩:=aF5;obtain ⟨S,v,h⟩:=h;have hrows:=h.rows;have hb:=h.blk;obtain ⟨d0,d1,d2,d3,d4,d5,d6,d7,d8,d9,d10⟩:=bI S (L.length:Int) v;have c0:w.cell? ⟨gv,0,none⟩=some (S 0):=(hb.cell 0).trans d0;have c1:w.cell? ⟨gv,1,none⟩=some (S 1):=(hb.cell 1).trans d1;have c2:w.cell? ⟨gv,2,none⟩=some (S 2):=(hb.cell 2).trans d2;have c3:w.cell? ⟨gv,3,none⟩=some (S 3):=(hb.cell 3).trans d3;have c4:w.cell? ⟨gv,4,none⟩=some (S 4):=(hb.cell 4).trans d4;have c5:w.cell? ⟨gv,5,none⟩=some (S 5):=(hb.cell 5).trans d5;have c6:w.cell? ⟨gv,6,none⟩=some (S 6):=(hb.cell 6).trans d6;have c7:w.cell? ⟨gv,7,none⟩=some (S 7):=(hb.cell 7).trans d7;have c8:w.cell? ⟨gv,8,none⟩=some (S 8):=(hb.cell 8).trans d8;have Hrows:=lhd hrows;clear hrows hb h d0 d1 d2 d3 d4 d5 d6 d7 d8 d9 d10;unfold mZ;go_enter Tryz.func129,Tryz.ntmps129;go_wp2_with fail;go_loopw [3,14] (fun x i wr=>∃lv:Nat,lv<=9/\i=.int .i64 (lv:Int)/\wr.ownsRow w.heap.size 122 4 x (shA L lv).length (cD (shA L lv))/\Below w.heap.size w wr) (fun _ i _=>9 -(intOf i).toNat)
 case atStart=>exact ⟨0,by omega,rfl,World.ownsRow_nil _ _ _ _,Below.refl _ _⟩
 case round=>
  obtain ⟨lv,hlv,rfl,hown,hb⟩:=hrel;by_cases hl9:lv < 9
  · have hix:=ix9 S lv hl9;obtain ⟨G,hsh,_,htr⟩:=Hrows.out lv hl9;obtain ⟨m,hm⟩:=eqx (2 ^ lv);have hm9:m<=512:=(by rw [<-hm];exact zAk (zBp dC (by omega:lv<=9)) dC);have hm0:0 < m:=(by rw [<-hm];exact Nat.pow_pos dC);rw [hm] at hsh htr;obtain ⟨g,cap,hSl,hnc,hgl⟩:=World.ownsRow.form hsh hm0;rw [hSl] at hix hsh;have hsA:=aKB L lv;rw [hm] at hsA;obtain ⟨Hown,Hb,Hsh,Htr,Hm,HsA⟩:=hqq6 hown hb hsh htr hm hsA;clear hown hb hsh htr hSl hm hsA;go_wp2_with fail;have hd9:decide ((lv:Int) < 9)=true:=zBz oM;rw [hd9];go_loopw [3,19] (fun x i wr2=>∃p:Nat,p<=m/\i=.int .i64 (p:Int)/\wr2.ownsRow w.heap.size 122 4 x (shA L lv++shL L lv p).length (cD (shA L lv++shL L lv p))/\Below w.heap.size w wr2) (fun _ i _=>m -(intOf i).toNat)
    case atStart=>exact ⟨0,zAp _,rfl,by rw [show shA L lv++shL L lv 0=shA L lv from List.append_nil _];exact Hown.out,Hb.out⟩
    case round=>
        obtain ⟨p,hp,rfl,hown2,hb2⟩:=hrel;have hsz2:=hb2.size;by_cases hpm:p < m
        · have hpI:(p:Int) < (m:Int):=oM;have hrow5:=aP Hsh.out hb2;obtain ⟨q0,q1,q2⟩:=fO G lv m p hpm;have a0:wr.cell? ⟨g,p*3,none⟩=_:=(World.ownsRow.cellAt hrow5 (p*3) oM).trans q0;have a1:wr.cell? ⟨g,p*3+1,none⟩=_:=(World.ownsRow.cellAt hrow5 (p*3+1) oM).trans q1;have a2:wr.cell? ⟨g,p*3+2,none⟩=_:=(World.ownsRow.cellAt hrow5 (p*3+2) oM).trans q2;obtain ⟨gt,hgt⟩:=eqx (G p);rw [hgt] at a0;have ht:=Htr.out p hpm;rw [hgt] at ht;obtain ⟨W2,hW2⟩:=eqx (wr.alloc (.cells #[.pointer (some ⟨gt,0,none⟩),(lv:Int),(p:Int)] 157));obtain ⟨gx,hgx⟩:=eqx wr.heap.size;have hbW:Below wr.heap.size wr W2:=(by rw [<-hW2];exact bR.alloc nL _);have hbx:Bk W2 gx 157 #[.pointer (some ⟨gt,0,none⟩),(lv:Int),(p:Int)]:=(by rw [<-hW2,<-hgx];exact Bk.new _ _ _);have hb3:=hb2.trans (hbW.mono hsz2);have ht2:=ht.vis (Vis.of_below hb3);have hown3:=aP hown2 hbW;obtain ⟨bs,hbs⟩:=eqx (aL L lv p);rw [hbs] at ht2;have hnx:shL L lv (p+1)=shL L lv p++if bs= [] then [] else [shO bs]:=(by rw [<-hbs];rfl);have hlen:=eR gt bs W2 ht2.at
          have d0:=hbx.cell 0;have hbxl:=hbx.lt;obtain ⟨n,hn⟩:=eqx bs.length;rw [hn] at hlen;obtain ⟨Hlen,Ht2,Hown3,Hb3,HW2,Hgx,Hnx,Hn,Hbx⟩:=hqq9 hlen ht2 hown3 hb3 hW2 hgx hnx hn hbx;clear hlen ht2 ht hown2 hown3 hb2 hb3 hbW hW2 hgx hnx hn hrow5 q0 q1 q2 hbx hgt hbs;go_wp2_with fail;rw [HW2.out]
          try rw [Hgx.out]
          refine Hlen.out.mono ?_;rintro e w3 ⟨rfl,hb4⟩;have hb5:=Hb3.out.trans (hb4.mono Hb3.out.size);have ht3:=Ht2.out.vis (Vis.of_below hb4);have hown4:=aP Hown3.out hb4;have hbx4:=Hbx.out.below hb4 hbxl;have e0:=hbx4.cell 0;by_cases hn0:n=0
          · subst hn0;have hbs0:bs= []:=zCx.1 Hn.out;have hnx:=Hnx.out;rw [zBx hbs0,List.append_nil] at hnx;obtain ⟨Hown4,Hb5,Hnx2⟩:=hqq3 hown4 hb5 hnx;clear hown4 hb5 hnx ht3 hbx4 e0 hb4;go_wp2_with fail;go_roundw
            case rel=>exact ⟨p+1,by omega,by go_num,by rw [Hnx2.out];exact Hown4.out,Hb5.out⟩
            case measure=>first |(simp [intOf];omega)| simp [intOf]
          · have hne:bs≠ []:=fun e=>hn0 (by rw [<-Hn.out,e];rfl);have hnx:=Hnx.out;rw [zBw hne] at hnx;have g1:decide ((n:Int) > 0)=true:=zBz oM;have g1':decide (0 < n)=true:=zBz oM;have hshp:=zV _ gt bs w3 ht3 hne;have hsv:(shO bs).val=.agg #[(n:Int),.int .i64 0,.int .i64 1,.int .i64 1]:=(by rw [<-Hn.out];rfl);have hsc:(shO bs).cells= [.int .i64 (n:Int),.int .i64 0,.int .i64 1,.int .i64 1]:=(by rw [<-Hn.out];rfl);rw [hsv] at hshp;obtain ⟨K,hK⟩:=eqx ((shA L lv++shL L lv p).length);have hK2:K<=1024:=(by have:=aA7 L lv p;have:=HsA.out;rw [<-hK,zAi];omega);rw [hK] at hown4;obtain ⟨Hown4,Hb5,Hnx2,Hshp,Hsc,HK⟩:=hqq6 hown4 hb5 hnx hshp hsc hK;clear hown4 hb5 hnx ht3 hbx4 hb4 hshp hsv hsc hK hn0;go_wp2_with fail;refine Hshp.out.mono ?_;rintro e w4 ⟨rfl,hb6⟩;have hb7:=Hb5.out.trans (hb6.mono Hb5.out.size);have hown5:=aP Hown4.out hb6;have hal:Below w4.heap.size w4 (w4.alloc (.cells #[(n:Int),.int .i64 0,.int .i64 1,.int .i64 1] 122)):=bR.alloc nL _;have hb8:=hb7.trans (hal.mono hb7.size);have hown6:=aP hown5 hal;have hs8:=hb8.size;obtain ⟨Hown6,Hb8⟩:=hqq2 hown6 hb8;clear hb6 hb7 hb8 hown5 hown6 hal Hshp Hown4 Hb5;go_wp2_with (at_builtin;refine aX _ rfl (.tmp 27) (.tmp 31) _ rfl w.heap.size 122 i0 z0 4 32 Tryz.underlying112 hi0 hz0 hz1 hz2 hz3 dC u3 K _ rfl Hown6.out _ _ 1 1 _ rfl (xB (Bk.new w4 122 #[(n:Int),.int .i64 0,.int .i64 1,.int .i64 1]) rfl) (by simp [Value.oneCell']) (by unfold maxLen;omega) oM hs8 ?_;intro v5 w5 hown7 hg7 hat7);have hb9:=aZ Hb8.out Hown6.out hg7 hs8;have hl9':(shA L lv++shL L lv (p+1)).length=K+1:=(by rw [Hnx2.out,<-zCo,zAi,HK.out];rfl);have hc9:cD (shA L lv++shL L lv (p+1))=cD (shA L lv++shL L lv p)++ [.int .i64 (n:Int),.int .i64 0,.int .i64 1,.int .i64 1]:=(by rw [Hnx2.out,<-zCo,aA5];rw [<-Hsc.out];simp [cD]);have Hb9:=lhd hb9;have Hown9:=lhd (show w5.ownsRow w.heap.size 122 4 v5 (shA L lv++shL L lv (p+1)).length (cD (shA L lv++shL L lv (p+1))) by rw [hl9',hc9];exact hown7);clear hb9 hown7 hg7 hat7 hl9' hc9 hs8;go_roundw
            case rel=>exact ⟨p+1,by omega,by go_num,Hown9.out,Hb9.out⟩
            case measure=>first |(simp [intOf];omega)| simp [intOf]
        · have hpe:p=m:=oM;subst hpe;have hown9:=hown2;rw [show shA L lv++shL L lv p=shA L (lv+1) by rw [<-Hm.out];rfl] at hown9;obtain ⟨Hown9,Hb9⟩:=hqq2 hown9 hb2;clear hown2 hown9 hb2;go_wp2_with fail;go_roundw
          case rel=>exact ⟨lv+1,by omega,by go_num,Hown9.out,Hb9.out⟩
          case measure=>first |(simp [intOf];omega)| simp [intOf]
  · have hle:lv=9:=oM;subst hle;go_wp2_with fail;go_ret;exact ⟨_,rfl,hown,hb⟩
theorem aId (A:Option Addr) (m c:Nat) (l:List Shp) (B:Nat) (w:World) (hr:Rd w B 4 A m (cD l)) (hB:B<=w.heap.size) (hm:m<=1000) (hs:∀s∈l,∃n:Int,0 < n/\n<=1000/\s=⟨n,0,1,1⟩):
 Calls Tryz.prog 81 #[.slice A m c] w fun e w'=>(∃S:Int,e=.returned (.agg #[.int .i64 S,.int .i64 0,(m:Int),(m:Int)]))/\Below w.heap.size w w':=by
 have hll:l.length=m:=by have:=hr.1;rw [qW] at this;omega
 obtain ⟨gr,hgr⟩:∃g,w.heap.size=g:=⟨_,rfl⟩;obtain ⟨gs,hgs⟩:∃g,gr+1=g:=⟨_,rfl⟩;obtain ⟨W,hW⟩:=eqx ((w.alloc (.cells #[.int .i64 0,.int .i64 0,.int .i64 0,.int .i64 0] 122)).alloc (.cells #[.int .i64 0,.int .i64 0,.int .i64 0,.int .i64 0] 122));have hbW:Below gr w W:=by rw [<-hW,<-hgr];exact (bR.alloc nL _).alloc (by simp) _
 have hbr:Bk W gr 122 #[.int .i64 0,.int .i64 0,.int .i64 0,.int .i64 0]:=by rw [<-hW,<-hgr];exact (Bk.new w _ _).alloc _
 have hbs:Bk W gs 122 #[.int .i64 0,.int .i64 0,.int .i64 0,.int .i64 0]:=by rw [<-hW,<-hgs,<-hgr];have:=Bk.new (w.alloc (.cells #[.int .i64 0,.int .i64 0,.int .i64 0,.int .i64 0] 122)) 122 #[.int .i64 0,.int .i64 0,.int .i64 0,.int .i64 0];rw [World.size_alloc] at this;exact this
 have hne:gr≠gs:=oM;have hle:gr<=gs:=oM;have hel:∃b off,0 < m->A=some ⟨b,off,none⟩/\∀(k:Nat) (s:Shp),l[k]?=some s->∀w5,Below gr w w5->w5.cell? ⟨b,off+k*4,none⟩=some (.int .i64 s.len)/\w5.cell? ⟨b,off+k*4+1,none⟩=some (.int .i64 s.height)/\w5.cell? ⟨b,off+k*4+2,none⟩=some (.int .i64 s.leaves)/\w5.cell? ⟨b,off+k*4+3,none⟩=some (.int .i64 s.nodes):=by rcases zBa m with h0 | h0;exact ⟨0,0,fun h=>by omega⟩;obtain ⟨b,off,e,hbl,hc⟩:=(hr.mono hB).2 h0;rw [hgr] at hbl;exact ⟨b,off,fun _=>⟨e,fun k s hk w5 hw=>⟨(hw.cell hbl).trans (hc (k*4+0) _ ((dU l k 0 s hk oM).trans rfl)),(hw.cell hbl).trans (hc (k*4+1) _ ((dU l k 1 s hk oM).trans rfl)),(hw.cell hbl).trans (hc (k*4+2) _ ((dU l k 2 s hk oM).trans rfl)),(hw.cell hbl).trans (hc (k*4+3) _ ((dU l k 3 s hk oM).trans rfl))⟩⟩⟩
 obtain ⟨b,off,hel⟩:=hel;obtain ⟨Hel,Hll,Hs,HW,HbW,Hbr0,Hbs0,Hgr,Hgs⟩:=hqq9 hel hll hs hW hbW hbr hbs hgr hgs;have Hle:=lhd hle;clear hel hll hs hW hbW hbr hbs hgr hgs hr hB hle;rw [Hgr.out];go_enter Tryz.func81,Tryz.ntmps81;go_wp2_with fail;rw [HW.out]
 try rw [Hgr.out]
 try rw [Hgs.out]
 go_loopw [4] (fun i wr=>∃(k:Nat) (S:Int),k<=m/\i=.int .i64 (k:Int)/\Bk wr gs 122 #[.int .i64 S,.int .i64 0,(k:Int),(k:Int)]/\Bk wr gr 122 #[.int .i64 0,.int .i64 0,.int .i64 0,.int .i64 0]/\0<=S/\S<=1000*(k:Int)/\Below gr w wr) (fun i _=>m -(intOf i).toNat)
 case atStart=>exact ⟨0,0,zAp _,rfl,Hbs0.out,Hbr0.out,by omega,by omega,HbW.out⟩
 case round=>
  obtain ⟨k,S,hk,rfl,hbs,hbr,hS0,hS1,hb⟩:=hrel;by_cases hlt:k < m
  · obtain ⟨s,hsk⟩:∃s,l[k]?=some s:=⟨_,zAa (by rw [Hll.out];exact hlt)⟩;obtain ⟨x,hx1,hx2,rfl⟩:=Hs.out s (zAd hsk);obtain ⟨e1,hc⟩:=Hel.out oM;subst e1;have hsz:gr<=wr.heap.size:=(by have:=hbr.lt;omega);have hA:∀w5,Keep (fun _=>False) wr w5->w5.cell? ⟨b,off+k*4,none⟩=some (.int .i64 x)/\w5.cell? ⟨b,off+k*4+1,none⟩=some (.int .i64 0)/\w5.cell? ⟨b,off+k*4+2,none⟩=some (.int .i64 1)/\w5.cell? ⟨b,off+k*4+3,none⟩=some (.int .i64 1)/\w5.cell? ⟨gs,0,none⟩=some (.int .i64 S)/\w5.cell? ⟨gs,1,none⟩=some (.int .i64 0)/\w5.cell? ⟨gs,2,none⟩=some (.int .i64 (k:Int))/\w5.cell? ⟨gs,3,none⟩=some (.int .i64 (k:Int)):=fun w5 hS=>by obtain ⟨x0,x1,x2,x3⟩:=hc k _ hsk w5 (hb.trans (hS.to_below hsz fun _ _ f=>f.elim));have hbs5:=Keep.bk hS hbs fun f=>f;exact ⟨x0,x1,x2,x3,hbs5.cell 0,hbs5.cell 1,hbs5.cell 2,hbs5.cell 3⟩
    have i3:(k:Int) < (m:Int):=oM;have hS2:S<=1000000:=oM;have y1:IntKind.i64.wrap (S+x)=S+x:=(by rw [IntKind.wrap_i64];omega);have y2:IntKind.i64.wrap ((k:Int)+1)=(k:Int)+1:=(by rw [IntKind.wrap_i64];omega);obtain ⟨HA,Hbs,Hbr,Hb,HS1,Hsz⟩:=hqq6 hA hbs hbr hb hS1 hsz;clear hA hbs hbr hb hc hsk hS1 hsz;go_wp2_with fail;refine wp_region_any kR ?_;refine cH 33 [11,12,13,14,15,16,17,18,19,20,21,22,23,24,25,26,27,28,29,30,31,32,33,34,35,36,37,38,39,40,41,42,43] (fun _=>False) 0 [] (fun _=>True) (is gs) [cR,is (S:Int),is (.slice (some ⟨b,off,none⟩) m c),is (k:Int),is (.pointer (some ⟨b,off+k*4,none⟩)),is (.pointer (some ⟨b,off+k*4,none⟩)),is (x:Int),is (S+x:Int),is (.pointer (some ⟨gs,1,none⟩)),is (0:Int),is (.slice (some ⟨b,off,none⟩) m c),is (k:Int),is (.pointer (some ⟨b,off+k*4,none⟩)),is (.pointer (some ⟨b,off+k*4+1,none⟩)),is (0:Int),is (0:Int),is (.pointer (some ⟨gs,2,none⟩)),is (k:Int),is (.slice (some ⟨b,off,none⟩) m c),is (k:Int),is (.pointer (some ⟨b,off+k*4,none⟩)),is (.pointer (some ⟨b,off+k*4+2,none⟩)),is (1:Int),is (.int .i64 ((k:Int)+1)),is (.pointer (some ⟨gs,3,none⟩)),is (k:Int),is (.slice (some ⟨b,off,none⟩) m c),is (k:Int),is (.pointer (some ⟨b,off+k*4,none⟩)),is (.pointer (some ⟨b,off+k*4+3,none⟩)),is (1:Int),is (.int .i64 ((k:Int)+1)),is (.agg #[(S+x:Int),.int .i64 0,.int .i64 ((k:Int)+1),.int .i64 ((k:Int)+1)])] _ _ rfl dC kR kR kR (trivial) (fun _ _ _ _ _=>trivial) (fun _ _ _ h _=>h) tA0 ?_ ?_
    · refine bM ?_;refine sC3 (fun ev _ _ _ _ _ hold _ _ _ _ hK=>?_) ?_
      · have e3:ev (.tmp 3)=.pointer (some ⟨gs,0,none⟩):=hold 3 kR;go_simp;exact hK _ _ (aW (Keep.refl _ _)) rfl
      refine sC3 (fun ev w5 hS _ _ _ _ hval _ _ _ hK=>?_) ?_
      · replace hS:Keep (fun _=>False) wr w5:=kD hS;have p11:(is gs) (ev (.tmp 11)) w5:=hval 0 11 kR rfl;have e11:ev (.tmp 11)=.pointer (some ⟨gs,0,none⟩):=p11;obtain ⟨k0,k1,k2,k3,k4,k5,k6,k7⟩:=HA.out w5 hS;go_simp;exact kq hK rfl
      refine pH3 0 (.slice (some ⟨b,off,none⟩) m c) ?_;refine pH3 4 (.int .i64 (k:Int)) ?_;refine pW3 2 13 3 14 ?_;refine pV3 4 15 ?_;refine sC3 (fun _ w5 hS _ _ _ _ hval _ _ _ hK=>?_) ?_
      · replace hS:Keep (fun _=>False) wr w5:=kD hS;have e16:_=_:=hval 5 16 kR rfl;obtain ⟨k0,k1,k2,k3,k4,k5,k6,k7⟩:=HA.out w5 hS;go_simp;exact kq hK rfl
      refine pW3 1 12 6 17 ?_;refine pH3 3 (.pointer (some ⟨gs,0,none⟩)) ?_;refine sC3 (fun _ w5 hS _ _ _ _ hval _ _ _ hK=>?_) ?_
      · replace hS:Keep (fun _=>False) wr w5:=kD hS;have e19:_=_:=hval 8 19 kR rfl;obtain ⟨k0,k1,k2,k3,k4,k5,k6,k7⟩:=HA.out w5 hS;go_simp;exact kq hK rfl
      refine pH3 0 (.slice (some ⟨b,off,none⟩) m c) ?_;refine pH3 4 (.int .i64 (k:Int)) ?_;refine pW3 10 21 11 22 ?_;refine pV3 12 23 ?_;refine sC3 (fun _ w5 hS _ _ _ _ hval _ _ _ hK=>?_) ?_
      · replace hS:Keep (fun _=>False) wr w5:=kD hS;have e24:_=_:=hval 13 24 kR rfl;obtain ⟨k0,k1,k2,k3,k4,k5,k6,k7⟩:=HA.out w5 hS;go_simp;exact kq hK rfl
      refine pW3 9 20 14 25 ?_;refine pH3 3 (.pointer (some ⟨gs,0,none⟩)) ?_;refine sC3 (fun _ w5 hS _ _ _ _ hval _ _ _ hK=>?_) ?_
      · replace hS:Keep (fun _=>False) wr w5:=kD hS;have e27:_=_:=hval 16 27 kR rfl;obtain ⟨k0,k1,k2,k3,k4,k5,k6,k7⟩:=HA.out w5 hS;go_simp;exact kq hK rfl
      refine pH3 0 (.slice (some ⟨b,off,none⟩) m c) ?_;refine pH3 4 (.int .i64 (k:Int)) ?_;refine pW3 18 29 19 30 ?_;refine pV3 20 31 ?_;refine sC3 (fun _ w5 hS _ _ _ _ hval _ _ _ hK=>?_) ?_
      · replace hS:Keep (fun _=>False) wr w5:=kD hS;have e32:_=_:=hval 21 32 kR rfl;obtain ⟨k0,k1,k2,k3,k4,k5,k6,k7⟩:=HA.out w5 hS;go_simp;exact kq hK rfl
      refine pW3 17 28 22 33 ?_;refine pH3 3 (.pointer (some ⟨gs,0,none⟩)) ?_;refine sC3 (fun _ w5 hS _ _ _ _ hval _ _ _ hK=>?_) ?_
      · replace hS:Keep (fun _=>False) wr w5:=kD hS;have e35:_=_:=hval 24 35 kR rfl;obtain ⟨k0,k1,k2,k3,k4,k5,k6,k7⟩:=HA.out w5 hS;go_simp;exact kq hK rfl
      refine pH3 0 (.slice (some ⟨b,off,none⟩) m c) ?_;refine pH3 4 (.int .i64 (k:Int)) ?_;refine pW3 26 37 27 38 ?_;refine pV3 28 39 ?_;refine sC3 (fun _ w5 hS _ _ _ _ hval _ _ _ hK=>?_) ?_
      · replace hS:Keep (fun _=>False) wr w5:=kD hS;have e40:_=_:=hval 29 40 kR rfl;obtain ⟨k0,k1,k2,k3,k4,k5,k6,k7⟩:=HA.out w5 hS;go_simp;exact kq hK rfl
      refine pW3 25 36 30 41 ?_;refine sC3 (fun _ _ _ _ _ _ _ hval _ _ _ hK=>?_) ?_
      · have e18:_=_:=hval 7 18 kR rfl;have e26:_=_:=hval 15 26 kR rfl;have e34:_=_:=hval 23 34 kR rfl;have e42:_=_:=hval 31 42 kR rfl;go_simp;exact kq hK rfl
      exact aC
    · intro ev w6 f hS hval;replace hS:Keep (fun _=>False) wr w6:=kD hS;have e43:ev (.tmp 43)=.agg #[(S+x:Int),.int .i64 0,.int .i64 ((k:Int)+1),.int .i64 ((k:Int)+1)]:=hval 32 43 dC rfl;simp only [aI,zq1,zq2,Act.put,zq3,zq4,zq5];rw [e43];clear hval;have hb6:Bk w6 gs 122 #[.int .i64 S,.int .i64 0,(k:Int),(k:Int)]:=Keep.bk hS Hbs.out fun f=>f;have f0:=hb6.frozen 0;have f1:=hb6.frozen 1;have f2:=hb6.frozen 2;have f3:=hb6.frozen 3;have c0:=hb6.cell 0;have c1:=hb6.cell 1;have c2:=hb6.cell 2;have c3:=hb6.cell 3;obtain ⟨Hb6,HS⟩:=hqq2 hb6 hS;clear hb6 hS;change wpAny Tryz.prog Region.Mode.any _ _ (1+f) (bV 33 34) _ w6;rw [zCs 1 f];refine aQ (f:=f) (i:=33) kR ?_;refine bW rfl rfl ?_;generalize hK:wpAny Tryz.prog _ _ _ f _=K5;go_simp;subst hK;refine bK kR ?_;have hb6:=Hb.out.trans (HS.out.to_below Hsz.out fun _ _ f=>f.elim);have hfin:=(((hb6.setCell (p:=⟨gs,0,none⟩) Hle.out (.int .i64 (S+x))).setCell (p:=⟨gs,1,none⟩) Hle.out (.int .i64 0)).setCell (p:=⟨gs,2,none⟩) Hle.out (.int .i64 ((k:Int)+1))).setCell (p:=⟨gs,3,none⟩) Hle.out (.int .i64 ((k:Int)+1));have hres:=(((Hb6.out.set 0 (.int .i64 (S+x))).set 1 (.int .i64 0)).set 2 (.int .i64 ((k:Int)+1))).set 3 (.int .i64 ((k:Int)+1));have hbr6:Bk w6 gr 122 #[.int .i64 0,.int .i64 0,.int .i64 0,.int .i64 0]:=Keep.bk HS.out Hbr.out fun f=>f;have hbr9:=(((hbr6.far (p:=⟨gs,0,none⟩) hne (.int .i64 (S+x))).far (p:=⟨gs,1,none⟩) hne (.int .i64 0)).far (p:=⟨gs,2,none⟩) hne (.int .i64 ((k:Int)+1))).far (p:=⟨gs,3,none⟩) hne (.int .i64 ((k:Int)+1));generalize (((w6.setCell ⟨gs,0,none⟩ (.int .i64 (S+x))).setCell ⟨gs,1,none⟩ (.int .i64 0)).setCell ⟨gs,2,none⟩ (.int .i64 ((k:Int)+1))).setCell ⟨gs,3,none⟩ (.int .i64 ((k:Int)+1))=w9 at hfin hres hbr9⊢;obtain ⟨Hfin,Hres,Hbr9⟩:=hqq3 hfin hres hbr9;clear hfin hres hbr6 hbr9 hb6 f0 f1 f2 f3 c0 c1 c2 c3;go_wp2_with fail;go_roundw
      case rel=>exact ⟨k+1,S+x,by omega,by go_num,Hres.out,Hbr9.out,by omega,by have:=HS1.out;omega,Hfin.out⟩
      case measure=>simp [intOf];omega
  · have hkm:k=m:=oM;subst hkm;have c0:=hbs.cell 0;have c1:=hbs.cell 1;have c2:=hbs.cell 2;have c3:=hbs.cell 3;have d0:=hbr.cell 0;have d1:=hbr.cell 1;have d2:=hbr.cell 2;have d3:=hbr.cell 3;have f0:=hbr.frozen 0;have f1:=hbr.frozen 1;have f2:=hbr.frozen 2;have f3:=hbr.frozen 3;have hres:=(((hbr.set 0 (.int .i64 S)).set 1 (.int .i64 0)).set 2 (.int .i64 (k:Int))).set 3 (.int .i64 (k:Int));have hfin:=(((hb.setCell (p:=⟨gr,0,none⟩) nL (.int .i64 S)).setCell (p:=⟨gr,1,none⟩) nL (.int .i64 0)).setCell (p:=⟨gr,2,none⟩) nL (.int .i64 (k:Int))).setCell (p:=⟨gr,3,none⟩) nL (.int .i64 (k:Int));obtain ⟨Hres,Hfin⟩:=hqq2 hres hfin;clear hres hfin hbs hbr hb;go_wp2_with fail;exact bodyPost_ret (results_cell_row (P:=Tryz.prog) (fn:=Tryz.f81) (p:=2) (ty:=122) rfl _ _ gr 122 #[.int .i64 S,.int .i64 0,(k:Int),(k:Int)] (0,0) _ rfl Hres.out Tryz.underlying122 rfl kR) rfl ⟨⟨S,rfl⟩,Hfin.out⟩
theorem aCy (n:Nat) (w:World) (hn:n<=1000000):Calls Tryz.prog 137 #[(n:Int)] w fun e w'=>e=.returned (.int .i64 (n:Int))/\w=w':=by
 go_enter Tryz.func137,Tryz.ntmps137;go_wp2;go_ret;exact ⟨by first | rfl |(congr 3;omega)|(simp;omega),rfl⟩
theorem aEh (n:Nat) (w:World) (hn:n<=1000000):Calls Tryz.prog 82 #[(n:Int)] w fun e w'=>(∃z:Int,e=.returned (.int .i64 z)/\9216<=z)/\w=w':=by
 go_enter Tryz.func82,Tryz.ntmps82;go_wp2_with fail;refine (aCy n w hn).mono ?_;rintro e w1 ⟨rfl,rfl⟩;go_wp2_with fail;go_ret;exact ⟨⟨_,rfl,by omega⟩,rfl⟩
end Go.Proofs.YthldmddkfbijhaaGreatDoor
