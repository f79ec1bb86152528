/- Parts of the walk, joined from several texts. Conditions: what each lemma says. -/
import Derived.Test.YtnhmjomhloainaaGreatDoorPq10
import Derived.Shelf.SlSortCmp.Kit1
import Derived.Test.YtnhmjomhloainaaGreatDoorShl
import Derived.Deep.LoopGhost
import Derived.StillTailTactics
import Derived.BigQuiet
import Derived.Laws.EntriesVeiled
set_option linter.all false
set_option maxRecDepth 100000
set_option maxHeartbeats 4000000
namespace Go.Proofs.YtnhmjomhloainaaGreatDoor
open Go.RowKit Go Go.Sort
def sufLt (l:List Nat) (p q:Nat):Prop:=∃w,ltW (aN l) w p q
theorem zZ {a:Nat->Int} {w w' i j:Nat} (h:ltW a w i j) (hw:w<=w'):ltW a w' i j:=by
 obtain ⟨k,h1,h2⟩:=h;exact ⟨k,by omega,h2⟩
theorem sufLt.asymm {l:List Nat} {p q:Nat} (h:sufLt l p q) (k:sufLt l q p):False:=by
 obtain ⟨w,h⟩:=h;obtain ⟨w',k⟩:=k;exact (zZ h (Nat.le_max_left w w')).asymm (zZ k (Nat.le_max_right w w'))
theorem sufLt.trans {l:List Nat} {p q r:Nat} (h:sufLt l p q) (k:sufLt l q r):sufLt l p r:=by
 obtain ⟨w,h⟩:=h;obtain ⟨w',k⟩:=k;exact ⟨_,(zZ h (Nat.le_max_left w w')).trans (zZ k (Nat.le_max_right w w'))⟩
theorem sufLt.tri {l:List Nat} {p q:Nat} (hp:p < l.length) (hq:q < l.length) (hpq:p≠q):sufLt l p q∨sufLt l q p:=by
 rcases nI (a:=aN l) l.length p q with h | h | h;exact .inl ⟨_,h⟩;exact absurd h (aDO nL hp hq hpq);exact .inr ⟨_,h⟩
structure IsSuf (l rs:List Nat):Prop where
 perm:rs.Perm (List.range l.length)
 sorted:rs.Pairwise (sufLt l)
theorem IsSuf.len {l rs:List Nat} (h:IsSuf l rs):rs.length=l.length:=by simpa using h.perm.length_eq
theorem IsSuf.lt {l rs:List Nat} (h:IsSuf l rs) {p:Nat} (hp:p∈rs):p < l.length:=by simpa using h.perm.mem_iff.1 hp
theorem IsSuf.mem {l rs:List Nat} (h:IsSuf l rs) {p:Nat} (hp:p < l.length):p∈rs:=h.perm.mem_iff.2 (by simpa using hp)
theorem IsSuf.nodup {l rs:List Nat} (h:IsSuf l rs):rs.Nodup:=h.perm.nodup_iff.2 List.nodup_range
theorem IsSuf.unique {l rs rs':List Nat} (h:IsSuf l rs) (h':IsSuf l rs'):rs=rs':=by
 refine List.Perm.eq_of_pairwise (le:=sufLt l) ?_ h.sorted h'.sorted (h.perm.trans h'.perm.symm);intro a b _ _ h1 h2;exact (h1.asymm h2).elim
def eR (m:Nat) (x:Fin (m+1)):Value:=.int .i64 ((x.val:Nat):Int)
theorem kV (m:Nat) (x:Fin (m+1)):(eR m x).oneCell'=true:=rfl
section
variable {α : Type} [Inhabited α] {enc : α -> Value} {w : World} {blk : Nat} {t : TypeId} {d d' : Array α}
theorem aBy (d:Array α) (i:Nat) (h:i < d.size):d[i]! =d[i]:=getElem!_pos d i h
theorem zV (hs:d'.size=d.size):putCells enc 0 d' (d.map enc)=d'.map enc:=by
 apply Array.ext
 · simp [putCells,hs]
 · intro i h1 h2;have hi:i < d'.size:=(by simpa using h2);simp [putCells,hi,aBy]
theorem aHg (h:Bk w blk t (d.map enc)) (hs:d'.size=d.size) (n:Nat) (os:Array Obj):Bk (sortWorld enc w blk 0 n d' os) blk t (d'.map enc):=by
 have hlt:=h.lt;unfold Bk at h⊢;have e:(putRow enc (Sort.ahead w n) blk 0 d').heap[blk]?=some (.cells (d'.map enc) t (0,0)):=by show (w.heap.modify blk _)[blk]?=_;rw [Array.getElem?_modify,zBx rfl,h];simp only [Option.map_some,onCells];rw [zV hs]
 unfold sortWorld;rw [heap_grow_old _ _ (by show blk < (w.heap.modify blk _).size;simpa using hlt)];exact e
theorem iS (hb:blk < w.heap.size) (off n:Nat) (d':Array α) (os:Array Obj):Keep (fun b=>b=blk) w (sortWorld enc w blk off n d' os):=by
 refine ⟨rfl,rfl,rfl,?_,fun k hk hn=>?_⟩
 · show w.heap.size<=((w.heap.modify blk _)++os).size;simp
 · unfold sortWorld;rw [heap_grow_old _ _ (by show k < (w.heap.modify blk _).size;simpa using hk)];show (w.heap.modify blk _)[k]?=_;rw [Array.getElem?_modify,zBw (fun e=>hn e.symm)]
theorem aGS (h:Bk w blk t (d.map enc)):Holds enc w blk 0 d:=by
 intro j hj;rw [zBi];refine ⟨?_,h.frozen j⟩;rw [h.cell];simp [hj,aBy]
end
theorem uN {α:Type} [Inhabited α] {d d':Array α} (h:PermIn 0 d.size d d'):d'.toList.Perm d.toList:=by
 have h2:=h.2.2;have e1:d'.extract 0 d.size=d':=by rw [<-h.1];exact Array.extract_size
 have e2:d.extract 0 d.size=d:=Array.extract_size;rwa [e1,e2] at h2
def dU {m:Nat} (d:Array (Fin (m+1))) (i:Nat):Nat:=(d[i]!).val
structure RowsOk (m:Nat) (d:Array (Fin (m+1))):Prop where
 size:d.size=m+1
 perm:d.toList.Perm (List.finRange (m+1))
theorem kA {m:Nat} {d:Array (Fin (m+1))} {i:Nat} (hi:i < d.size):(d.toList.map (·.val))[i]?=some (dU d i):=by
 rw [zAf,Array.getElem?_toList,zAq hi];simp [dU,aBy d i hi]
section
variable {m : Nat} {d : Array (Fin (m + 1))}
theorem RowsOk.lt (h:RowsOk m d) (i:Nat):dU d i < m+1:=(d[i]!).isLt
theorem RowsOk.vals (h:RowsOk m d):(d.toList.map (·.val)).Perm (List.range (m+1)):=by
 have h1:=h.perm.map (·.val);have e:(List.finRange (m+1)).map (·.val)=List.range (m+1):=by
  apply List.ext_getElem
  · simp
  · intro i h1 h2;simp
 rwa [e] at h1
theorem RowsOk.nodup (h:RowsOk m d):(d.toList.map (·.val)).Nodup:=h.vals.nodup_iff.2 List.nodup_range
theorem RowsOk.inj (h:RowsOk m d) {i j:Nat} (hi:i < m+1) (hj:j < m+1) (e:dU d i=dU d j):i=j:=by
 refine (List.getElem?_inj (l:=d.toList.map (·.val)) (by simpa [h.size] using hi) h.nodup).1 ?_;rw [kA (by rw [h.size];exact hi),kA (by rw [h.size];exact hj),e]
theorem RowsOk.sur (h:RowsOk m d) {p:Nat} (hp:p < m+1):∃i,i < m+1/\dU d i=p:=by
 have h1:p∈d.toList.map (·.val):=h.vals.mem_iff.2 (by simpa using hp);obtain ⟨i,hi,he⟩:=List.getElem_of_mem h1;have hl:i < m+1:=by simpa [h.size] using hi
 refine ⟨i,hl,?_⟩;have h2:=kA (d:=d) (i:=i) (by rw [h.size];exact hl);rw [zAa hi,he] at h2;injection h2 with h2;exact h2.symm
theorem RowsOk.cell (h:RowsOk m d) {i:Nat} (hi:i < m+1):(d.map (eR m))[i]?=some (.int .i64 ((dU d i:Nat):Int)):=by
 have:i < d.size:=by rw [h.size];exact hi
 simp [eR,dU,this,aBy]
theorem RowsOk.of_perm {d':Array (Fin (m+1))} (h:RowsOk m d) (hp:PermIn 0 d.size d d'):RowsOk m d':=
 ⟨hp.1.trans h.size,(uN hp).trans h.perm⟩
theorem RowsOk.suf (h:RowsOk m d) {l:List Nat} (hl:l.length=m+1) {w:Nat} (hs:∀i j,i < j->j < m+1->ltW (aN l) w (dU d i) (dU d j)):IsSuf l (d.toList.map (·.val)):=by
 refine ⟨by rw [hl];exact h.vals,?_⟩;rw [zAr];intro i j hi hj hij;have hi':i < m+1:=by simpa [h.size] using hi
 have hj':j < m+1:=by simpa [h.size] using hj
 have e1:=kA (d:=d) (i:=i) (by rw [h.size];exact hi');have e2:=kA (d:=d) (i:=j) (by rw [h.size];exact hj');rw [zAa hi] at e1;rw [zAa hj] at e2;injection e1 with e1;injection e2 with e2;rw [e1,e2];exact ⟨w,hs i j hij hj'⟩
end
def uJ (m:Nat):Array (Fin (m+1)):=(List.finRange (m+1)).toArray
theorem aFP (m:Nat):RowsOk m (uJ m):=⟨by simp [uJ],by simp [uJ]⟩
theorem aFZ {n:Nat} {cs:Array Value} {f:Nat->Nat} {v:Nat->Nat} (hsz:n<=cs.size) (hf:∀j,j < n->f j < n) (hc:∀j,j < n->cs[f j]?=some (.int .i64 ((v j:Nat):Int))) (hsur:∀p,p < n->∃i,i < n/\f i=p):
 ∃R:List Nat,R.length=n/\(∀j,j < n->R[f j]?=some (v j))/\(∀(j:Nat) u,(R.map sv)[j]?=some u->cs[j]?=some u)/\∀r∈R,∃j,j < n/\r=v j:=by
 let g:Nat->Nat:=fun p=>match cs[p]? with
  | some (.int _ z)=>z.toNat
  | _=>0
 have hg:∀j,j < n->g (f j)=v j:=by intro j hj;show (match cs[f j]? with | some (.int _ z)=>z.toNat | _=>0)=v j;rw [hc j hj];simp
 refine ⟨(List.range n).map g,by simp,fun j hj=>?_,fun j u hu=>?_,fun r hr=>?_⟩
 · simp [hf j hj,hg j hj]
 have hj:j < n:=(by have:=(zAc.1 hu).1;simpa using this);obtain ⟨i,hi,rfl⟩:=hsur j hj;simp [hf i hi,hg i hi] at hu;rw [hc i hi,<-hu];rfl;obtain ⟨p,hp,rfl⟩:=zAy.1 hr;obtain ⟨i,hi,rfl⟩:=hsur p (by simpa using hp);exact ⟨i,hi,hg i hi⟩
def cfF (m w:Nat) (R:List Nat) (x y:Fin (m+1)):Int:=jI (aN R) w x.val y.val
theorem aIf {l R:List Nat} {w:Nat} (m:Nat) (h:RankOk (aN l) (aN R) w):SWO (ltOf (cfF m w R)) where
 irrefl x:=by unfold ltOf cfF;rw [decide_eq_false_iff_not,tM h];exact fun h=>h.irrefl
 trans x y z h1 h2:=by
  unfold ltOf cfF at*
  rw [decide_eq_true_iff,tM h] at*
  exact h1.trans h2
 ntrans x y z h1 h2:=by
  unfold ltOf cfF at*
  rw [decide_eq_false_iff_not,tM h] at*
  intro h3;rcases nI (a:=aN l) (w+w) x.val y.val with h4 | h4 | h4;exact h1 h4;exact h2 (ltW.eq_left h4.symm h3);exact h2 (h4.trans h3)
theorem aFF {l R:List Nat} {w m:Nat} {d:Array (Fin (m+1))} (h:RankOk (aN l) (aN R) w) (hz:d.size=m+1) (hs:SortedIn (ltOf (cfF m w R)) 0 (m+1) d) (i:Nat) (hi:i+1 < m+1):¬ltW (aN l) (w+w) (dU d (i+1)) (dU d i):=by
 have h1:=hs i (i+1) (zAp _) oM hi;unfold ltOf cfF at h1;rw [decide_eq_false_iff_not,tM h] at h1;exact h1
end Go.Proofs.YtnhmjomhloainaaGreatDoor
namespace Go.Proofs.YtnhmjomhloainaaGreatDoor
open Go.RowKit
theorem ix9 (S:Nat->Value) (lv:Nat) (h:lv < 9) (w:World):(Instr.index 168 (.agg #[S 0,S 1,S 2,S 3,S 4,S 5,S 6,S 7,S 8]) (.int .i64 (lv:Int))).run Tryz.prog w=.ok (S lv) w:=by
 rcases lv with _ | _ | _ | _ | _ | _ | _ | _ | _ | lv
 all_goals first |(exfalso;omega)| kernel_rfl
theorem gF (B gv:Nat) (L:List Nat) (k s:Nat) (w:World) (h:WaveAt w B gv L) (hs:s < 257) (hk:k<=L.length) (hL:∀x∈L,x < 257) (hn:L.length<=1000):
 Calls Tryz.prog 190 #[.pointer (some ⟨gv,0,none⟩),.int .i64 (k:Int),.int .i64 (s:Int)] w fun e w'=>e=.returned (.int .i64 (((L.take k).count s:Nat):Int))/\VB B w w':=by
 have h90:=kJ L k s hk hL hs;have h99:=zC L k s;obtain ⟨hBg,S,v,hb,hrows⟩:=h;have hset:=hb.set 10 (.int .i64 0);rw [cI] at hset;have hv1:=VB.set_wave hb hBg 0;obtain ⟨n,hnn⟩:=eqx L.length;rw [hnn] at hb hset hk hn;have m1:max (k:Int) 0=(k:Int):=oM;have m2:min (k:Int) (n:Int)=(k:Int):=oM;have f10:=hb.frozen 10;have x10:w.cell? ⟨gv,10,none⟩=some (.int .i64 v):=(hb.cell 10).trans (bH S n v).2.2.2.2.2.2.2.2.2.2;have hlt:=hb.lt;obtain ⟨W,hW⟩:=eqx (w.setCell ⟨gv,10,none⟩ (.int .i64 0));rw [hW] at hset hv1;obtain ⟨Hset,Hv1,Hrows,H0,H9,HL,HN,HW⟩:=hqq8 hset hv1 hrows h90 h99 hL hnn hW;clear hb hrows hset hv1 h90 h99 hL hnn hW;go_enter Tryz.func190,Tryz.ntmps190;go_wp2_with fail;rw [HW.out];refine (eT s _ hs).mono ?_;rintro e w1 ⟨rfl,hb1⟩;have hbk:=Hset.out.below hb1 Hset.out.lt;have hv2:=Hv1.out.below hb1;obtain ⟨d0,d1,d2,d3,d4,d5,d6,d7,d8,d9,d10⟩:=bH S (n:Int) 0;have c0:w1.cell? ⟨gv,0,none⟩=some (S 0):=(hbk.cell 0).trans d0;have c1:w1.cell? ⟨gv,1,none⟩=some (S 1):=(hbk.cell 1).trans d1;have c2:w1.cell? ⟨gv,2,none⟩=some (S 2):=(hbk.cell 2).trans d2;have c3:w1.cell? ⟨gv,3,none⟩=some (S 3):=(hbk.cell 3).trans d3;have c4:w1.cell? ⟨gv,4,none⟩=some (S 4):=(hbk.cell 4).trans d4;have c5:w1.cell? ⟨gv,5,none⟩=some (S 5):=(hbk.cell 5).trans d5;have c6:w1.cell? ⟨gv,6,none⟩=some (S 6):=(hbk.cell 6).trans d6;have c7:w1.cell? ⟨gv,7,none⟩=some (S 7):=(hbk.cell 7).trans d7;have c8:w1.cell? ⟨gv,8,none⟩=some (S 8):=(hbk.cell 8).trans d8;have c9:w1.cell? ⟨gv,9,none⟩=some (.int .i64 (n:Int)):=(hbk.cell 9).trans d9;obtain ⟨Hbk,Hv2⟩:=hqq2 hbk hv2;clear d0 d1 d2 d3 d4 d5 d6 d7 d8 d9 d10 hbk hv2 hb1 Hset Hv1 x10 f10;go_wp2_with fail;go_loopw [1,28] (fun x i wr=>∃lv:Nat,lv<=9/\i=.int .i64 lv/\x=.int .i64 ((fH L k s lv:Nat):Int)/\VB B w1 wr) (fun _ i _=>9 -(intOf i).toNat)
 case atStart=>exact ⟨0,by omega,rfl,by rw [H0.out],VisK.refl _ _⟩
 case round=>
  obtain ⟨lv,hlv,rfl,rfl,hv⟩:=hrel;by_cases hl9:lv < 9
  · have hix:=ix9 S lv hl9;obtain ⟨G,hown,htr⟩:=Hrows.out lv hl9;obtain ⟨m,hm⟩:=eqx (2 ^ lv);obtain ⟨p,hp⟩:=eqx (bB s lv);have hpm:p < m:=(by rw [<-hm,<-hp];exact kT s lv hs oM);rw [hm] at hown htr;obtain ⟨g,cap,hSl,hnc,hgl⟩:=World.ownsRow.form hown oM;rw [hSl] at hix hown;obtain ⟨x,hx⟩:=eqx (fH L k s lv);obtain ⟨y,hy⟩:=eqx (fH L k s (lv+1));obtain ⟨b,hbb⟩:=eqx (fS s lv);have hxy:=kK L k s lv hl9;have hxl:=aD5 L k s lv;rw [hp,hx,hbb,hy] at hxy;rw [hp,hx] at hxl;rw [hx];have hpI:(p:Int) < (m:Int):=oM;obtain ⟨Hxy,Hxl,Hown,Htr,Hp,Hb,Hy,Hv⟩:=hqq8 hxy hxl hown (htr p hpm) hp hbb hy hv;clear hown htr hSl hm hp hx hy hbb hxy hxl hv;go_wp2_with fail;refine wp_region_any kR ?_;refine aX [32,33,34,35,36,37,38,39,40,41,42,43,1] (VB B) (Vs [is (.pointer (some ⟨gv,0,none⟩)),is (.slice (some ⟨g,0,none⟩) m cap),is (.int .i64 (s:Int)),is (.int .i64 (lv:Int)),is (.int .i64 (p:Int)),is (.pointer (some ⟨g,p*3,none⟩)),is (.agg #[.pointer (some ⟨G p,0,none⟩),.int .i64 (lv:Int),.int .i64 (p:Int)]),is (.int .i64 (x:Int)),is (.int .i64 (s:Int)),is (.int .i64 (lv:Int)),is (.bool b),is (.int .i64 (y:Int)),is (.int .i64 (y:Int))]) _ _ rfl kR vR (fun _ _=>VisK.trans) (cY (by repeat' (first | exact cA _ _ | exact bS _ |(refine zAe.2 ⟨?_,?_⟩)|(intro p hp;cases hp)))) ?_ ?_
    · refine aT ?_;refine pH 0 (.pointer (some ⟨gv,0,none⟩)) ?_;refine pH 8 (.slice (some ⟨g,0,none⟩) m cap) ?_;refine pH 2 (.int .i64 (s:Int)) ?_;refine pH 7 (.int .i64 (lv:Int)) ?_;refine sC (fun _ w5 _ _ _ _ hval _ _ _ hK=>?_) ?_
      · have e34:_=_:=hval 2 34 kR rfl;have e35:_=_:=hval 3 35 kR rfl;go_simp;refine (jU s lv w5 hs oM).mono ?_;rintro e w8 ⟨rfl,hb8⟩;rw [Hp.out];exact hK _ _ (VisK.of_below hb8) rfl
      refine pW 1 33 4 36 ?_;refine sC (fun _ w5 hS _ _ _ hval _ _ _ hK=>?_) ?_
      · have e37:_=_:=hval 5 37 kR rfl;replace hS:(VB B) wr w5:=bD hS;have hrow5:=(Hv2.out.trans (Hv.out.trans hS)).1.own Hown.out dC dC;obtain ⟨q0,q1,q2⟩:=fQ G lv m p hpm;have a0:w5.cell? ⟨g,p*3,none⟩=_:=(World.ownsRow.cellAt hrow5 (p*3) oM).trans q0;have a1:w5.cell? ⟨g,p*3+1,none⟩=_:=(World.ownsRow.cellAt hrow5 (p*3+1) oM).trans q1;have a2:w5.cell? ⟨g,p*3+2,none⟩=_:=(World.ownsRow.cellAt hrow5 (p*3+2) oM).trans q2;go_simp;exact hK _ _ vR rfl
      refine pH 1 (.int .i64 (x:Int)) ?_;refine pH 2 (.int .i64 (s:Int)) ?_;refine pH 7 (.int .i64 (lv:Int)) ?_;refine sC (fun _ w5 _ _ _ _ hval _ _ _ hK=>?_) ?_
      · have e40:_=_:=hval 8 40 kR rfl;have e41:_=_:=hval 9 41 kR rfl;go_simp;refine (lF s lv w5 hs hl9).mono ?_;rintro e w8 ⟨rfl,hb8⟩;rw [Hb.out];exact hK _ _ (VisK.of_below hb8) rfl
      refine sC (fun _ w5 hS _ _ _ hval _ _ _ hK=>?_) ?_
      · have e32:_=_:=hval 0 32 kR rfl;have e38:_=_:=hval 6 38 kR rfl;have e39:_=_:=hval 7 39 kR rfl;have e42:_=_:=hval 10 42 kR rfl;replace hS:(VB B) wr w5:=bD hS;go_simp;obtain ⟨v5,hw5⟩:=(Hv.out.trans hS).1.waveC Hbk.out;have ht5:=Htr.out.2.vis (Hv2.out.trans (Hv.out.trans hS)).1;refine (lE gv (G p) S n v5 lv p (aK L lv p) x b w5 hw5 ht5 Hxl.out).mono ?_;rintro e w8 ⟨rfl,hv8⟩;rw [Hxy.out];exact hK _ _ (hv8.mono fun b hb=>by rcases hb with rfl | rfl;exact hBg;exact Htr.out.1) rfl
      refine pV 11 43 ?_;exact aG
    · intro ev w6 hS hval;replace hS:(VB B) wr w6:=bD hS;have e1:ev (.tmp 1)=.int .i64 (y:Int):=hval 12 1 rfl;simp only [aO,zq1,zq2,Act.put,zq3,zq4,zq5];rw [e1];clear hval;have hv6:=Hv.out.trans hS;go_wp2_with fail;go_roundw
      case rel=>exact ⟨lv+1,by omega,by go_num,by rw [Hy.out],hv6⟩
      case measure=>simp [intOf];omega
  · have h9:lv=9:=oM;subst h9;rw [H9.out];go_wp2_with fail;go_ret;exact ⟨rfl,Hv2.out.trans hv⟩
end Go.Proofs.YtnhmjomhloainaaGreatDoor
namespace Go.Proofs.YtnhmjomhloainaaGreatDoor
open Go.RowKit Go
section
variable {P : Program} {ops : Array Oper} {Q : Exit -> Act -> World -> Prop} {md : Region.Mode}
theorem rW (n:Nat) (ds:List Nat) (C:World->Prop) (S:Nat->World->World->Prop) (U:Nat->World->Prop) (V:Nat->Value->World->Prop) (a0:Act)
 (W0:World) (hds:(ops.toList.take n).filterMap (·.dst)=ds) (hn:n<=ops.size) (hlaid:iA md ops a0.tmps.size=true) (htail:((List.range ops.size).all fun k=>decide (k < n)||(List.range n).all fun i=>upB md ops ops.size k i)=true) (hC0:C W0) (hU0:∀i,U i W0) (hC:∀j w w',j < n->C w->S j w w'->C w')
 (hU:∀i j w w',j < n->i≠j->upB md ops ops.size j i=false->U i w->C w->S j w w'->U i w')
 (hstab:∀i j v w w',j < n->i≠j->vO md ops i j=false->V i v w->C w->S j w w'->V i v w')
 (hstep:∀j o,j < n->ops[j]?=some o->dI P ops Q md C S U V a0 j o)
 (hend:∀(ev:Operand->Value) w f,C w->(∀i d,i < n->((ops[i]?).bind (·.dst))=some d->V i (ev (.tmp d)) w)->(∀i,i < n->∃v,V i v w)->wpAny P md ops Q (ops.size - n+f) (cF n ops.size) (aO ev ds a0) w):
 wpAny P md ops Q ops.size (Array.replicate ops.size false) a0 W0:=by
 refine tX n C S U V a0 W0 hn hlaid htail hC0 hU0 hC hU hstab hstep fun a w f hS hsz hdf hold hval=>?_;have h1:=hend a.eval w f hS (fun i d hi hd=>by
  cases ho:ops[i]? with
  | none=>rw [ho] at hd;cases hd
  | some o=>
    rw [ho] at hd;obtain ⟨v,h1,h2⟩:=hval i o hi ho;have:=h1 d hd;change V i (a.tmps.getD d undef) w;rw [this];exact h2) (fun i hi=>by
  obtain ⟨v,_,h2⟩:=hval i _ hi (zAq (zAl hi hn));exact ⟨v,h2⟩)
 rw [<-mK a a0 ds hsz hdf fun t ht=>hold t fun k p hk hp hd=>ht ?_] at h1;exact h1;rw [<-hds];refine List.mem_filterMap.2 ⟨p,?_,hd⟩;have hk2:(ops.toList.take n)[k]?=some p:=(by rw [zBs,zBx hk,Array.getElem?_toList];exact hp);exact zAd hk2
end
def VFB (B:Nat) (F:Nat->Prop) (w w':World):Prop:=VisF F w w'/\Keep (fun b=>F b∨B<=b) w w'
theorem fD {B:Nat} {F:Nat->Prop} {w w':World} (h:VFB B F w.drew w'):VFB B F w w':=⟨⟨h.1.os,h.1.tape,h.1.output,h.1.size,h.1.block⟩,⟨h.2.os,h.2.tape,h.2.output,h.2.size,h.2.block⟩⟩
section
variable {B : Nat} {F : Nat -> Prop} {w w1 w' : World}
theorem VFB.of_vb (h:VB B w w'):VFB B F w w':=⟨VisF.of_vis h.1,h.2.mono fun _ _ f=>.inr f⟩
theorem VFB.trans (h:VFB B F w w1) (k:VFB B F w1 w'):VFB B F w w':=⟨h.1.trans k.1,h.2.trans k.2⟩
theorem VFB.put (h:VFB B F w w1) {p:Addr} (hp:F p.block∨w.heap.size<=p.block) (u:Value):VFB B F w (w1.setCell p u):=⟨VisF.put h.1 hp u,h.2.setCell (hp.elim (fun f=>.inl (.inl f)) .inr) u⟩
theorem VFB.wider {G:Nat->Prop} (h:VFB B F w w') (hf:∀b,F b->G b):VFB B G w w':=⟨⟨h.1.os,h.1.tape,h.1.output,h.1.size,fun b hb hn=>h.1.block b hb (fun f=>hn (hf b f))⟩,h.2.mono fun b _ f=>f.elim (fun f=>.inl (hf b f)) .inr⟩
theorem VFB.to_vb (h:VFB B F w w') (hf:∀b,b < w.heap.size->¬F b):VB B w w':=⟨h.1.to_vis hf,h.2.mono fun b hb f=>f.elim (fun f=>absurd f (hf b hb)) id⟩
end
def aBT (B:Nat) (F:Nat->Prop) (J j:Nat) (w w':World):Prop:=(j=J->VFB B F w w')/\(j≠J->VB B w w')
theorem yL {B:Nat} {F:Nat->Prop} {J j:Nat} {w w':World} (h:aBT B F J j w w'):VFB B F w w':=by
 by_cases hj:j=J;exact h.1 hj;exact VFB.of_vb (h.2 hj)
theorem aH {B:Nat} {F:Nat->Prop} {J j:Nat} {w w':World} (h:VB B w w'):aBT B F J j w w':=⟨fun _=>VFB.of_vb h,fun _=>h⟩
theorem lT {B:Nat} {F:Nat->Prop} {J:Nat} {w w':World} (h:VFB B F w w'):aBT B F J J w w':=⟨fun _=>h,fun e=>absurd rfl e⟩
theorem cK {P:Program} {ops:Array Oper} {Q:Exit->Act->World->Prop} {md:Region.Mode} (B n:Nat) (ds:List Nat) (F:Nat->Prop) (J:Nat) (rd:List Nat) (pre:World->Prop) (pJ:Value->World->Prop) (l:List (Value->World->Prop)) (a0:Act) (W0:World)
 (hds:(ops.toList.take n).filterMap (·.dst)=ds) (hn:n<=ops.size) (hlaid:iA md ops a0.tmps.size=true) (htail:((List.range ops.size).all fun k=>decide (k < n)||(List.range n).all fun i=>upB md ops ops.size k i)=true)
 (hrd:(rd.all fun i=>i==J||upB md ops ops.size J i)=true)
 (hp0:pre W0) (hp:∀w w',pre w->VFB B F W0 w->VB B w w'->pre w') (hJ:aE2 (VB B) pJ) (hst:∀p∈l,aE2 (VFB B F) p)
 (hstep:∀j o,j < n->ops[j]?=some o->dI P ops Q md (VFB B F W0) (aBT B F J) (fun i w=>rd.contains i=true->pre w) (VsJ J pJ l) a0 j o)
 (hend:∀(ev:Operand->Value) w f,VFB B F W0 w->(∀i d,i < n->((ops[i]?).bind (·.dst))=some d->VsJ J pJ l i (ev (.tmp d)) w)->(∀i,i < n->∃v,VsJ J pJ l i v w)->wpAny P md ops Q (ops.size - n+f) (cF n ops.size) (aO ev ds a0) w):
 wpAny P md ops Q ops.size (Array.replicate ops.size false) a0 W0:=by
 refine rW n ds (VFB B F W0) (aBT B F J) (fun i w=>rd.contains i=true->pre w) (VsJ J pJ l) a0 W0 hds hn hlaid htail (VFB.of_vb vR) (fun _ _=>hp0) (fun j w w' _ h k=>h.trans (yL k)) (fun i j w w' _ hij hup hi hC k hir=>?_) (fun i j v w w' _ hij _ hv _ k=>?_) hstep hend;by_cases hj:j=J;exfalso;subst hj;have h2:=zBf.1 hrd i (by simpa using hir);simp only [hup,Bool.or_false,zCp] at h2;exact hij h2;exact hp w w' (hi hir) hC (k.2 hj);unfold VsJ at hv⊢;by_cases hi:i=J;rw [zBx hi] at hv⊢;exact hJ v w w' hv (k.2 fun e=>hij (hi.trans e.symm));rw [zBw hi] at hv⊢;exact cY hst i v w w' hv (yL k)
end Go.Proofs.YtnhmjomhloainaaGreatDoor
namespace Go.Proofs.YtnhmjomhloainaaGreatDoor
open Go.RowKit Go
open Go.Sort (SortedIn PermIn SWO Holds)
theorem lW (n:Nat) (hn:n<=1000000) (w:World):(Instr.makeSlice 22 (.int .i64 (n:Int)) (.int .i64 (n:Int))).run Tryz.prog w=.ok (.slice (some ⟨w.heap.size,0,none⟩) n n) (w.alloc (.cells (Array.replicate n (.int .i64 0)) 3)):=by
 obtain ⟨i0,hi0,hz0,hz1,hz2⟩:=info_parts fK;have:=run_make (P:=Tryz.prog) w 22 3 i0 (.int .i64 0) Tryz.underlying22 hi0 hz0 .i64 .i64 n n oM (Int.le_refl _) (by rw [hz2];omega) oM;rw [this,hz1];have e:madeCells #[.int .i64 0] n=Array.replicate n (.int .i64 0):=by apply Array.ext';rw [toList_madeCells_one];simp
 simp only [Value.cells,zBr,zBl];rw [e]
def iE (n k:Nat):Array Value:=((List.range n).map fun i=>Value.int .i64 (((if i < k then i else 0:Nat)):Int)).toArray
theorem vC (n k:Nat):(iE n k).size=n:=by simp [iE]
theorem aDa (n:Nat):iE n 0=Array.replicate n (.int .i64 0):=by
 apply Array.ext
 · simp [iE]
 · intro i h1 h2;simp [iE]
theorem aDb (n k:Nat) (h:k < n):(iE n k).setIfInBounds k (.int .i64 (k:Int))=iE n (k+1):=by
 apply Array.ext
 · simp [iE]
 · intro i h1 h2;rw [Array.getElem_setIfInBounds (by simpa [iE] using h2)];by_cases e:k=i
   · subst e;simp [iE]
   · rw [zBw e];simp only [iE,List.getElem_toArray,List.getElem_map,List.getElem_range];by_cases h3:i < k
     · rw [zBx h3,zBx oM]
     · rw [zBw h3,zBw oM]
theorem aES (m:Nat):iE (m+1) (m+1)=(uJ m).map (eR m):=by
 apply Array.ext
 · simp [iE,uJ]
 · intro i h1 h2;have hi:i < m+1:=(by simpa [iE] using h1);simp [iE,uJ,eR,hi]
theorem aDT {w:World} {g:Nat} {e:TypeId} {cs:Array Value} {n B:Nat} (h:Bk w g e cs) (hB:B<=g) (hz:cs.size=n) (hn:n<=maxLen):Made w B e 1 (some ⟨g,0,none⟩) n n cs.toList:=by
 have ho:w.ownsRow B e 1 (.slice (some ⟨g,0,none⟩) n n) n cs.toList:=⟨by simp [hz],.inr ⟨g,n,cs,rfl,hB,h,zAs _,hn,by omega,by rw [zAg (by simp [hz])]⟩⟩;exact ⟨ho,Rd.of_own ho,zAs _,hn⟩
theorem aHj {m:Nat} (d:Array (Fin (m+1))):(d.map (eR m)).toList=(d.toList.map (·.val)).map sv:=by
 simp [eR,sv]
theorem yT {cs:Array Value} {f c:Nat->Nat} {k v:Nat} (h:∀j,j < k->cs[f j]?=some (.int .i64 ((c j:Nat):Int))) (hk:f k < cs.size) (hi:∀j,j < k->f j≠f k) (hv:c k=v) (j:Nat) (hj:j < k+1):(cs.setIfInBounds (f k) (.int .i64 (v:Int)))[f j]?=some (.int .i64 ((c j:Nat):Int)):=by
 by_cases e:j=k
 · subst e;rw [zCd,zBx rfl,zBx hk,hv]
 rw [zCd,zBw (fun x=>hi j oM x.symm)];exact h j oM
structure RInv (B0:Nat) (w0:World) (m n:Nat) (l:List Nat) (gn gr gx:Nat) (wr:World) (gw g6 g7 c6 c7 wd:Nat) (d:Array (Fin (m+1))) (R:List Nat):Prop where
 wide:Bk wr gw 3 #[.int .i64 (wd:Int)]
 len:Bk wr gn 3 #[.int .i64 (n:Int)]
 box:Bk wr gr 22 #[.slice (some ⟨g6,0,none⟩) n c6]
 rank:∃cs:Array Value,Bk wr g6 3 cs/\n<=cs.size/\∀(j:Nat) u,(R.map sv)[j]?=some u->cs[j]?=some u
 next:∃cs:Array Value,Bk wr g7 3 cs/\n<=cs.size
 rows:Bk wr gx 3 (d.map (eR m))
 ok:RowsOk m d
 ap:gx≠gw/\gx≠gn/\gx≠g6/\gx≠g7/\g7≠gw/\g7≠gn/\g7≠g6/\g6≠gw/\g6≠gn
 lo:B0<=gx/\B0<=g6/\B0<=g7/\B0<=gr
 cap:n<=c6/\n<=c7
 rlen:R.length=n
 rle:∀r∈R,r<=1000
 rk:RankOk (aN l) (aN R) wd
 wd1:1<=wd
 wdn:wd<=n
 below:Below B0 w0 wr
structure SetT (B:Nat) (T:TypeId) (w w':World):Prop where
 below:Below B w w'
 other:∀b t cs,t≠T->Bk w b t cs->Bk w' b t cs
 one:∀b c,Bk w b T #[c]->∃c',Bk w' b T #[c']
theorem SetT.set {B:Nat} {T:TypeId} {w:World} {g:Nat} {c:Value} (h:Bk w g T #[c]) (hg:B<=g) (v:Value):SetT B T w (w.setCell ⟨g,0,none⟩ v):=by
 refine ⟨bR.setCell hg _,fun b t cs ht hb=>?_,fun b c' hb=>?_⟩;exact hb.far (fun e=>ht (by subst e;exact (aM hb h).1)) _;by_cases e:b=g;subst e;exact ⟨v,hb.set 0 v⟩;exact ⟨c',hb.far (p:=⟨g,0,none⟩) e _⟩
section
variable {B0 : Nat} {w0 : World} {m n : Nat} {l : List Nat} {gn gr gx : Nat} {wr w' : World} {gw g6 g7 c6 c7 wd : Nat} {d d' : Array (Fin (m + 1))} {R : List Nat}
theorem aBl {w:World} {g n:Nat} {R:List Nat} (hl:R.length=n) (h:∃cs:Array Value,Bk w g 3 cs/\n<=cs.size/\∀(j:Nat) u,(R.map sv)[j]?=some u->cs[j]?=some u):Rd w w.heap.size 1 (some ⟨g,0,none⟩) n (R.map sv):=by
 obtain ⟨cs,h1,h2,h3⟩:=h;refine ⟨by simp [hl],fun _=>⟨g,0,rfl,h1.lt,fun j u hu=>?_⟩⟩;rw [zBi,h1.cell];exact h3 j u hu
theorem RInv.ordk (h:RInv B0 w0 m n l gn gr gx wr gw g6 g7 c6 c7 wd d R) (k:Keep (fun b=>b=gx) wr w'):OrdAt w' gw gn gr wd n (some ⟨g6,0,none⟩) c6 R:=by
 obtain ⟨a1,a2,a3,a4,a5,a6,a7,a8,a9⟩:=h.ap;obtain ⟨cs,h1,h2,h3⟩:=h.rank;exact ⟨((k.bk h.wide a1.symm).cell 0).trans rfl,((k.bk h.len a2.symm).cell 0).trans rfl,((k.bk h.box (Bk.ne h.box h.rows dC)).cell 0).trans rfl,aBl h.rlen ⟨cs,k.bk h1 a3.symm,h2,h3⟩⟩
theorem RInv.keepx (h:RInv B0 w0 m n l gn gr gx wr gw g6 g7 c6 c7 wd d R) (k:Keep (fun b=>b=gx) wr w') (hx:Bk w' gx 3 (d'.map (eR m))) (ho:RowsOk m d'):RInv B0 w0 m n l gn gr gx w' gw g6 g7 c6 c7 wd d' R:=by
 obtain ⟨a1,a2,a3,a4,a5,a6,a7,a8,a9⟩:=h.ap;obtain ⟨cs,h1,h2,h3⟩:=h.rank;obtain ⟨cs7,h4,h5⟩:=h.next
 exact ⟨k.bk h.wide a1.symm,k.bk h.len a2.symm,k.bk h.box (Bk.ne h.box h.rows dC),⟨cs,k.bk h1 a3.symm,h2,h3⟩,⟨cs7,k.bk h4 a4.symm,h5⟩,hx,ho,h.ap,h.lo,h.cap,h.rlen,h.rle,h.rk,h.wd1,h.wdn,
  h.below.trans (k.to_below (by have:=h.lo.1;have:=h.rows.lt;omega) (fun b hb e=>by have:=h.lo.1;omega))⟩
theorem RInv.keep7 (h:RInv B0 w0 m n l gn gr gx wr gw g6 g7 c6 c7 wd d R) (k:Keep (fun b=>b=g7) wr w') (h7:∃cs:Array Value,Bk w' g7 3 cs/\n<=cs.size):RInv B0 w0 m n l gn gr gx w' gw g6 g7 c6 c7 wd d R:=by
 obtain ⟨a1,a2,a3,a4,a5,a6,a7,a8,a9⟩:=h.ap;obtain ⟨cs,h1,h2,h3⟩:=h.rank;obtain ⟨cs7,h4,h5⟩:=h.next
 exact ⟨k.bk h.wide a5.symm,k.bk h.len a6.symm,k.bk h.box (Bk.ne h.box h4 dC),⟨cs,k.bk h1 a7.symm,h2,h3⟩,h7,k.bk h.rows a4,h.ok,h.ap,h.lo,h.cap,h.rlen,h.rle,h.rk,h.wd1,h.wdn,
  h.below.trans (k.to_below (by have:=h.lo.1;have:=h.rows.lt;omega) (fun b hb e=>by have:=h.lo.2.2.1;omega))⟩
theorem RInv.grow (h:RInv B0 w0 m n l gn gr gx wr gw g6 g7 c6 c7 wd d R) (k:Below wr.heap.size wr w'):RInv B0 w0 m n l gn gr gx w' gw g6 g7 c6 c7 wd d R:=
 h.keep7 (Keep.of_below k) (by
  obtain ⟨cs7,h4,h5⟩:=h.next;exact ⟨cs7,h4.below k h4.lt,h5⟩)
end
theorem mM (A:Option Addr) (m c B:Nat) (t:List UInt8) (w:World) (hr:Rd w B 1 A m (t.map bv)) (hB:B<=w.heap.size) (hm:m<=200):
 Calls Tryz.prog 52 #[.slice A m c] w fun e w'=>∃rs A' c',IsSuf (aD t) rs/\e=.returned (.slice A' (m+1) c')/\Made w' w.heap.size 3 1 A' (m+1) c' (rs.map sv)/\Below w.heap.size w w':=by
 have htl:t.length=m:=by simpa using hr.1
 obtain ⟨Hr,Htl⟩:=hqq2 hr htl;clear hr htl;go_enter Tryz.func52,Tryz.ntmps52;go_wp2_with fail;obtain ⟨n,hn⟩:=eqx (m+1);have hsa:=wK w.heap.size 0 A m c w.heap.size t (w.alloc (.cells #[.slice A m c] 23)) (Bk.new _ _ _) ((Hr.out.mono hB).alloc nL _) (by simp) oM;rw [hn] at hsa;have hn2:n<=201:=oM;have hn1:1<=n:=oM;have HN:=lhd hn;clear hn;refine hsa.mono ?_;clear hsa;rintro e w1 ⟨A1,c1,rfl,hm1,hb1⟩;have hb1':=((Below.refl w.heap.size w).alloc nL _).trans (hb1.mono (by simp));obtain ⟨Hm1,Hb1⟩:=hqq2 hm1 hb1';clear hm1 hb1 hb1';go_wp2_with fail;obtain ⟨gn,hgn⟩:∃g,w1.heap.size=g:=⟨_,rfl⟩;have hbn:Bk (w1.alloc (.cells #[.int .i64 (n:Int)] 3)) gn 3 #[.int .i64 (n:Int)]:=hgn ▸ Bk.new _ _ _;have hm2:=Hm1.out.below (bR.alloc nL (.cells #[.int .i64 (n:Int)] 3));have hb2:=Hb1.out.alloc Hb1.out.size (.cells #[.int .i64 (n:Int)] 3);have hR2:=hm2.rd;have hge:w.heap.size<=gn:=hgn ▸ Hb1.out.size;rw [hgn];generalize w1.alloc (.cells #[.int .i64 (n:Int)] 3)=W0 at hbn hm2 hb2 hR2⊢;clear Hm1 Hb1 hgn;have hcn:=hbn.cell 0;have hzn:=hbn.lt;have Hcn:Hid (W0.cell? ⟨gn,0,none⟩=some (.int .i64 (n:Int))):=lhd hcn;obtain ⟨Hgn,HR1,HR2,HB2,HBN⟩:=hqq5 hzn hR2 hm2 hb2 hbn;clear hcn hzn hR2 hm2 hb2 hbn;refine wp_region_any kR ?_;refine tY [18,19,20,21,22,23,6,5,7] [6,19,21,23] 8 (SetT W0.heap.size 22) (Below W0.heap.size W0) [k0 (is (.int .i64 (n:Int))),k0 (fun v w2=>∃g,v=.slice (some ⟨g,0,none⟩) n n/\W0.heap.size<=g/\Bk w2 g 3 (Array.replicate n (.int .i64 0))),k0 (is (.slice A1 n c1)),k0 (fun v w2=>∃A c,v=.slice A n c/\Made w2 W0.heap.size 3 1 A n c ((aD t).map sv)),k0 (is (.int .i64 (n:Int))),k0 (fun v w2=>∃g,v=.slice (some ⟨g,0,none⟩) n n/\W0.heap.size<=g/\Bk w2 g 3 (Array.replicate n (.int .i64 0))),k0 (fun v w2=>∃g c,v=.pointer (some ⟨g,0,none⟩)/\W0.heap.size<=g/\Bk w2 g 22 #[c]),kEq 19,kLk 6 21 (fun u v w2=>∃g,u=.pointer (some ⟨g,0,none⟩)/\W0.heap.size<=g/\Bk w2 g 22 #[v]),kEq 23] _ _ rfl kR kR (bR.drew) (vN rfl) (fun w w' h k=>k.elim (fun k=>h.trans (k.mono h.size)) (fun k=>h.trans k.below)) (by repeat' (first | exact aDe _ | exact aDY _ | exact aHJ _ _ _ |(refine zAe.2 ⟨?_,?_⟩)|(intro p hp;cases hp))) (by repeat' (first | exact tH _ _ | exact aA3 _ | exact pC _ _ | exact iP (fun _ _ _ ⟨g,h1,h2,h3⟩ k=>⟨g,h1,h2,h3.below k h3.lt⟩)| exact iP (fun _ _ _ ⟨A,c,h1,h2⟩ k=>⟨A,c,h1,h2.below k⟩)| exact iP (fun _ _ _ ⟨g,c,h1,h2,h3⟩ k=>⟨g,c,h1,h2,h3.below k h3.lt⟩)| exact iP (fun _ _ _ _ ⟨g,h1,h2,h3⟩ k=>⟨g,h1,h2,h3.below k h3.lt⟩)| exact pB (fun _ _ _ ⟨g,h1,h2,h3⟩ k=>⟨g,h1,h2,h3.below k h3.lt⟩)| exact pB (fun _ _ _ ⟨A,c,h1,h2⟩ k=>⟨A,c,h1,h2.below k⟩)| exact pB (fun _ _ _ ⟨g,c,h1,h2,h3⟩ k=>⟨g,c,h1,h2,h3.below k h3.lt⟩)| exact pB (fun _ _ _ _ ⟨g,h1,h2,h3⟩ k=>⟨g,h1,h2,h3.below k h3.lt⟩)|(refine zAe.2 ⟨?_,?_⟩)|(intro p hp;cases hp))) (by simp only [List.eraseIdx_cons_zero,List.eraseIdx_cons_succ,List.eraseIdx_nil];repeat' (first | exact tH _ _ | exact aA3 _ | exact pC _ _ | exact iP (fun _ _ _ ⟨g,h1,h2,h3⟩ k=>⟨g,h1,h2,k.other _ _ _ dC h3⟩)| exact iP (fun _ _ _ ⟨A,c,h1,h2⟩ k=>⟨A,c,h1,nH h2 fun b cs hb=>k.other _ _ _ dC hb⟩)| exact iP (fun _ _ _ ⟨g,c,h1,h2,h3⟩ k=>let ⟨c',h4⟩:=k.one _ _ h3;⟨g,c',h1,h2,h4⟩)|(refine zAe.2 ⟨?_,?_⟩)|(intro p hp;cases hp))) ?_ ?_
 · refine aT ?_;refine aA (cR rfl rfl fun ev _ hCA _ _ _ hold _ _ _ _ hK=>?_) ?_
   · obtain ⟨hS,hAp⟩:=hCA;have e4:ev (.tmp 4)=.pointer (some ⟨gn,0,none⟩):=hold 4 kR;clear hold;have hcl:=(hS.cell (p:=⟨gn,0,none⟩) Hgn.out).trans Hcn.out;go_simp;exact hK _ _ (dF bR rfl rfl) rfl
   refine aA (cR rfl rfl fun _ _ hCA _ _ _ hold hval _ _ _ hK=>?_) ?_
   · obtain ⟨hS,hAp⟩:=hCA;have e18:_=_:=hval 0 18 kR rfl;clear hold;have kz:=lW n oM;go_simp;exact hK _ _ (iU (bR.alloc nL _) rfl (fun g hg=>by simp [blk?] at hg;subst hg;simp)) ⟨_,rfl,hS.size,Bk.new _ _ _⟩
   refine aA (cR rfl rfl fun ev _ hCA _ _ _ hold _ _ _ _ hK=>?_) ?_
   · obtain ⟨hS,hAp⟩:=hCA;have e3:ev (.tmp 3)=.slice A1 n c1:=hold 3 kR;clear hold;go_simp;exact hK _ _ (dF bR rfl rfl) rfl
   refine aA (cR rfl rfl fun _ _ hCA _ _ _ hold hval a _ _ hK=>?_) ?_
   · obtain ⟨hS,hAp⟩:=hCA;have e20:_=_:=hval 2 20 kR rfl;clear hold;go_simp;refine (yG A1 n c1 W0.heap.size (aD t) _ (HR1.out.below hS) hS.size oM).mono ?_;rintro e w7 ⟨A',c',rfl,hm7,hb7⟩;refine hK _ _ (iU hb7 rfl (fun g hg=>?_)) ⟨A',c',rfl,hm7.mono hS.size⟩;obtain ⟨_,_,_,_,hx⟩:=aR hm7.own;rcases A' with _ | a
     · simp [blk?] at hg
     obtain ⟨A9,c9,h9,_,h8⟩:=aR hm7.own;injection h9 with h9;have:=h8 a h9.symm;simp [blk?] at hg;subst hg;exact this
   refine aA (cR rfl rfl fun ev _ hCA _ _ _ hold _ _ _ _ hK=>?_) ?_
   · obtain ⟨hS,hAp⟩:=hCA;have e4:ev (.tmp 4)=.pointer (some ⟨gn,0,none⟩):=hold 4 kR;clear hold;have hcl:=(hS.cell (p:=⟨gn,0,none⟩) Hgn.out).trans Hcn.out;go_simp;exact hK _ _ (dF bR rfl rfl) rfl
   refine aA (cR rfl rfl fun _ _ hCA _ _ _ hold hval _ _ _ hK=>?_) ?_
   · obtain ⟨hS,hAp⟩:=hCA;have e22:_=_:=hval 4 22 kR rfl;clear hold;have kz:=lW n oM;go_simp;exact hK _ _ (iU (bR.alloc nL _) rfl (fun g hg=>by simp [blk?] at hg;subst hg;simp)) ⟨_,rfl,hS.size,Bk.new _ _ _⟩
   refine aA (cR rfl rfl fun _ _ hCA _ _ _ hold _ _ _ _ hK=>?_) ?_
   · obtain ⟨hS,hAp⟩:=hCA;clear hold;go_simp;exact hK _ _ (iU (bR.alloc nL _) rfl (fun g hg=>by simp [blk?] at hg;subst hg;simp)) ⟨_,_,rfl,hS.size,Bk.new _ _ _⟩
   refine aA (cR rfl rfl fun ev w5 hCA _ _ _ hold hval _ _ _ hK=>?_) ?_
   · obtain ⟨hS,hAp⟩:=hCA;have p19:(fun v w2=>∃g,v=.slice (some ⟨g,0,none⟩) n n/\W0.heap.size<=g/\Bk w2 g 3 (Array.replicate n (.int .i64 0))) (ev (.tmp 19)) w5:=hval 1 19 kR rfl;clear hold;clear p19;go_simp;exact hK _ _ (dF bR rfl rfl) (by first | exact e19.symm | rfl)
   refine aA (cR rfl rfl fun ev w5 hCA _ _ _ hold hval _ _ _ hK=>?_) ?_
   · obtain ⟨hS,hAp⟩:=hCA;have p6:(fun v w2=>∃g c,v=.pointer (some ⟨g,0,none⟩)/\W0.heap.size<=g/\Bk w2 g 22 #[c]) (ev (.tmp 6)) w5:=hval 6 6 kR rfl;have p21:(fun v w2=>∃A c,v=.slice A n c/\Made w2 W0.heap.size 3 1 A n c ((aD t).map sv)) (ev (.tmp 21)) w5:=hval 3 21 kR rfl;clear hold;obtain ⟨g,c,e6,hg,hb⟩:=p6;obtain ⟨A2,c2,e21,hm21⟩:=p21;have c6:=hb.cell 0;have f6:=hb.frozen 0;have hg2:=hb.lt;go_simp;exact hK (.bool true) _ (aGm (SetT.set hb hg _) (by simp [World.setCell]) rfl) ⟨g,e6,hg,by rw [e21];exact hb.set 0 _⟩
   refine aA (cR rfl rfl fun ev w5 hCA _ _ _ hold hval _ _ _ hK=>?_) ?_
   · obtain ⟨hS,hAp⟩:=hCA;have p23:(fun v w2=>∃g,v=.slice (some ⟨g,0,none⟩) n n/\W0.heap.size<=g/\Bk w2 g 3 (Array.replicate n (.int .i64 0))) (ev (.tmp 23)) w5:=hval 5 23 kR rfl;clear hold;clear p23;go_simp;exact hK _ _ (dF bR rfl rfl) (by first | exact e23.symm | rfl)
   exact aG
 · intro ev w6 hS hAp hval hall;have e5:ev (.tmp 5)=ev (.tmp 19):=hval 7 5 rfl;have p6:(fun v w2=>∃g c,v=.pointer (some ⟨g,0,none⟩)/\W0.heap.size<=g/\Bk w2 g 22 #[c]) (ev (.tmp 6)) w6:=hval 6 6 rfl;have e7:ev (.tmp 7)=ev (.tmp 23):=hval 9 7 rfl;have p19:(fun v w2=>∃g,v=.slice (some ⟨g,0,none⟩) n n/\W0.heap.size<=g/\Bk w2 g 3 (Array.replicate n (.int .i64 0))) (ev (.tmp 19)) w6:=hval 1 19 rfl;have p21:(fun v w2=>∃A c,v=.slice A n c/\Made w2 W0.heap.size 3 1 A n c ((aD t).map sv)) (ev (.tmp 21)) w6:=hval 3 21 rfl;have p23:(fun v w2=>∃g,v=.slice (some ⟨g,0,none⟩) n n/\W0.heap.size<=g/\Bk w2 g 3 (Array.replicate n (.int .i64 0))) (ev (.tmp 23)) w6:=hval 5 23 rfl;obtain ⟨vJ,pJ0⟩:=hall 8 dC;have pJ:(fun u v w2=>∃g,u=.pointer (some ⟨g,0,none⟩)/\W0.heap.size<=g/\Bk w2 g 22 #[v]) (ev (.tmp 6)) (ev (.tmp 21)) w6:=pJ0;clear pJ0;simp only [aO,zq1,zq2,Act.put,zq3,zq4,zq5];clear hval hall;obtain ⟨gx,hx1,hx2,hx3⟩:=p19;obtain ⟨g7,h71,h72,h73⟩:=p23;obtain ⟨A6,c6,h61,h62⟩:=p21;obtain ⟨gr,hr1,hr2,hr3⟩:=pJ;rw [h61] at hr3;obtain ⟨g6,rfl,h6l,h6r⟩:∃g6,A6=some ⟨g6,0,none⟩/\W0.heap.size<=g6/\∃cs:Array Value,Bk w6 g6 3 cs/\n<=cs.size/\∀(j:Nat) u,((aD t).map sv)[j]?=some u->cs[j]?=some u:=by
    rcases h62.own.2 with ⟨h,_⟩|⟨g,cap,cur,h,h2,h3,h4,h5,h6,h7⟩;injection h with h8 h9;omega
    · injection h with h8 h9 h10;refine ⟨g,h8,h2,cur,h3,by omega,fun j u hu=>?_⟩;rw [<-h7,zBs,Array.getElem?_toList] at hu;split at hu;exact hu
      · cases hu
   have hd1:gx≠g7:=fun e=>hAp.2 19 (by simp) 23 (by simp) dC gx (by rw [hx1];rfl) (by rw [h71,e];rfl);have hd2:gx≠g6:=fun e=>hAp.2 19 (by simp) 21 (by simp) dC gx (by rw [hx1];rfl) (by rw [h61,e];rfl);have hd3:g7≠g6:=fun e=>hAp.2 23 (by simp) 21 (by simp) dC g7 (by rw [h71];rfl) (by rw [h61,e];rfl);have hgn1:=HBN.out.lt;have hbn6:=HBN.out.below hS hgn1;have hle6:=HB2.out.trans (hS.mono HB2.out.size);have hge6:=HB2.out.size;rw [<-aDa] at hx3;have hc6:n<=c6:=h62.cap;rw [e5,e7,hx1,h71,hr1];obtain ⟨Hx3,H73,H6r,Hr3,Hbn,Hle⟩:=hqq6 hx3 h73 h6r hr3 hbn6 hle6;have Hd:gx≠g7/\gx≠g6/\g7≠g6:=⟨hd1,hd2,hd3⟩;have HD:=lhd Hd;clear e5 e7 hx1 h71 hr1 hx3 h73 h6r hr3 hbn6 hle6 Hd hd1 hd2 hd3 hS hAp p6 h61 h62 HR1 HR2 HB2 HBN Hcn Hgn;go_wp2_with fail;go_loopw [26,8] (fun i _ wr=>∃k:Nat,k<=n/\i=.int .i64 k/\Bk wr gx 3 (iE n k)/\Keep (fun b=>b=gx) w6 wr) (fun i _ _=>n -(intOf i).toNat)
   case atStart=>exact ⟨0,by omega,rfl,Hx3.out,Keep.refl _ _⟩
   case round=>
    obtain ⟨k,hk,rfl,hbk,hkp⟩:=hrel;by_cases hlt:k < n
    · have c0:=hbk.cell k;have f0:=hbk.frozen k;rw [zAq (by rw [vC];exact hlt)] at c0;obtain ⟨Hbk,Hkp⟩:=hqq2 hbk hkp;clear hbk hkp;generalize (iE n k)[k]'(by rw [vC];exact hlt)=u0 at c0;go_wp2_with fail;go_roundw
      case rel=>exact ⟨k+1,by omega,by go_num,by rw [<-aDb _ _ hlt];exact Hbk.out.set k _,Hkp.out.setCell (.inl rfl) _⟩
      case measure=>simp [intOf];omega
    · obtain rfl:n=k:=oM;obtain ⟨Hbk,Hkp⟩:=hqq2 hbk hkp;clear hbk hkp;go_wp2_with fail;obtain ⟨gw,hgw⟩:∃g,wr.heap.size=g:=⟨_,rfl⟩;have hbw:Bk (wr.alloc (.cells #[.int .i64 (1:Int)] 3)) gw 3 #[.int .i64 (1:Int)]:=hgw ▸ Bk.new _ _ _
      have hinv:RInv w.heap.size w m n (aD t) gn gr gx (wr.alloc (.cells #[.int .i64 (1:Int)] 3)) gw g6 g7 c6 n 1 (uJ m) (aD t):=by
         obtain ⟨d1,d2,d3⟩:=HD.out;obtain ⟨cs,k1,k2,k3⟩:=H6r.out;have kx:=Hkp.out;have hz:=kx.size;have l1:=Hx3.out.lt;have l2:=Hbn.out.lt;have l3:=H73.out.lt;have l6:=k1.lt;have lr:=Hr3.out.lt;refine ⟨hbw,(kx.bk Hbn.out (fun e=>by have:=hx2;omega)).alloc _,(kx.bk Hr3.out (fun e=>by subst e;exact Bk.ne Hr3.out Hx3.out dC rfl)).alloc _,⟨cs,(kx.bk k1 (fun e=>d2 e.symm)).alloc _,k2,k3⟩,⟨_,(kx.bk H73.out (fun e=>d1 e.symm)).alloc _,by simp⟩,?_,aFP m,?_,?_,⟨hc6,zAs _⟩,?_,?_,aCL _,zAs _,hn1,?_⟩;have:=Hbk.out;rw [<-HN.out,aES] at this;exact this.alloc _
         · refine ⟨?_,?_,d2,d1,?_,?_,d3,?_,?_⟩<;> omega
         · refine ⟨?_,?_,?_,?_⟩<;> omega
         · rw [aJ,Htl.out,HN.out]
         intro r hr;have:=eK t r hr;omega;refine (Hle.out.trans ?_).alloc oM _;exact kx.to_below (by have:=Hle.out.size;omega) (fun b hb e=>by have:=hx2;omega)
      rw [hgw];generalize wr.alloc (.cells #[.int .i64 (1:Int)] 3)=W8 at hinv⊢;have Hinv:=lhd hinv;clear hinv hbw hgw Hbk Hkp HD H6r Hbn Hr3 H73 Hx3 Hle
      go_loopg [7,9] (n) (fun gk x y wr=>∃gw g6 g7 c6 c7 wd d R,x=.slice (some ⟨g7,0,none⟩) n c7/\y=.pointer (some ⟨gw,0,none⟩)/\n - wd<=gk/\RInv w.heap.size w m n (aD t) gn gr gx wr gw g6 g7 c6 c7 wd d R)
      case atStart=>exact ⟨_,_,_,_,_,_,_,_,rfl,rfl,by omega,Hinv.out⟩
      case round=>
         clear Hinv;obtain ⟨gw,g6,g7,c6,c7,wd,d,R,rfl,rfl,hgk,hinv⟩:=hrel;have Hinv:=lhd hinv;clear hinv;go_wp2_with fail;obtain ⟨gb,hgb⟩:∃g,wr.heap.size=g:=⟨_,rfl⟩;have hbb:Bk (wr.alloc (.cells #[.func (.func 116) #[] #[.pointer (some ⟨gw,0,none⟩),.pointer (some ⟨gn,0,none⟩),.pointer (some ⟨gr,0,none⟩)]] 93)) gb 93 #[.func (.func 116) #[] #[.pointer (some ⟨gw,0,none⟩),.pointer (some ⟨gn,0,none⟩),.pointer (some ⟨gr,0,none⟩)]]:=hgb ▸ Bk.new _ _ _;have hinv1:=Hinv.out.grow ((Below.refl wr.heap.size wr).alloc nL (.cells #[.func (.func 116) #[] #[.pointer (some ⟨gw,0,none⟩),.pointer (some ⟨gn,0,none⟩),.pointer (some ⟨gr,0,none⟩)]] 93));rw [hgb];generalize wr.alloc (.cells #[.func (.func 116) #[] #[.pointer (some ⟨gw,0,none⟩),.pointer (some ⟨gn,0,none⟩),.pointer (some ⟨gr,0,none⟩)]] 93)=W1 at hbb hinv1⊢;have hdz:d.size=n:=(by rw [hinv1.ok.size,HN.out]);have hcmp:CmpReads Tryz.prog 117 #[.pointer (some ⟨gr,0,none⟩),.pointer (some ⟨gb,0,none⟩)] (eR m) (cfF m wd R) gx 0 d.size W1:=fun q os dk hdk x y=>by have k:=iS (enc:=eR m) hinv1.rows.lt 0 q dk os;exact zD gw gn gr gb wd n c6 (some ⟨g6,0,none⟩) R x.val y.val _ (hinv1.ordk k) (((k.bk hbb (Bk.ne hbb hinv1.rows dC)).cell 0).trans rfl) (by have:=hinv1.wdn;omega) oM hinv1.rle (by have:=x.isLt;have:=HN.out;omega) (by have:=y.isLt;have:=HN.out;omega)
         have hsort:=Any.slices_SortFunc shSort (eR m) (kV m) (cfF m wd R) (aIf m hinv1.rk) 117 #[.pointer (some ⟨gr,0,none⟩),.pointer (some ⟨gb,0,none⟩)] gx 0 n d W1 (enters_of Tryz.func117 kR rfl) hcmp.lays (aGS hinv1.rows) hinv1.rows.lt oM;rw [hdz] at hsort;refine hsort.mono ?_;clear hsort hcmp;rintro e W2 ⟨rfl,d',nq,os,hperm,hsrt,rfl⟩;have ho':RowsOk m d':=hinv1.ok.of_perm (by rw [hdz];exact hperm);have hinv2:=hinv1.keepx (iS (enc:=eR m) hinv1.rows.lt 0 nq d' os) (aHg hinv1.rows hperm.1 nq os) ho';have hbb2:=(iS (enc:=eR m) hinv1.rows.lt 0 nq d' os).bk hbb (Bk.ne hbb hinv1.rows dC);generalize Go.Proofs.sortWorld (eR m) W1 gx 0 nq d' os=W2 at hinv2 hbb2⊢;have hsr:∀i,i+1 < n->¬ltW (aN (aD t)) (wd+wd) (dU d' (i+1)) (dU d' i):=(by rw [<-HN.out] at hsrt⊢;exact fun i hi=>aFF hinv2.rk ho'.size hsrt i hi);obtain ⟨Hsr,Hinv2,Hbb⟩:=hqq3 hsr hinv2 hbb2;clear hsr hinv1 hinv2 hbb hbb2 hperm hsrt hdz Hinv hgb;have hNm:=HN.out;have hlt0:=Hinv2.out.ok.lt 0;have cx0:W2.cell? ⟨gx,0,none⟩=some (.int .i64 ((dU d' 0:Nat):Int)):=(Hinv2.out.rows.cell 0).trans (Hinv2.out.ok.cell oM);obtain ⟨cs7,k71,k72⟩:=Hinv2.out.next;obtain ⟨p0,hp0⟩:∃p,dU d' 0=p:=⟨_,rfl⟩;rw [hp0] at cx0 hlt0;have c70:=k71.cell p0;rw [zAq oM] at c70;have f70:=k71.frozen p0;generalize cs7[p0]' oM=u7 at c70;have hp0n:p0 < n:=oM;obtain ⟨K71,Hp0⟩:=hqq2 k71 hp0;clear k71 hp0 hNm hlt0;go_wp2_with fail;clear cx0 c70 f70;go_loopw [12] (fun i wr3=>∃k:Nat,1<=k/\k<=n/\i=.int .i64 k/\∃cs:Array Value,Bk wr3 g7 3 cs/\n<=cs.size/\(∀j,j < k->cs[dU d' j]?=some (.int .i64 ((cN (jI (aN R) wd) (dU d') j:Nat):Int)))/\Keep (fun b=>b=g7) W2 wr3) (fun i _=>n -(intOf i).toNat)
         case atStart=>refine ⟨1,by omega,by omega,rfl,_,K71.out.set p0 _,by simpa using k72,fun j hj=>?_,(Keep.refl (fun b=>b=g7) W2).setCell (p:=⟨g7,p0,none⟩) (.inl rfl) _⟩;obtain rfl:j=0:=oM;rw [Hp0.out,zCd,zBx rfl,zBx oM];rfl
         case round=>
          clear K71 Hp0 hp0n k72;obtain ⟨k,hk1,hk,rfl,cs,hc1,hc2,hc3,hkp⟩:=hrel;have hinv3:=Hinv2.out.keep7 hkp ⟨cs,hc1,hc2⟩;by_cases hlt:k < n
          · obtain ⟨j,hj⟩:∃j,k=j+1:=⟨k - 1,by omega⟩;have hNm:=HN.out;have ck:wr.cell? ⟨gx,k,none⟩=some (.int .i64 ((dU d' k:Nat):Int)):=(hinv3.rows.cell k).trans (hinv3.ok.cell oM);have cj:wr.cell? ⟨gx,j,none⟩=some (.int .i64 ((dU d' j:Nat):Int)):=(hinv3.rows.cell j).trans (hinv3.ok.cell oM);have cnj:=(hc1.cell (dU d' j)).trans (hc3 j oM);have lk:=hinv3.ok.lt k;have lj:=hinv3.ok.lt j;have cnk:=hc1.cell (dU d' k);rw [zAq oM] at cnk;have fnk:=hc1.frozen (dU d' k);generalize cs[dU d' k]' oM=uk at cnk;have cn:=(hinv3.len.cell 0).trans rfl;have e1:IntKind.i64.wrap ((k:Int) - 1)=(j:Int):=(by rw [IntKind.wrap_i64];omega);have hltI:decide ((k:Int) < (n:Int))=true:=(by simp;omega);obtain ⟨pk,hpk⟩:∃p,dU d' k=p:=⟨_,rfl⟩;obtain ⟨pj,hpj⟩:∃p,dU d' j=p:=⟨_,rfl⟩;obtain ⟨v,hv⟩:=eqx (cN (jI (aN R) wd) (dU d') j);have hvb:=sH (jI (aN R) wd) (dU d') 0 j;rw [zBi,hv] at hvb;have hv0:v<=1000:=(by have:cN (jI (aN R) wd) (dU d') 0=0:=rfl;omega);rw [hpk] at ck lk cnk fnk;rw [hpj] at cj lj cnj;rw [hv] at cnj;have hpkn:pk < n:=oM;have hpjn:pj < n:=oM;have hjn:j < n:=oM;obtain ⟨Hc1,Hc2,Hc3,Hkp,Hinv3,Hpk,Hpj,Hv,Hj⟩:=hqq9 hc1 hc2 hc3 hkp hinv3 hpk hpj hv hj;clear hc1 hc2 hc3 hkp hinv3 hpk hpj hv hvb hNm lk lj hj;go_wp2_with fail;refine wp_region_still_tail 14 kR kR ?_;simp only [List.take_succ_cons,List.take_zero,List.drop_succ_cons,List.drop_zero];change wpStill _ _ wr.drew (fun a'=>wpList _ _ _ _ a' wr.drew) _ _;have ck':wr.drew.cell? ⟨gx,k,none⟩=_:=ck;have cj':wr.drew.cell? ⟨gx,j,none⟩=_:=cj;have cnj':wr.drew.cell? ⟨g7,pj,none⟩=_:=cnj;have cnk':wr.drew.cell? ⟨g7,pk,none⟩=_:=cnk;have fnk':wr.drew.frozen? ⟨g7,pk,none⟩=false:=fnk;obtain ⟨Hc1',Hkp',Hinv3'⟩:=hqq3 Hc1.out.drew Hkp.out.drew (Hinv3.out.keep7 (Keep.refl _ _).drew ⟨cs,Hc1.out.drew,Hc2.out⟩);clear ck cj cnj cnk fnk cn Hc1 Hkp Hinv3;generalize wr.drew=W5 at ck' cj' cnj' cnk' fnk' Hc1' Hkp' Hinv3'⊢
            iterate 14 still_step
            refine wpStill_nil ?_;go_wp2_with fail;have hc6:=Hc1'.out.set pk (.int .i64 (v:Int));have hkp6:=Hkp'.out.setCell (p:=⟨g7,pk,none⟩) (.inl rfl) (.int .i64 (v:Int));have hinv6:=Hinv3'.out.keep7 ((Keep.refl (fun b=>b=g7) W5).setCell (p:=⟨g7,pk,none⟩) (.inl rfl) (.int .i64 (v:Int))) ⟨_,hc6,by simpa using Hc2.out⟩
            have hbb6:=hkp6.bk Hbb.out (fun e=>by
               obtain ⟨cs9,h9,_⟩:=Hinv2.out.next;subst e;exact Bk.ne Hbb.out h9 dC rfl)
            generalize W5.setCell ⟨g7,pk,none⟩ (.int .i64 (v:Int))=W6 at hc6 hkp6 hinv6 hbb6⊢;clear ck' cj' cnj' cnk' fnk' Hc1' Hkp' Hinv3';have ck:W6.cell? ⟨gx,k,none⟩=some (.int .i64 (pk:Int)):=(by rw [<-Hpk.out];exact (hinv6.rows.cell k).trans (hinv6.ok.cell (by have:=HN.out;omega)));have cj:W6.cell? ⟨gx,j,none⟩=some (.int .i64 (pj:Int)):=(by rw [<-Hpj.out];exact (hinv6.rows.cell j).trans (hinv6.ok.cell (by have:=HN.out;omega)));obtain ⟨z,hz⟩:=eqx (jI (aN R) wd pj pk);have kc:∀q:Nat,Calls Tryz.prog 117 #[.int .i64 (pj:Int),.int .i64 (pk:Int),.pointer (some ⟨gr,0,none⟩),.pointer (some ⟨gb,0,none⟩)] (W6.drewN q) fun e w'=>e=.returned (.int .i64 z)/\∃q',w'=W6.drewN q':=fun q=>by have h:=zD gw gn gr gb wd n c6 (some ⟨g6,0,none⟩) R pj pk (W6.drewN q) ((hinv6.ordk (Keep.refl _ _)).drewN q) ((hbb6.drewN q).cell 0) (by have:=hinv6.wdn;omega) oM hinv6.rle hpjn hpkn;rw [hz] at h;exact h.mono fun _ _ ⟨he,q',hq⟩=>⟨he,q+q',by rw [hq,World.drewN_drewN]⟩
            obtain ⟨Hc6,Hkp6,Hinv6,Hz⟩:=hqq4 hc6 hkp6 hinv6 hz;have e0:((k:Int) - 1).toNat=j:=(by have:=Hj.out;omega);have e2:(0:Int)<=(k:Int) - 1:=(by have:=Hj.out;omega);clear hc6 hkp6 hinv6 hbb6 hz;go_quiet ((with_reducible exact kc _));have hfk:dU d' k < cs.size:=(by rw [Hpk.out];have:=Hc2.out;omega);have hinj:∀j',j' < k->dU d' j'≠dU d' k:=fun j' hj' e=>by have:=Hinv6.out.ok.inj (i:=j') (j:=k) (by have:=HN.out;omega) (by have:=HN.out;omega) e;omega
            have hck:cN (jI (aN R) wd) (dU d') k=v+(if z≠0 then 1 else 0):=(by rw [Hj.out,<-Hv.out];show cN _ _ j+(if jI (aN R) wd (dU d' j) (dU d' (j+1))≠0 then 1 else 0)=_;rw [<-Hj.out,Hpk.out,Hpj.out,Hz.out]);obtain ⟨Hfk,Hinj⟩:=hqq2 hfk hinj;by_cases hz0:z=0
            · subst hz0;rw [zBw (by simp),zBq] at hck;have Hck:=lhd hck;clear hck hfk hinj ck cj kc e0 e2 e1;go_wp2_with fail;go_roundw
              case rel=>refine ⟨k+1,by omega,by omega,by go_num,_,Hc6.out.drewN _,by simpa using Hc2.out,?_,Hkp6.out.drewN _⟩;have:=yT Hc3.out Hfk.out Hinj.out Hck.out;rw [Hpk.out] at this;exact this
              case measure=>simp [intOf];omega
            · rw [zBx hz0] at hck;have Hck:=lhd hck;have c9:W6.cell? ⟨g7,pk,none⟩=some (.int .i64 (v:Int)):=(by rw [Hc6.out.cell,zCd,zBx rfl,zBx (by have:=Hc2.out;omega)]);have f9:=Hc6.out.frozen pk;have hv1:IntKind.i64.wrap ((v:Int)+1)=((v+1:Nat):Int):=(by rw [IntKind.wrap_i64];omega);have hzb:(z==0)=false:=(by simpa using hz0);clear hck hfk hinj cj kc e0 e2 e1;go_wp2_with fail;go_roundw
              case rel=>refine ⟨k+1,by omega,by omega,by go_num,_,(Hc6.out.drewN nq).set pk _,by simpa using Hc2.out,?_,(Hkp6.out.drewN nq).setCell (p:=⟨g7,pk,none⟩) (.inl rfl) _⟩;have:=yT Hc3.out Hfk.out Hinj.out Hck.out;rw [Hpk.out] at this;rw [set_set];exact this
              case measure=>simp [intOf];omega
          · obtain rfl:n=k:=oM;have hNm:=HN.out;obtain ⟨q,hq⟩:∃q,n=q+1:=⟨n - 1,by omega⟩;obtain ⟨last,hlast⟩:∃v,cN (jI (aN R) wd) (dU d') q=v:=⟨_,rfl⟩;have hlb:=sH (jI (aN R) wd) (dU d') 0 q;rw [zBi,hlast] at hlb;have hl0:last<=q:=(by have:cN (jI (aN R) wd) (dU d') 0=0:=rfl;omega);obtain ⟨p,hp⟩:=eqx (dU d' q);have hpn:p < n:=(by have:=hinv3.ok.lt q;omega);have hW:=hinv3.box;have cn0:=(hinv3.len.cell 0).trans rfl;have a0:=hW.cell 0;have f0:=hW.frozen 0;have b1:∀g cs,Bk wr g 3 cs->Bk (wr.setCell ⟨gr,0,none⟩ (.slice (some ⟨g7,0,none⟩) n c7)) g 3 cs:=fun g cs h=>h.far (p:=⟨gr,0,none⟩) (Bk.ne h hW dC) _;have ck:(wr.setCell ⟨gr,0,none⟩ (.slice (some ⟨g7,0,none⟩) n c7)).cell? ⟨gx,q,none⟩=some (.int .i64 (p:Int)):=(by rw [<-hp];exact ((b1 _ _ hinv3.rows).cell q).trans (hinv3.ok.cell oM));have cl:(wr.setCell ⟨gr,0,none⟩ (.slice (some ⟨g7,0,none⟩) n c7)).cell? ⟨g7,p,none⟩=some (.int .i64 (last:Int)):=(by rw [<-hp,<-hlast];exact ((b1 _ _ hc1).cell _).trans (hc3 q oM));have cn:=((b1 _ _ hinv3.len).cell 0).trans rfl;have cb:=(hW.set 0 (.slice (some ⟨g7,0,none⟩) n c7)).cell 0;have cw:=((b1 _ _ hinv3.wide).cell 0).trans rfl;have hlw:q < n:=oM;have e1:IntKind.i64.wrap ((n:Int) - 1)=(q:Int):=(by rw [IntKind.wrap_i64];omega);obtain ⟨Hq,Hlast,Hp,Hinv3,Hc1,Hc2,Hc3,HW,HB1⟩:=hqq9 hq hlast hp hinv3 hc1 hc2 hc3 hW b1;have hltI:decide ((n:Int) < (n:Int))=false:=(by simp);clear hq hlast hp hinv3 hc1 hc2 hc3 hkp hW b1 hNm hlb;go_wp2_with fail;have hbx9:=HW.out.set 0 (.slice (some ⟨g7,0,none⟩) n c7);have hkp9:=(Keep.refl (fun b=>b=gr) wr).setCell (p:=⟨gr,0,none⟩) (.inl rfl) (.slice (some ⟨g7,0,none⟩) n c7);have b1:=HB1.out;generalize wr.setCell ⟨gr,0,none⟩ (.slice (some ⟨g7,0,none⟩) n c7)=W9 at ck cl cn cb cw hbx9 hkp9 b1⊢;have hrx:=b1 _ _ Hinv3.out.rows;have h7x:=b1 _ _ Hc1.out;have hwx:=b1 _ _ Hinv3.out.wide;have hnx:=b1 _ _ Hinv3.out.len;obtain ⟨cs6,k61,k62,k63⟩:=Hinv3.out.rank;have h6x:=b1 _ _ k61;have hle9:=Hinv3.out.below.trans (hkp9.to_below (by have:=Hinv3.out.lo.1;have:=Hinv3.out.rows.lt;omega) (fun b hb e=>by have:=Hinv3.out.lo.2.2.2;omega));obtain ⟨Hbx9,Hrx,H7x,Hwx,Hnx,H6x,Hle9⟩:=hqq7 hbx9 hrx h7x hwx hnx h6x hle9;clear hbx9 hkp9 b1 hrx h7x hwx hnx h6x hle9 k61 k63 HB1;have e0:((n:Int) - 1).toNat=q:=(by have:=Hq.out;omega);have e2:(0:Int)<=(n:Int) - 1:=(by have:=Hq.out;omega);have ho:∀i j,jI (aN R) wd i j=0↔eqW (aN (aD t)) (wd+wd) i j:=aHu Hinv3.out.rk;have hll:(aD t).length=n:=(by rw [aJ,Htl.out,HN.out]);obtain ⟨Ho,Hll⟩:=hqq2 ho hll;clear ho hll;go_quiet (fail);clear e0 e2 e1 ck cl cn cb cw;obtain ⟨Hbx,Hrw,H7w,Hww,Hnw,H6w⟩:=hqq6 (Hbx9.out.drewN nq) (Hrx.out.drewN nq) (H7x.out.drewN nq) (Hwx.out.drewN nq) (Hnx.out.drewN nq) (H6x.out.drewN nq);have hle:Below w.heap.size w (W9.drewN nq):=⟨Hle9.out.os,Hle9.out.tape,Hle9.out.output,Hle9.out.size,Hle9.out.block⟩;have Hle:=lhd hle;clear hle Hbx9 Hrx H7x Hwx Hnx H6x Hle9;generalize W9.drewN nq=W10 at Hbx Hrw H7w Hww Hnw H6w Hle⊢;by_cases hlq:last=q
            · subst hlq;have hsuf:=Hinv3.out.ok.suf (l:=aD t) (by rw [Hll.out,HN.out]) (w:=wd+wd) (fun i j hij hj=>aIy Ho.out Hsr.out oM (by have:=Hq.out;have:=Hlast.out;rw [show n - 1=last by omega];exact this) i j hij (by have:=HN.out;omega));have Hsuf:=lhd hsuf;clear hsuf;go_wp2_with fail;go_ret;refine ⟨_,some ⟨gx,0,none⟩,n,Hsuf.out,by rw [HN.out];rfl,?_,Hle.out⟩;rw [<-aHj];have:=aDT Hrw.out Hinv3.out.lo.1 (n:=n) (by simp [Hinv3.out.ok.size,HN.out]) (by unfold maxLen;omega);have hcast:∀L,Made W10 w.heap.size 3 1 (some ⟨gx,0,none⟩) n n L->Made W10 w.heap.size 3 1 (some ⟨gx,0,none⟩) (m+1) n L:=fun L h=>by rw [HN.out];exact h
              exact hcast _ this
            · have hqI:((last:Int)==(q:Int))=false:=(by simp;omega);have hqN:(last==q)=false:=(by simp;omega);have cw:=Hww.out.cell 0;have cwl:=Hww.out.lt;have hwd:wd<=201:=(by have:=Hinv3.out.wdn;omega);go_wp2_with fail;have hnd:wd+wd < n:=by rcases zBe (wd+wd) n with h | h;exact h;exfalso;apply hlq;rw [<-Hlast.out];refine aHR (n:=n) (fun i hi he=>?_) q hlw;have:=(Ho.out _ _).1 he;have hN:=HN.out;refine aDO (l:=aD t) (by rw [Hll.out];exact h) (by rw [Hll.out];have:=Hinv3.out.ok.lt i;omega) (by rw [Hll.out];have:=Hinv3.out.ok.lt (i+1);omega) (fun e=>?_) this;have:=Hinv3.out.ok.inj oM oM e;omega
              go_roundg (n -(wd+wd))
              case measure=>have:=Hinv3.out.wd1;omega
              case rel=>
               obtain ⟨R',r1,r2,r3,r4⟩:=aFZ (cs:=cs) (f:=dU d') (v:=cN (jI (aN R) wd) (dU d')) Hc2.out (fun j _=>by have:=Hinv3.out.ok.lt j;have:=HN.out;omega) Hc3.out (fun p hp=>by
                obtain ⟨i,h1,h2⟩:=Hinv3.out.ok.sur (p:=p) (by have:=HN.out;omega);exact ⟨i,by have:=HN.out;omega,h2⟩)
               have hrk:RankOk (aN (aD t)) (aN R') (wd+wd):=(by refine aEy (by have:=Hinv3.out.wd1;omega) Ho.out (fun i hi=>Hsr.out i (by rw [<-Hll.out];exact hi)) (by rw [r1,Hll.out]) (fun i hi=>r2 i (by rw [<-Hll.out];exact hi)) (fun p hp=>?_);obtain ⟨i,h1,h2⟩:=Hinv3.out.ok.sur (p:=p) (by have:=HN.out;rw [Hll.out] at hp;omega);exact ⟨i,by have:=HN.out;rw [Hll.out];omega,h2⟩);obtain ⟨a1,a2,a3,a4,a5,a6,a7,a8,a9⟩:=Hinv3.out.ap;have lx:=Hrw.out.lt;have lw1:=Hinv3.out.wd1;have l7:=H7w.out.lt;have l6:=H6w.out.lt;have ln:=Hnw.out.lt;have e2:(wd:Int)*2=((wd+wd:Nat):Int):=oM;rw [e2];refine ⟨_,_,_,_,_,wd+wd,d',R',rfl,rfl,zAs _,Bk.new _ _ _,Hnw.out.alloc _,Hbx.out.alloc _,⟨_,H7w.out.alloc _,Hc2.out,r3⟩,⟨_,H6w.out.alloc _,k62⟩,Hrw.out.alloc _,Hinv3.out.ok,⟨?_,a2,a4,a3,?_,a9,a7.symm,?_,a6⟩,⟨Hinv3.out.lo.1,Hinv3.out.lo.2.2.1,Hinv3.out.lo.2.1,Hinv3.out.lo.2.2.2⟩,⟨Hinv3.out.cap.2,Hinv3.out.cap.1⟩,r1,?_,hrk,by omega,by omega,Hle.out.alloc Hle.out.size _⟩;omega;omega;omega;intro r hr;obtain ⟨j,hj,rfl⟩:=r4 r hr;have:=sH (jI (aN R) wd) (dU d') 0 j;rw [zBi] at this;have h0:cN (jI (aN R) wd) (dU d') 0=0:=rfl;omega
end Go.Proofs.YtnhmjomhloainaaGreatDoor
