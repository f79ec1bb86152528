/- Lemmas of the walk. Conditions: each its own. -/
import Derived.Test.YthldmddkfbijhaaGreatDoorPsr6
import Derived.Test.YthldmddkfbijhaaGreatDoorProg
import Derived.Test.YthldmddkfbijhaaGreatDoorShl
set_option linter.all false
set_option maxRecDepth 100000
set_option maxHeartbeats 4000000
namespace Go.Proofs.YthldmddkfbijhaaGreatDoor
section
open Go.RowKit
def aL (L:List Nat) (lv p:Nat):List Bool:=(L.filter fun s=>bG s lv==p).map (gO · lv)
theorem oN (s lv:Nat) (h:lv < 9):bG s (lv+1)=2*bG s lv+(if gO s lv then 1 else 0):=by
 unfold bG gO;have e1:9 -(lv+1)=8 - lv:=oM;have e2:9 - lv=(8 - lv)+1:=oM;rw [e1,e2,Nat.pow_succ,<-Nat.div_div_eq_div_mul];generalize s / 2 ^(8 - lv)=q;by_cases hq:q % 2=1;simp [hq];omega;simp [hq];omega
theorem oL (s:Nat) (h:s < 257):bG s 0=0:=by
 unfold bG;exact Nat.div_eq_of_lt oM
theorem oO (s:Nat):bG s 9=s:=by
 unfold bG;simp
theorem mJ (s lv:Nat) (h:s < 257) (hl:lv<=9):bG s lv < 2 ^ lv:=by
 unfold bG;rw [Nat.div_lt_iff_lt_mul (Nat.pos_of_ne_zero (by simp)),<-Nat.pow_add,show lv+(9 - lv)=9 by omega];omega
theorem aEV (L:List Nat) (lv s0:Nat) (h:lv < 9):(aL L lv (bG s0 lv)).count (gO s0 lv)=L.countP (fun s=>bG s (lv+1)==bG s0 (lv+1)):=by
 induction L with
 | nil=>rfl
 | cons x l ih=>
   have h1:=oN x lv h;have h2:=oN s0 lv h;unfold aL at ih⊢;rw [zBn,<-ih,List.filter_cons];by_cases hp:bG x lv=bG s0 lv
   · rw [zBx (by simp [hp]),List.map_cons,List.count_cons];by_cases hb:gO x lv=gO s0 lv
     · have:bG x (lv+1)=bG s0 (lv+1):=(by rw [h1,h2,hp,hb]);simp [hb,this]
     · have:bG x (lv+1)≠bG s0 (lv+1):=(by rw [h1,h2,hp];cases hx:gO x lv <;> cases hy:gO s0 lv <;> simp_all);simp [hb,this]
   · rw [zBw (by simp [hp])];have:bG x (lv+1)≠bG s0 (lv+1):=(by rw [h1,h2];cases gO x lv <;> cases gO s0 lv <;> simp <;> omega);simp [this]
theorem aGM (L:List Nat) (lv p k:Nat):(aL L lv p).take ((L.take k).countP fun s=>bG s lv==p)=aL (L.take k) lv p:=by
 induction L generalizing k with
 | nil=>simp [aL]
 | cons x l ih=>
   rcases k with _ | k
   · simp [aL]
   · have:=ih k;unfold aL at this⊢;rw [List.take_succ_cons,zBn,List.filter_cons,List.filter_cons];by_cases hp:bG x lv=p
     · simp only [hp,beq_self_eq_true,if_true,List.map_cons,List.take_succ_cons,this]
     · have h0:(bG x lv==p)=false:=(by simp [hp]);simp only [h0,Bool.false_eq_true,if_false,zBq,this]
theorem jF (L:List Nat) (lv p:Nat):(aL L lv p).length=L.countP fun s=>bG s lv==p:=by
 unfold aL;rw [zBc,List.countP_eq_length_filter]
def fU (L:List Nat) (k s0 lv:Nat):Nat:=(L.take k).countP fun s=>bG s lv==bG s0 lv
theorem lV (L:List Nat) (k s0:Nat) (hk:k<=L.length) (hL:∀s∈L,s < 257) (hs:s0 < 257):fU L k s0 0=k:=by
 unfold fU;rw [List.countP_eq_length.2 (fun s hs'=>by
  have:=hL s (List.mem_of_mem_take hs');simp [oL _ this,oL _ hs]),zAj]
 omega
theorem lW (L:List Nat) (k s0 lv:Nat) (h:lv < 9):((aL L lv (bG s0 lv)).take (fU L k s0 lv)).count (gO s0 lv)=fU L k s0 (lv+1):=by
 unfold fU;rw [aGM,aEV _ _ _ h]
theorem aFN (L:List Nat) (k s0 lv:Nat):fU L k s0 lv<=(aL L lv (bG s0 lv)).length:=by
 unfold fU;rw [jF];exact (List.take_sublist k L).countP_le
theorem aAQ (L:List Nat) (k s0:Nat):fU L k s0 9=(L.take k).count s0:=by
 unfold fU;rw [List.count_eq_countP];congr 1;funext s;rw [oO,oO]
def dZ (G:Nat->Nat) (lv m:Nat):List Value:=(List.range m).flatMap fun p=> [.pointer (some ⟨G p,0,none⟩),.int .i64 (lv:Int),.int .i64 (p:Int)]
theorem iY (G:Nat->Nat) (lv m:Nat):dZ G lv (m+1)=dZ G lv m++ [.pointer (some ⟨G m,0,none⟩),.int .i64 (lv:Int),.int .i64 (m:Int)]:=by
 unfold dZ;rw [List.range_succ,List.flatMap_append];simp
theorem wR (G:Nat->Nat) (lv m:Nat):(dZ G lv m).length=m*3:=by
 induction m with
 | zero=>rfl
 | succ m ih=>rw [iY,zAi,ih];simp;omega
theorem fO (G:Nat->Nat) (lv m p:Nat) (h:p < m):(dZ G lv m)[p*3]?=some (.pointer (some ⟨G p,0,none⟩))/\(dZ G lv m)[p*3+1]?=some (.int .i64 (lv:Int))/\(dZ G lv m)[p*3+2]?=some (.int .i64 (p:Int)):=by
 induction m with
 | zero=>omega
 | succ m ih=>
   rw [iY];by_cases e:p=m;subst e;have hl:=wR G lv p;refine ⟨?_,?_,?_⟩;rw [zAo oM,hl,Nat.sub_self];rfl;rw [zAo oM,hl,show p*3+1 - p*3=1 by omega];rfl;rw [zAo oM,hl,show p*3+2 - p*3=2 by omega];rfl;have hl:=wR G lv m;obtain ⟨h1,h2,h3⟩:=ih oM;refine ⟨?_,?_,?_⟩;rw [zAn oM];exact h1;rw [zAn oM];exact h2;rw [zAn oM];exact h3
theorem aA6 (G G':Nat->Nat) (lv m:Nat) (h:∀p,p < m->G p=G' p):dZ G lv m=dZ G' lv m:=by
 induction m with
 | zero=>rfl
 | succ m ih=>rw [iY,iY,ih (fun p hp=>h p oM),h m oM]
def ShelfRow (w:World) (B:Nat) (v:Value) (L:List Nat) (lv m:Nat):Prop:=
 ∃(G:Nat->Nat),w.ownsRow B 157 3 v m (dZ G lv m)/\∀p,p < m->B<=G p/\TreeAt w (G p) (aL L lv p)
theorem ShelfRow.vis {w w':World} {B:Nat} {v:Value} {L:List Nat} {lv m:Nat} (h:ShelfRow w B v L lv m) (k:Vis w w'):ShelfRow w' B v L lv m:=by
 obtain ⟨G,h1,h2⟩:=h;exact ⟨G,k.own h1 dC dC,fun p hp=>⟨(h2 p hp).1,(h2 p hp).2.vis k⟩⟩
theorem ShelfRow.below {w w':World} {B:Nat} {v:Value} {L:List Nat} {lv m:Nat} (h:ShelfRow w B v L lv m) (k:Below w.heap.size w w'):ShelfRow w' B v L lv m:=h.vis (Vis.of_below k)
def WaveAt (w:World) (B gv:Nat) (L:List Nat):Prop:=
 B<=gv/\∃(S:Nat->Value) (v:Int),Bk w gv 154 (wcells S (L.length:Int) v)/\∀lv,lv < 9->ShelfRow w B (S lv) L lv (2 ^ lv)
theorem WaveAt.vis {w w':World} {B gv:Nat} {L:List Nat} (h:WaveAt w B gv L) (k:Vis w w'):WaveAt w' B gv L:=by
 obtain ⟨h0,S,v,h1,h2⟩:=h;obtain ⟨v',h3⟩:=k.waveC h1;exact ⟨h0,S,v',h3,fun lv hl=>(h2 lv hl).vis k⟩
theorem WaveAt.below {w w':World} {B gv:Nat} {L:List Nat} (h:WaveAt w B gv L) (k:Below w.heap.size w w'):WaveAt w' B gv L:=h.vis (Vis.of_below k)
abbrev VB (B:Nat):World->World->Prop:=VisK (fun b=>B<=b)
theorem bD {B:Nat} {w w':World} (h:VB B w.drew w'):VB B w w':=⟨⟨h.1.os,h.1.tape,h.1.output,h.1.size,h.1.block⟩,⟨h.2.os,h.2.tape,h.2.output,h.2.size,h.2.block⟩⟩
theorem VB.to_below {B:Nat} {w w':World} (h:VB B w w') (hB:B<=w.heap.size):Below B w w':=h.2.to_below hB (fun b hb f=>by have:=f;omega)
theorem VB.set_wave {w:World} {B g:Nat} {cs:Array Value} (h:Bk w g 154 cs) (hB:B<=g) (v:Int):VB B w (w.setCell ⟨g,10,none⟩ (.int .i64 v)):=⟨Vis.set_wave h v,Keep.setCell (F:=fun b=>B<=b) (Keep.refl _ _) (p:=⟨g,10,none⟩) (.inl hB) _⟩
@[irreducible] def rowC (T:Nat->Value) (m:Nat):Array Value:=Array.ofFn (n:=m) fun i=>T i.val
theorem oJ (T:Nat->Value) (m:Nat):(rowC T m).size=m:=by unfold rowC;simp
theorem nP (T:Nat->Value) (m i:Nat) (h:i < m):(rowC T m)[i]?=some (T i):=by
 unfold rowC;rw [Array.getElem?_ofFn,dif_pos h]
theorem aH2 (T:Nat->Value) (m i:Nat) (h:i < m) (v:Value):(rowC T m).setIfInBounds i v=rowC (fun j=>if j=i then v else T j) m:=by
 apply Array.ext_getElem?;intro j;rcases zBe j m with hj | hj
 · rw [nP _ _ _ hj];by_cases e:i=j
   · subst e;rw [Array.getElem?_setIfInBounds_self_of_lt (by rw [oJ];exact h),zBx rfl]
   · rw [zCe e,nP _ _ _ hj,zBw (fun x=>e x.symm)]
 · rw [Array.getElem?_eq_none (by simp [oJ];exact hj),Array.getElem?_eq_none (by rw [oJ];exact hj)]
theorem aEa (v:Value) (m:Nat):rowC (fun _=>v) m=Array.replicate m v:=by
 apply Array.ext_getElem?;intro j;rcases zBe j m with hj | hj
 · rw [nP _ _ _ hj];simp [hj]
 · rw [Array.getElem?_eq_none (by rw [oJ];exact hj),Array.getElem?_eq_none (by simpa using hj)]
structure Bits (w:World) (B gB m:Nat) (T:Nat->Value) (R:Nat->List Bool):Prop where
 blk:Bk w gB 175 (rowC T m)
 own:∀p,p < m->w.ownsRow B 4 1 (T p) (R p).length ((R p).map Value.bool)
 apart:∀p q,p < m->q < m->p≠q->∀b,(T p).ownBlock=some b->(T q).ownBlock≠some b
theorem Bits.same {w w':World} {B gB m:Nat} {T:Nat->Value} {R:Nat->List Bool} (h:Bits w B gB m T R) (k1:∀b cs,Bk w b 175 cs->Bk w' b 175 cs) (k2:∀b cs,Bk w b 4 cs->Bk w' b 4 cs):Bits w' B gB m T R:=
 ⟨k1 _ _ h.blk,fun p hp=>aA (h.own p hp) fun b cs _ hb=>k2 b cs hb,h.apart⟩
theorem Bits.below {w w':World} {B gB m:Nat} {T:Nat->Value} {R:Nat->List Bool} (h:Bits w B gB m T R) (k:Below w.heap.size w w'):Bits w' B gB m T R:=h.same (fun b cs hb=>hb.below k hb.lt) (fun b cs hb=>hb.below k hb.lt)
theorem Bits.start (w:World) (B gB m:Nat) (h:Bk w gB 175 (rowC (fun _=>.slice none 0 0) m)):Bits w B gB m (fun _=>.slice none 0 0) (fun _=> []):=
 ⟨h,fun p hp=>World.ownsRow_nil _ _ _ _,fun p q _ _ _ b hb=>by simp [Value.ownBlock] at hb⟩
theorem Bits.push {w w1:World} {B gB m p:Nat} {T:Nat->Value} {R:Nat->List Bool} {v:Value} {b:Bool} (h:Bits w B gB m T R) (hp:p < m) (k:Keep (fun b=>(T p).ownBlock=some b) w w1)
 (ho:w1.ownsRow B 4 1 v ((R p).length+1) ((R p).map Value.bool++ [.bool b])) (ha:v.ownBlock=(T p).ownBlock∨∃g,v.ownBlock=some g/\w.heap.size<=g):
 Bits (w1.setCell ⟨gB,p,none⟩ v) B gB m (fun j=>if j=p then v else T j) (fun j=>if j=p then R p++ [b] else R j):=by
 have hne:(T p).ownBlock≠some gB:=by intro e;exact aY (h.own p hp) h.blk dC e.symm
 have hb1:=k.bk h.blk hne;have hset:∀g cs,Bk w1 g 4 cs->Bk (w1.setCell ⟨gB,p,none⟩ v) g 4 cs:=fun g cs hg=>hg.far (Bk.ne hg hb1 dC) _;refine ⟨?_,fun q hq=>?_,fun q r hq hr hqr b' hb'=>?_⟩;rw [<-aH2 T m p hp v];exact hb1.set p v;by_cases e:q=p;subst e;rw [zBx rfl,zBx rfl,zAi,zAz];exact aA ho fun g cs _ hg=>hset g cs hg;rw [zBw e,zBw e];refine aA (h.own q hq) fun g cs hg hgb=>hset g cs (k.bk hgb ?_);exact fun x=>h.apart q p hq hp e g hg x;have lt:∀q,q < m->∀x,(T q).ownBlock=some x->x < w.heap.size:=fun q hq x hx=>((h.own q hq).lt x hx).2;have hv:∀q,q < m->q≠p->∀x,v.ownBlock=some x->(T q).ownBlock≠some x:=(by intro q hq hqp x hx hy;rcases ha with ha |⟨g,hg,hge⟩;rw [ha] at hx;exact h.apart p q hp hq (fun e=>hqp e.symm) x hx hy;rw [hg] at hx;cases hx;have:=lt q hq _ hy;omega);by_cases e1:q=p;subst e1;rw [zBx rfl] at hb';rw [zBw (fun e=>hqr e.symm)];exact hv r hr (fun e=>hqr e.symm) b' hb';rw [zBw e1] at hb';by_cases e2:r=p;subst e2;rw [zBx rfl];intro hx;exact hv q hq e1 b' hx hb';rw [zBw e2];exact h.apart q r hq hr hqr b' hb'
theorem aGN (L:List Nat) (s lv p:Nat):aL (L++ [s]) lv p=if p=bG s lv then aL L lv p++ [gO s lv] else aL L lv p:=by
 unfold aL;rw [List.filter_append,zAz];by_cases e:p=bG s lv
 · rw [zBx e];simp [e]
 · rw [zBw e];have:(bG s lv==p)=false:=(by simp;omega);simp [this]
theorem Bits.congr {w:World} {B gB m:Nat} {T:Nat->Value} {R R':Nat->List Bool} (h:Bits w B gB m T R) (e:∀p,p < m->R p=R' p):Bits w B gB m T R':=
 ⟨h.blk,fun p hp=>by rw [<-e p hp];exact h.own p hp,h.apart⟩
theorem eW {w:World} {base:Nat} {e:TypeId} {sz n b:Nat} {v:Value} {xs:List Value} (h:w.ownsRow base e sz v n xs) (hb:v.ownBlock=some b):∃cs,Bk w b e cs:=by
 rcases h.2 with ⟨rfl,_⟩|⟨g,cap,cur,rfl,_,hg,_⟩
 · simp [Value.ownBlock] at hb
 have e1:g=b:=(by simpa [Value.ownBlock] using hb);subst e1;exact ⟨cur,hg⟩
theorem TreeAt.keepT {w w':World} {F:Nat->Prop} {gt:Nat} {bs:List Bool} (h:TreeAt w gt bs) (k:Keep F w w') (hf:∀b,F b->∃t cs,Bk w b t cs/\(t=154∨t=157)):TreeAt w' gt bs:=by
 refine h.same fun b t cs hin hb=>k.bk hb fun hF=>?_;obtain ⟨t',cs',hb',ht⟩:=hf b hF;have e:=(aR hb hb').1;subst e;rcases ht with rfl | rfl;exact absurd hin dC;exact absurd hin dC
theorem ShelfRow.keepW {w w':World} {gv B:Nat} {cs:Array Value} {v:Value} {L:List Nat} {lv m:Nat} (h:ShelfRow w B v L lv m) (k:Keep (fun b=>b=gv) w w') (hw:Bk w gv 154 cs):ShelfRow w' B v L lv m:=by
 obtain ⟨G,h1,h2⟩:=h;refine ⟨G,aA h1 fun b cs _ hb=>k.bk hb fun e=>?_,fun p hp=>⟨(h2 p hp).1,(h2 p hp).2.keepT k fun b e=>by
  have e':b=gv:=e;subst e';exact ⟨_,cs,hw,.inl rfl⟩⟩⟩
 have e':b=gv:=e;subst e';exact absurd (aR hb hw).1 dC
theorem ShelfRow.mono {w:World} {B B':Nat} {v:Value} {L:List Nat} {lv m:Nat} (h:ShelfRow w B v L lv m) (hB:B'<=B):ShelfRow w B' v L lv m:=by
 obtain ⟨G,h1,h2⟩:=h;exact ⟨G,bF h1 hB,fun p hp=>⟨zAk hB (h2 p hp).1,(h2 p hp).2⟩⟩
end
section
open Go.RowKit Go
open Go.Sort (SortedIn PermIn SWO Holds)
theorem nO (n:Nat) (hn:n<=1000000) (w:World):(Instr.makeSlice 22 (.int .i64 (n:Int)) (.int .i64 (n:Int))).run Tryz.prog w=.ok (.slice (some ⟨w.heap.size,0,none⟩) n n) (w.alloc (.cells (Array.replicate n (.int .i64 0)) 3)):=by
 obtain ⟨i0,hi0,hz0,hz1,hz2⟩:=info_parts gC;have:=run_make (P:=Tryz.prog) w 22 3 i0 (.int .i64 0) Tryz.underlying22 hi0 hz0 .i64 .i64 n n oM (Int.le_refl _) (by rw [hz2];omega) oM;rw [this,hz1];have e:madeCells #[.int .i64 0] n=Array.replicate n (.int .i64 0):=by apply Array.ext';rw [toList_madeCells_one];simp
 simp only [Value.cells,zBr,zBl];rw [e]
def jE (n k:Nat):Array Value:=((List.range n).map fun i=>Value.int .i64 (((if i < k then i else 0:Nat)):Int)).toArray
theorem xT (n k:Nat):(jE n k).size=n:=by simp [jE]
theorem aEH (n:Nat):jE n 0=Array.replicate n (.int .i64 0):=by
 apply Array.ext
 · simp [jE]
 · intro i h1 h2;simp [jE]
theorem aEI (n k:Nat) (h:k < n):(jE n k).setIfInBounds k (.int .i64 (k:Int))=jE n (k+1):=by
 apply Array.ext
 · simp [jE]
 · intro i h1 h2;rw [Array.getElem_setIfInBounds (by simpa [jE] using h2)];by_cases e:k=i
   · subst e;simp [jE]
   · rw [zBw e];simp only [jE,List.getElem_toArray,List.getElem_map,List.getElem_range];by_cases h3:i < k
     · rw [zBx h3,zBx oM]
     · rw [zBw h3,zBw oM]
theorem aGC (m:Nat):jE (m+1) (m+1)=(wW m).map (fF m):=by
 apply Array.ext
 · simp [jE,wW]
 · intro i h1 h2;have hi:i < m+1:=(by simpa [jE] using h1);simp [jE,wW,fF,hi]
theorem aFA {w:World} {g:Nat} {e:TypeId} {cs:Array Value} {n B:Nat} (h:Bk w g e cs) (hB:B<=g) (hz:cs.size=n) (hn:n<=maxLen):Made w B e 1 (some ⟨g,0,none⟩) n n cs.toList:=by
 have ho:w.ownsRow B e 1 (.slice (some ⟨g,0,none⟩) n n) n cs.toList:=⟨by simp [hz],.inr ⟨g,n,cs,rfl,hB,h,zAs _,hn,by omega,by rw [zAg (by simp [hz])]⟩⟩;exact ⟨ho,Rd.of_own ho,zAs _,hn⟩
theorem aJF {m:Nat} (d:Array (Fin (m+1))):(d.map (fF m)).toList=(d.toList.map (·.val)).map sv:=by
 simp [fF,sv]
theorem aAF {cs:Array Value} {f c:Nat->Nat} {k v:Nat} (h:∀j,j < k->cs[f j]?=some (.int .i64 ((c j:Nat):Int))) (hk:f k < cs.size) (hi:∀j,j < k->f j≠f k) (hv:c k=v) (j:Nat) (hj:j < k+1):(cs.setIfInBounds (f k) (.int .i64 (v:Int)))[f j]?=some (.int .i64 ((c j:Nat):Int)):=by
 by_cases e:j=k
 · subst e;rw [zCd,zBx rfl,zBx hk,hv]
 rw [zCd,zBw (fun x=>hi j oM x.symm)];exact h j oM
structure RInv (B0:Nat) (w0:World) (m n:Nat) (l:List Nat) (gn gr gx:Nat) (wr:World) (gw g6 g7 c6 c7 wd:Nat) (d:Array (Fin (m+1))) (R:List Nat):Prop where
 wide:Bk wr gw 3 #[(wd:Int)]
 len:Bk wr gn 3 #[(n:Int)]
 box:Bk wr gr 22 #[.slice (some ⟨g6,0,none⟩) n c6]
 rank:∃cs:Array Value,Bk wr g6 3 cs/\n<=cs.size/\∀(j:Nat) u,(R.map sv)[j]?=some u->cs[j]?=some u
 next:∃cs:Array Value,Bk wr g7 3 cs/\n<=cs.size
 rows:Bk wr gx 3 (d.map (fF m))
 ok:RowsOk m d
 ap:gx≠gw/\gx≠gn/\gx≠g6/\gx≠g7/\g7≠gw/\g7≠gn/\g7≠g6/\g6≠gw/\g6≠gn
 lo:B0<=gx/\B0<=g6/\B0<=g7/\B0<=gr
 cap:n<=c6/\n<=c7
 rlen:R.length=n
 rle:∀r∈R,r<=1000
 rk:RankOk (aN l) (aN R) wd
 wd1:1<=wd
 wdn:wd<=n
 below:Below B0 w0 wr
structure SetT (B:Nat) (T:TypeId) (w w':World):Prop where
 below:Below B w w'
 other:∀b t cs,t≠T->Bk w b t cs->Bk w' b t cs
 one:∀b c,Bk w b T #[c]->∃c',Bk w' b T #[c']
theorem SetT.set {B:Nat} {T:TypeId} {w:World} {g:Nat} {c:Value} (h:Bk w g T #[c]) (hg:B<=g) (v:Value):SetT B T w (w.setCell ⟨g,0,none⟩ v):=by
 refine ⟨bR.setCell hg _,fun b t cs ht hb=>?_,fun b c' hb=>?_⟩;exact hb.far (fun e=>ht (by subst e;exact (aR hb h).1)) _;by_cases e:b=g;subst e;exact ⟨v,hb.set 0 v⟩;exact ⟨c',hb.far (p:=⟨g,0,none⟩) e _⟩
section
variable {B0 : Nat} {w0 : World} {m n : Nat} {l : List Nat} {gn gr gx : Nat} {wr w' : World} {gw g6 g7 c6 c7 wd : Nat} {d d' : Array (Fin (m + 1))} {R : List Nat}
theorem aCC {w:World} {g n:Nat} {R:List Nat} (hl:R.length=n) (h:∃cs:Array Value,Bk w g 3 cs/\n<=cs.size/\∀(j:Nat) u,(R.map sv)[j]?=some u->cs[j]?=some u):Rd w w.heap.size 1 (some ⟨g,0,none⟩) n (R.map sv):=by
 obtain ⟨cs,h1,h2,h3⟩:=h;refine ⟨by simp [hl],fun _=>⟨g,0,rfl,h1.lt,fun j u hu=>?_⟩⟩;rw [zBi,h1.cell];exact h3 j u hu
theorem RInv.ordk (h:RInv B0 w0 m n l gn gr gx wr gw g6 g7 c6 c7 wd d R) (k:Keep (fun b=>b=gx) wr w'):OrdAt w' gw gn gr wd n (some ⟨g6,0,none⟩) c6 R:=by
 obtain ⟨a1,a2,a3,a4,a5,a6,a7,a8,a9⟩:=h.ap;obtain ⟨cs,h1,h2,h3⟩:=h.rank;exact ⟨((k.bk h.wide a1.symm).cell 0).trans rfl,((k.bk h.len a2.symm).cell 0).trans rfl,((k.bk h.box (Bk.ne h.box h.rows dC)).cell 0).trans rfl,aCC h.rlen ⟨cs,k.bk h1 a3.symm,h2,h3⟩⟩
theorem RInv.keepx (h:RInv B0 w0 m n l gn gr gx wr gw g6 g7 c6 c7 wd d R) (k:Keep (fun b=>b=gx) wr w') (hx:Bk w' gx 3 (d'.map (fF m))) (ho:RowsOk m d'):RInv B0 w0 m n l gn gr gx w' gw g6 g7 c6 c7 wd d' R:=by
 obtain ⟨a1,a2,a3,a4,a5,a6,a7,a8,a9⟩:=h.ap;obtain ⟨cs,h1,h2,h3⟩:=h.rank;obtain ⟨cs7,h4,h5⟩:=h.next
 exact ⟨k.bk h.wide a1.symm,k.bk h.len a2.symm,k.bk h.box (Bk.ne h.box h.rows dC),⟨cs,k.bk h1 a3.symm,h2,h3⟩,⟨cs7,k.bk h4 a4.symm,h5⟩,hx,ho,h.ap,h.lo,h.cap,h.rlen,h.rle,h.rk,h.wd1,h.wdn,
  h.below.trans (k.to_below (by have:=h.lo.1;have:=h.rows.lt;omega) (fun b hb e=>by have:=h.lo.1;omega))⟩
theorem RInv.keep7 (h:RInv B0 w0 m n l gn gr gx wr gw g6 g7 c6 c7 wd d R) (k:Keep (fun b=>b=g7) wr w') (h7:∃cs:Array Value,Bk w' g7 3 cs/\n<=cs.size):RInv B0 w0 m n l gn gr gx w' gw g6 g7 c6 c7 wd d R:=by
 obtain ⟨a1,a2,a3,a4,a5,a6,a7,a8,a9⟩:=h.ap;obtain ⟨cs,h1,h2,h3⟩:=h.rank;obtain ⟨cs7,h4,h5⟩:=h.next
 exact ⟨k.bk h.wide a5.symm,k.bk h.len a6.symm,k.bk h.box (Bk.ne h.box h4 dC),⟨cs,k.bk h1 a7.symm,h2,h3⟩,h7,k.bk h.rows a4,h.ok,h.ap,h.lo,h.cap,h.rlen,h.rle,h.rk,h.wd1,h.wdn,
  h.below.trans (k.to_below (by have:=h.lo.1;have:=h.rows.lt;omega) (fun b hb e=>by have:=h.lo.2.2.1;omega))⟩
theorem RInv.grow (h:RInv B0 w0 m n l gn gr gx wr gw g6 g7 c6 c7 wd d R) (k:Below wr.heap.size wr w'):RInv B0 w0 m n l gn gr gx w' gw g6 g7 c6 c7 wd d R:=
 h.keep7 (Keep.of_below k) (by
  obtain ⟨cs7,h4,h5⟩:=h.next;exact ⟨cs7,h4.below k h4.lt,h5⟩)
end
theorem oC (A:Option Addr) (m c B:Nat) (t:List UInt8) (w:World) (hr:Rd w B 1 A m (t.map bv)) (hB:B<=w.heap.size) (hm:m<=200):
 Calls Tryz.prog 89 #[.slice A m c] w fun e w'=>∃rs A' c',IsSuf (aG t) rs/\e=.returned (.slice A' (m+1) c')/\Made w' w.heap.size 3 1 A' (m+1) c' (rs.map sv)/\Below w.heap.size w w':=by
 have htl:t.length=m:=by simpa using hr.1
 obtain ⟨Hr,Htl⟩:=hqq2 hr htl;clear hr htl;go_enter Tryz.func89,Tryz.ntmps89;go_wp2_with fail;obtain ⟨n,hn⟩:=eqx (m+1);have hsa:=yR w.heap.size 0 A m c w.heap.size t (w.alloc (.cells #[.slice A m c] 26)) (Bk.new _ _ _) ((Hr.out.mono hB).alloc nL _) (by simp) oM;rw [hn] at hsa;have hn2:n<=201:=oM;have hn1:1<=n:=oM;have HN:=lhd hn;clear hn;refine hsa.mono ?_;clear hsa;rintro e w1 ⟨A1,c1,rfl,hm1,hb1⟩;have hb1':=((Below.refl w.heap.size w).alloc nL _).trans (hb1.mono (by simp));obtain ⟨Hm1,Hb1⟩:=hqq2 hm1 hb1';clear hm1 hb1 hb1';go_wp2_with fail;obtain ⟨gn,hgn⟩:∃g,w1.heap.size=g:=⟨_,rfl⟩;have hbn:Bk (w1.alloc (.cells #[(n:Int)] 3)) gn 3 #[(n:Int)]:=hgn ▸ Bk.new _ _ _;have hm2:=Hm1.out.below (bR.alloc nL (.cells #[(n:Int)] 3));have hb2:=Hb1.out.alloc Hb1.out.size (.cells #[(n:Int)] 3);have hR2:=hm2.rd;have hge:w.heap.size<=gn:=hgn ▸ Hb1.out.size;rw [hgn];generalize w1.alloc (.cells #[(n:Int)] 3)=W0 at hbn hm2 hb2 hR2⊢;clear Hm1 Hb1 hgn;have hcn:=hbn.cell 0;have hzn:=hbn.lt;have Hcn:Hid (W0.cell? ⟨gn,0,none⟩=some (.int .i64 (n:Int))):=lhd hcn;obtain ⟨Hgn,HR1,HR2,HB2,HBN⟩:=hqq5 hzn hR2 hm2 hb2 hbn;clear hcn hzn hR2 hm2 hb2 hbn;refine wp_region_any kR ?_;refine wK [18,19,20,21,22,23,6,5,7] [6,19,21,23] 8 (SetT W0.heap.size 22) (Below W0.heap.size W0) [k0 (is (n:Int)),k0 (fun v w2=>∃g,v=.slice (some ⟨g,0,none⟩) n n/\W0.heap.size<=g/\Bk w2 g 3 (Array.replicate n (.int .i64 0))),k0 (is (.slice A1 n c1)),k0 (fun v w2=>∃A c,v=.slice A n c/\Made w2 W0.heap.size 3 1 A n c ((aG t).map sv)),k0 (is (n:Int)),k0 (fun v w2=>∃g,v=.slice (some ⟨g,0,none⟩) n n/\W0.heap.size<=g/\Bk w2 g 3 (Array.replicate n (.int .i64 0))),k0 (fun v w2=>∃g c,v=.pointer (some ⟨g,0,none⟩)/\W0.heap.size<=g/\Bk w2 g 22 #[c]),kEq 19,kLk 6 21 (fun u v w2=>∃g,u=.pointer (some ⟨g,0,none⟩)/\W0.heap.size<=g/\Bk w2 g 22 #[v]),kEq 23] _ _ rfl kR kR (bR.drew) (yE rfl) (fun w w' h k=>k.elim (fun k=>h.trans (k.mono h.size)) (fun k=>h.trans k.below)) (by repeat' (first | exact aEM _ | exact aFG _ | exact aJ3 _ _ _ |(refine zAe.2 ⟨?_,?_⟩)|(intro p hp;cases hp))) (by repeat' (first | exact vM _ _ | exact aCk _ | exact qV _ _ | exact jP (fun _ _ _ ⟨g,h1,h2,h3⟩ k=>⟨g,h1,h2,h3.below k h3.lt⟩)| exact jP (fun _ _ _ ⟨A,c,h1,h2⟩ k=>⟨A,c,h1,h2.below k⟩)| exact jP (fun _ _ _ ⟨g,c,h1,h2,h3⟩ k=>⟨g,c,h1,h2,h3.below k h3.lt⟩)| exact jP (fun _ _ _ _ ⟨g,h1,h2,h3⟩ k=>⟨g,h1,h2,h3.below k h3.lt⟩)| exact qU (fun _ _ _ ⟨g,h1,h2,h3⟩ k=>⟨g,h1,h2,h3.below k h3.lt⟩)| exact qU (fun _ _ _ ⟨A,c,h1,h2⟩ k=>⟨A,c,h1,h2.below k⟩)| exact qU (fun _ _ _ ⟨g,c,h1,h2,h3⟩ k=>⟨g,c,h1,h2,h3.below k h3.lt⟩)| exact qU (fun _ _ _ _ ⟨g,h1,h2,h3⟩ k=>⟨g,h1,h2,h3.below k h3.lt⟩)|(refine zAe.2 ⟨?_,?_⟩)|(intro p hp;cases hp))) (by simp only [List.eraseIdx_cons_zero,List.eraseIdx_cons_succ,List.eraseIdx_nil];repeat' (first | exact vM _ _ | exact aCk _ | exact qV _ _ | exact jP (fun _ _ _ ⟨g,h1,h2,h3⟩ k=>⟨g,h1,h2,k.other _ _ _ dC h3⟩)| exact jP (fun _ _ _ ⟨A,c,h1,h2⟩ k=>⟨A,c,h1,oR h2 fun b cs hb=>k.other _ _ _ dC hb⟩)| exact jP (fun _ _ _ ⟨g,c,h1,h2,h3⟩ k=>let ⟨c',h4⟩:=k.one _ _ h3;⟨g,c',h1,h2,h4⟩)|(refine zAe.2 ⟨?_,?_⟩)|(intro p hp;cases hp))) ?_ ?_
 · refine aM ?_;refine aD (cU rfl rfl fun ev _ hCA _ _ _ hold _ _ _ _ hK=>?_) ?_
   · obtain ⟨hS,hAp⟩:=hCA;have e4:ev (.tmp 4)=.pointer (some ⟨gn,0,none⟩):=hold 4 kR;clear hold;have hcl:=(hS.cell (p:=⟨gn,0,none⟩) Hgn.out).trans Hcn.out;go_simp;exact hK _ _ (dL bR rfl rfl) rfl
   refine aD (cU rfl rfl fun _ _ hCA _ _ _ hold hval _ _ _ hK=>?_) ?_
   · obtain ⟨hS,hAp⟩:=hCA;have e18:_=_:=hval 0 18 kR rfl;clear hold;have kz:=nO n oM;go_simp;exact hK _ _ (jX (bR.alloc nL _) rfl (fun g hg=>by simp [blk?] at hg;subst hg;simp)) ⟨_,rfl,hS.size,Bk.new _ _ _⟩
   refine aD (cU rfl rfl fun ev _ hCA _ _ _ hold _ _ _ _ hK=>?_) ?_
   · obtain ⟨hS,hAp⟩:=hCA;have e3:ev (.tmp 3)=.slice A1 n c1:=hold 3 kR;clear hold;go_simp;exact hK _ _ (dL bR rfl rfl) rfl
   refine aD (cU rfl rfl fun _ _ hCA _ _ _ hold hval a _ _ hK=>?_) ?_
   · obtain ⟨hS,hAp⟩:=hCA;have e20:_=_:=hval 2 20 kR rfl;clear hold;go_simp;refine (aAr A1 n c1 W0.heap.size (aG t) _ (HR1.out.below hS) hS.size oM).mono ?_;rintro e w7 ⟨A',c',rfl,hm7,hb7⟩;refine hK _ _ (jX hb7 rfl (fun g hg=>?_)) ⟨A',c',rfl,hm7.mono hS.size⟩;obtain ⟨_,_,_,_,hx⟩:=aV hm7.own;rcases A' with _ | a
     · simp [blk?] at hg
     obtain ⟨A9,c9,h9,_,h8⟩:=aV hm7.own;injection h9 with h9;have:=h8 a h9.symm;simp [blk?] at hg;subst hg;exact this
   refine aD (cU rfl rfl fun ev _ hCA _ _ _ hold _ _ _ _ hK=>?_) ?_
   · obtain ⟨hS,hAp⟩:=hCA;have e4:ev (.tmp 4)=.pointer (some ⟨gn,0,none⟩):=hold 4 kR;clear hold;have hcl:=(hS.cell (p:=⟨gn,0,none⟩) Hgn.out).trans Hcn.out;go_simp;exact hK _ _ (dL bR rfl rfl) rfl
   refine aD (cU rfl rfl fun _ _ hCA _ _ _ hold hval _ _ _ hK=>?_) ?_
   · obtain ⟨hS,hAp⟩:=hCA;have e22:_=_:=hval 4 22 kR rfl;clear hold;have kz:=nO n oM;go_simp;exact hK _ _ (jX (bR.alloc nL _) rfl (fun g hg=>by simp [blk?] at hg;subst hg;simp)) ⟨_,rfl,hS.size,Bk.new _ _ _⟩
   refine aD (cU rfl rfl fun _ _ hCA _ _ _ hold _ _ _ _ hK=>?_) ?_
   · obtain ⟨hS,hAp⟩:=hCA;clear hold;go_simp;exact hK _ _ (jX (bR.alloc nL _) rfl (fun g hg=>by simp [blk?] at hg;subst hg;simp)) ⟨_,_,rfl,hS.size,Bk.new _ _ _⟩
   refine aD (cU rfl rfl fun ev w5 hCA _ _ _ hold hval _ _ _ hK=>?_) ?_
   · obtain ⟨hS,hAp⟩:=hCA;have p19:(fun v w2=>∃g,v=.slice (some ⟨g,0,none⟩) n n/\W0.heap.size<=g/\Bk w2 g 3 (Array.replicate n (.int .i64 0))) (ev (.tmp 19)) w5:=hval 1 19 kR rfl;clear hold;clear p19;go_simp;exact hK _ _ (dL bR rfl rfl) (by first | exact e19.symm | rfl)
   refine aD (cU rfl rfl fun ev w5 hCA _ _ _ hold hval _ _ _ hK=>?_) ?_
   · obtain ⟨hS,hAp⟩:=hCA;have p6:(fun v w2=>∃g c,v=.pointer (some ⟨g,0,none⟩)/\W0.heap.size<=g/\Bk w2 g 22 #[c]) (ev (.tmp 6)) w5:=hval 6 6 kR rfl;have p21:(fun v w2=>∃A c,v=.slice A n c/\Made w2 W0.heap.size 3 1 A n c ((aG t).map sv)) (ev (.tmp 21)) w5:=hval 3 21 kR rfl;clear hold;obtain ⟨g,c,e6,hg,hb⟩:=p6;obtain ⟨A2,c2,e21,hm21⟩:=p21;have c6:=hb.cell 0;have f6:=hb.frozen 0;have hg2:=hb.lt;go_simp;exact hK (.bool true) _ (aIz (SetT.set hb hg _) (by simp [World.setCell]) rfl) ⟨g,e6,hg,by rw [e21];exact hb.set 0 _⟩
   refine aD (cU rfl rfl fun ev w5 hCA _ _ _ hold hval _ _ _ hK=>?_) ?_
   · obtain ⟨hS,hAp⟩:=hCA;have p23:(fun v w2=>∃g,v=.slice (some ⟨g,0,none⟩) n n/\W0.heap.size<=g/\Bk w2 g 3 (Array.replicate n (.int .i64 0))) (ev (.tmp 23)) w5:=hval 5 23 kR rfl;clear hold;clear p23;go_simp;exact hK _ _ (dL bR rfl rfl) (by first | exact e23.symm | rfl)
   exact aC
 · intro ev w6 hS hAp hval hall;have e5:ev (.tmp 5)=ev (.tmp 19):=hval 7 5 rfl;have p6:(fun v w2=>∃g c,v=.pointer (some ⟨g,0,none⟩)/\W0.heap.size<=g/\Bk w2 g 22 #[c]) (ev (.tmp 6)) w6:=hval 6 6 rfl;have e7:ev (.tmp 7)=ev (.tmp 23):=hval 9 7 rfl;have p19:(fun v w2=>∃g,v=.slice (some ⟨g,0,none⟩) n n/\W0.heap.size<=g/\Bk w2 g 3 (Array.replicate n (.int .i64 0))) (ev (.tmp 19)) w6:=hval 1 19 rfl;have p21:(fun v w2=>∃A c,v=.slice A n c/\Made w2 W0.heap.size 3 1 A n c ((aG t).map sv)) (ev (.tmp 21)) w6:=hval 3 21 rfl;have p23:(fun v w2=>∃g,v=.slice (some ⟨g,0,none⟩) n n/\W0.heap.size<=g/\Bk w2 g 3 (Array.replicate n (.int .i64 0))) (ev (.tmp 23)) w6:=hval 5 23 rfl;obtain ⟨vJ,pJ0⟩:=hall 8 dC;have pJ:(fun u v w2=>∃g,u=.pointer (some ⟨g,0,none⟩)/\W0.heap.size<=g/\Bk w2 g 22 #[v]) (ev (.tmp 6)) (ev (.tmp 21)) w6:=pJ0;clear pJ0;simp only [aI,zq1,zq2,Act.put,zq3,zq4,zq5];clear hval hall;obtain ⟨gx,hx1,hx2,hx3⟩:=p19;obtain ⟨g7,h71,h72,h73⟩:=p23;obtain ⟨A6,c6,h61,h62⟩:=p21;obtain ⟨gr,hr1,hr2,hr3⟩:=pJ;rw [h61] at hr3;obtain ⟨g6,rfl,h6l,h6r⟩:∃g6,A6=some ⟨g6,0,none⟩/\W0.heap.size<=g6/\∃cs:Array Value,Bk w6 g6 3 cs/\n<=cs.size/\∀(j:Nat) u,((aG t).map sv)[j]?=some u->cs[j]?=some u:=by
    rcases h62.own.2 with ⟨h,_⟩|⟨g,cap,cur,h,h2,h3,h4,h5,h6,h7⟩;injection h with h8 h9;omega
    · injection h with h8 h9 h10;refine ⟨g,h8,h2,cur,h3,by omega,fun j u hu=>?_⟩;rw [<-h7,zBs,Array.getElem?_toList] at hu;split at hu;exact hu
      · cases hu
   have hd1:gx≠g7:=fun e=>hAp.2 19 (by simp) 23 (by simp) dC gx (by rw [hx1];rfl) (by rw [h71,e];rfl);have hd2:gx≠g6:=fun e=>hAp.2 19 (by simp) 21 (by simp) dC gx (by rw [hx1];rfl) (by rw [h61,e];rfl);have hd3:g7≠g6:=fun e=>hAp.2 23 (by simp) 21 (by simp) dC g7 (by rw [h71];rfl) (by rw [h61,e];rfl);have hgn1:=HBN.out.lt;have hbn6:=HBN.out.below hS hgn1;have hle6:=HB2.out.trans (hS.mono HB2.out.size);have hge6:=HB2.out.size;rw [<-aEH] at hx3;have hc6:n<=c6:=h62.cap;rw [e5,e7,hx1,h71,hr1];obtain ⟨Hx3,H73,H6r,Hr3,Hbn,Hle⟩:=hqq6 hx3 h73 h6r hr3 hbn6 hle6;have Hd:gx≠g7/\gx≠g6/\g7≠g6:=⟨hd1,hd2,hd3⟩;have HD:=lhd Hd;clear e5 e7 hx1 h71 hr1 hx3 h73 h6r hr3 hbn6 hle6 Hd hd1 hd2 hd3 hS hAp p6 h61 h62 HR1 HR2 HB2 HBN Hcn Hgn;go_wp2_with fail;go_loopw [26,8] (fun i _ wr=>∃k:Nat,k<=n/\i=.int .i64 k/\Bk wr gx 3 (jE n k)/\Keep (fun b=>b=gx) w6 wr) (fun i _ _=>n -(intOf i).toNat)
   case atStart=>exact ⟨0,by omega,rfl,Hx3.out,Keep.refl _ _⟩
   case round=>
    obtain ⟨k,hk,rfl,hbk,hkp⟩:=hrel;by_cases hlt:k < n
    · have c0:=hbk.cell k;have f0:=hbk.frozen k;rw [zAq (by rw [xT];exact hlt)] at c0;obtain ⟨Hbk,Hkp⟩:=hqq2 hbk hkp;clear hbk hkp;generalize (jE n k)[k]'(by rw [xT];exact hlt)=u0 at c0;go_wp2_with fail;go_roundw
      case rel=>exact ⟨k+1,by omega,by go_num,by rw [<-aEI _ _ hlt];exact Hbk.out.set k _,Hkp.out.setCell (.inl rfl) _⟩
      case measure=>simp [intOf];omega
    · obtain rfl:n=k:=oM;obtain ⟨Hbk,Hkp⟩:=hqq2 hbk hkp;clear hbk hkp;go_wp2_with fail;obtain ⟨gw,hgw⟩:∃g,wr.heap.size=g:=⟨_,rfl⟩;have hbw:Bk (wr.alloc (.cells #[(1:Int)] 3)) gw 3 #[(1:Int)]:=hgw ▸ Bk.new _ _ _
      have hinv:RInv w.heap.size w m n (aG t) gn gr gx (wr.alloc (.cells #[(1:Int)] 3)) gw g6 g7 c6 n 1 (wW m) (aG t):=by
         obtain ⟨d1,d2,d3⟩:=HD.out;obtain ⟨cs,k1,k2,k3⟩:=H6r.out;have kx:=Hkp.out;have hz:=kx.size;have l1:=Hx3.out.lt;have l2:=Hbn.out.lt;have l3:=H73.out.lt;have l6:=k1.lt;have lr:=Hr3.out.lt;refine ⟨hbw,(kx.bk Hbn.out (fun e=>by have:=hx2;omega)).alloc _,(kx.bk Hr3.out (fun e=>by subst e;exact Bk.ne Hr3.out Hx3.out dC rfl)).alloc _,⟨cs,(kx.bk k1 (fun e=>d2 e.symm)).alloc _,k2,k3⟩,⟨_,(kx.bk H73.out (fun e=>d1 e.symm)).alloc _,by simp⟩,?_,aH1 m,?_,?_,⟨hc6,zAs _⟩,?_,?_,aEe _,zAs _,hn1,?_⟩;have:=Hbk.out;rw [<-HN.out,aGC] at this;exact this.alloc _
         · refine ⟨?_,?_,d2,d1,?_,?_,d3,?_,?_⟩<;> omega
         · refine ⟨?_,?_,?_,?_⟩<;> omega
         · rw [aT,Htl.out,HN.out]
         intro r hr;have:=eT t r hr;omega;refine (Hle.out.trans ?_).alloc oM _;exact kx.to_below (by have:=Hle.out.size;omega) (fun b hb e=>by have:=hx2;omega)
      rw [hgw];generalize wr.alloc (.cells #[(1:Int)] 3)=W8 at hinv⊢;have Hinv:=lhd hinv;clear hinv hbw hgw Hbk Hkp HD H6r Hbn Hr3 H73 Hx3 Hle
      go_loopg [7,9] (n) (fun gk x y wr=>∃gw g6 g7 c6 c7 wd d R,x=.slice (some ⟨g7,0,none⟩) n c7/\y=.pointer (some ⟨gw,0,none⟩)/\n - wd<=gk/\RInv w.heap.size w m n (aG t) gn gr gx wr gw g6 g7 c6 c7 wd d R)
      case atStart=>exact ⟨_,_,_,_,_,_,_,_,rfl,rfl,by omega,Hinv.out⟩
      case round=>
         clear Hinv;obtain ⟨gw,g6,g7,c6,c7,wd,d,R,rfl,rfl,hgk,hinv⟩:=hrel;have Hinv:=lhd hinv;clear hinv;go_wp2_with fail;obtain ⟨gb,hgb⟩:∃g,wr.heap.size=g:=⟨_,rfl⟩;have hbb:Bk (wr.alloc (.cells #[.func (.func 145) #[] #[.pointer (some ⟨gw,0,none⟩),gn,gr]] 69)) gb 69 #[.func (.func 145) #[] #[.pointer (some ⟨gw,0,none⟩),gn,gr]]:=hgb ▸ Bk.new _ _ _;have hinv1:=Hinv.out.grow ((Below.refl wr.heap.size wr).alloc nL (.cells #[.func (.func 145) #[] #[.pointer (some ⟨gw,0,none⟩),gn,gr]] 69));rw [hgb];generalize wr.alloc (.cells #[.func (.func 145) #[] #[.pointer (some ⟨gw,0,none⟩),gn,gr]] 69)=W1 at hbb hinv1⊢;have hdz:d.size=n:=(by rw [hinv1.ok.size,HN.out]);have hcmp:CmpReads Tryz.prog 146 #[gr,gb] (fF m) (cfF m wd R) gx 0 d.size W1:=fun q os dk hdk x y=>by have k:=jU (enc:=fF m) hinv1.rows.lt 0 q dk os;exact aAU gw gn gr gb wd n c6 (some ⟨g6,0,none⟩) R x.val y.val _ (hinv1.ordk k) (((k.bk hbb (Bk.ne hbb hinv1.rows dC)).cell 0).trans rfl) (by have:=hinv1.wdn;omega) oM hinv1.rle (by have:=x.isLt;have:=HN.out;omega) (by have:=y.isLt;have:=HN.out;omega)
         have hsort:=Any.slices_SortFunc shSort (fF m) (mL m) (cfF m wd R) (aKz m hinv1.rk) 146 #[gr,gb] gx 0 n d W1 (enters_of Tryz.func146 kR rfl) hcmp.lays (aI1 hinv1.rows) hinv1.rows.lt oM;rw [hdz] at hsort;refine hsort.mono ?_;clear hsort hcmp;rintro e W2 ⟨rfl,d',nq,os,hperm,hsrt,rfl⟩;have ho':RowsOk m d':=hinv1.ok.of_perm (by rw [hdz];exact hperm);have hinv2:=hinv1.keepx (jU (enc:=fF m) hinv1.rows.lt 0 nq d' os) (aJx hinv1.rows hperm.1 nq os) ho';have hbb2:=(jU (enc:=fF m) hinv1.rows.lt 0 nq d' os).bk hbb (Bk.ne hbb hinv1.rows dC);generalize Go.Proofs.sortWorld (fF m) W1 gx 0 nq d' os=W2 at hinv2 hbb2⊢;have hsr:∀i,i+1 < n->¬ltW (aN (aG t)) (wd+wd) (eB d' (i+1)) (eB d' i):=(by rw [<-HN.out] at hsrt⊢;exact fun i hi=>aHP hinv2.rk ho'.size hsrt i hi);obtain ⟨Hsr,Hinv2,Hbb⟩:=hqq3 hsr hinv2 hbb2;clear hsr hinv1 hinv2 hbb hbb2 hperm hsrt hdz Hinv hgb;have hNm:=HN.out;have hlt0:=Hinv2.out.ok.lt 0;have cx0:W2.cell? ⟨gx,0,none⟩=some (.int .i64 ((eB d' 0:Nat):Int)):=(Hinv2.out.rows.cell 0).trans (Hinv2.out.ok.cell oM);obtain ⟨cs7,k71,k72⟩:=Hinv2.out.next;obtain ⟨p0,hp0⟩:∃p,eB d' 0=p:=⟨_,rfl⟩;rw [hp0] at cx0 hlt0;have c70:=k71.cell p0;rw [zAq oM] at c70;have f70:=k71.frozen p0;generalize cs7[p0]' oM=u7 at c70;have hp0n:p0 < n:=oM;obtain ⟨K71,Hp0⟩:=hqq2 k71 hp0;clear k71 hp0 hNm hlt0;go_wp2_with fail;clear cx0 c70 f70;go_loopw [12] (fun i wr3=>∃k:Nat,1<=k/\k<=n/\i=.int .i64 k/\∃cs:Array Value,Bk wr3 g7 3 cs/\n<=cs.size/\(∀j,j < k->cs[eB d' j]?=some (.int .i64 ((cN (kQ (aN R) wd) (eB d') j:Nat):Int)))/\Keep (fun b=>b=g7) W2 wr3) (fun i _=>n -(intOf i).toNat)
         case atStart=>refine ⟨1,by omega,by omega,rfl,_,K71.out.set p0 _,by simpa using k72,fun j hj=>?_,(Keep.refl (fun b=>b=g7) W2).setCell (p:=⟨g7,p0,none⟩) (.inl rfl) _⟩;obtain rfl:j=0:=oM;rw [Hp0.out,zCd,zBx rfl,zBx oM];rfl
         case round=>
          clear K71 Hp0 hp0n k72;obtain ⟨k,hk1,hk,rfl,cs,hc1,hc2,hc3,hkp⟩:=hrel;have hinv3:=Hinv2.out.keep7 hkp ⟨cs,hc1,hc2⟩;by_cases hlt:k < n
          · obtain ⟨j,hj⟩:∃j,k=j+1:=⟨k - 1,by omega⟩;have hNm:=HN.out;have ck:wr.cell? ⟨gx,k,none⟩=some (.int .i64 ((eB d' k:Nat):Int)):=(hinv3.rows.cell k).trans (hinv3.ok.cell oM);have cj:wr.cell? ⟨gx,j,none⟩=some (.int .i64 ((eB d' j:Nat):Int)):=(hinv3.rows.cell j).trans (hinv3.ok.cell oM);have cnj:=(hc1.cell (eB d' j)).trans (hc3 j oM);have lk:=hinv3.ok.lt k;have lj:=hinv3.ok.lt j;have cnk:=hc1.cell (eB d' k);rw [zAq oM] at cnk;have fnk:=hc1.frozen (eB d' k);generalize cs[eB d' k]' oM=uk at cnk;have cn:=(hinv3.len.cell 0).trans rfl;have e1:IntKind.i64.wrap ((k:Int) - 1)=(j:Int):=(by rw [IntKind.wrap_i64];omega);have hltI:decide ((k:Int) < (n:Int))=true:=(by simp;omega);obtain ⟨pk,hpk⟩:∃p,eB d' k=p:=⟨_,rfl⟩;obtain ⟨pj,hpj⟩:∃p,eB d' j=p:=⟨_,rfl⟩;obtain ⟨v,hv⟩:=eqx (cN (kQ (aN R) wd) (eB d') j);have hvb:=uO (kQ (aN R) wd) (eB d') 0 j;rw [zBi,hv] at hvb;have hv0:v<=1000:=(by have:cN (kQ (aN R) wd) (eB d') 0=0:=rfl;omega);rw [hpk] at ck lk cnk fnk;rw [hpj] at cj lj cnj;rw [hv] at cnj;have hpkn:pk < n:=oM;have hpjn:pj < n:=oM;have hjn:j < n:=oM;obtain ⟨Hc1,Hc2,Hc3,Hkp,Hinv3,Hpk,Hpj,Hv,Hj⟩:=hqq9 hc1 hc2 hc3 hkp hinv3 hpk hpj hv hj;clear hc1 hc2 hc3 hkp hinv3 hpk hpj hv hvb hNm lk lj hj;go_wp2_with fail;refine wp_region_still_tail 14 kR kR ?_;simp only [List.take_succ_cons,List.take_zero,List.drop_succ_cons,List.drop_zero];change wpStill _ _ wr.drew (fun a'=>wpList _ _ _ _ a' wr.drew) _ _;have ck':wr.drew.cell? ⟨gx,k,none⟩=_:=ck;have cj':wr.drew.cell? ⟨gx,j,none⟩=_:=cj;have cnj':wr.drew.cell? ⟨g7,pj,none⟩=_:=cnj;have cnk':wr.drew.cell? ⟨g7,pk,none⟩=_:=cnk;have fnk':wr.drew.frozen? ⟨g7,pk,none⟩=false:=fnk;obtain ⟨Hc1',Hkp',Hinv3'⟩:=hqq3 Hc1.out.drew Hkp.out.drew (Hinv3.out.keep7 (Keep.refl _ _).drew ⟨cs,Hc1.out.drew,Hc2.out⟩);clear ck cj cnj cnk fnk cn Hc1 Hkp Hinv3;generalize wr.drew=W5 at ck' cj' cnj' cnk' fnk' Hc1' Hkp' Hinv3'⊢
            iterate 14 still_step
            refine wpStill_nil ?_;go_wp2_with fail;have hc6:=Hc1'.out.set pk (.int .i64 (v:Int));have hkp6:=Hkp'.out.setCell (p:=⟨g7,pk,none⟩) (.inl rfl) (.int .i64 (v:Int));have hinv6:=Hinv3'.out.keep7 ((Keep.refl (fun b=>b=g7) W5).setCell (p:=⟨g7,pk,none⟩) (.inl rfl) (.int .i64 (v:Int))) ⟨_,hc6,by simpa using Hc2.out⟩
            have hbb6:=hkp6.bk Hbb.out (fun e=>by
               obtain ⟨cs9,h9,_⟩:=Hinv2.out.next;subst e;exact Bk.ne Hbb.out h9 dC rfl)
            generalize W5.setCell ⟨g7,pk,none⟩ (.int .i64 (v:Int))=W6 at hc6 hkp6 hinv6 hbb6⊢;clear ck' cj' cnj' cnk' fnk' Hc1' Hkp' Hinv3';have ck:W6.cell? ⟨gx,k,none⟩=some (.int .i64 (pk:Int)):=(by rw [<-Hpk.out];exact (hinv6.rows.cell k).trans (hinv6.ok.cell (by have:=HN.out;omega)));have cj:W6.cell? ⟨gx,j,none⟩=some (.int .i64 (pj:Int)):=(by rw [<-Hpj.out];exact (hinv6.rows.cell j).trans (hinv6.ok.cell (by have:=HN.out;omega)));obtain ⟨z,hz⟩:=eqx (kQ (aN R) wd pj pk);have kc:∀q:Nat,Calls Tryz.prog 146 #[(pj:Int),(pk:Int),gr,gb] (W6.drewN q) fun e w'=>e=.returned (.int .i64 z)/\∃q',w'=W6.drewN q':=fun q=>by have h:=aAU gw gn gr gb wd n c6 (some ⟨g6,0,none⟩) R pj pk (W6.drewN q) ((hinv6.ordk (Keep.refl _ _)).drewN q) ((hbb6.drewN q).cell 0) (by have:=hinv6.wdn;omega) oM hinv6.rle hpjn hpkn;rw [hz] at h;exact h.mono fun _ _ ⟨he,q',hq⟩=>⟨he,q+q',by rw [hq,World.drewN_drewN]⟩
            obtain ⟨Hc6,Hkp6,Hinv6,Hz⟩:=hqq4 hc6 hkp6 hinv6 hz;have e0:((k:Int) - 1).toNat=j:=(by have:=Hj.out;omega);have e2:(0:Int)<=(k:Int) - 1:=(by have:=Hj.out;omega);clear hc6 hkp6 hinv6 hbb6 hz;go_quiet ((with_reducible exact kc _));have hfk:eB d' k < cs.size:=(by rw [Hpk.out];have:=Hc2.out;omega);have hinj:∀j',j' < k->eB d' j'≠eB d' k:=fun j' hj' e=>by have:=Hinv6.out.ok.inj (i:=j') (j:=k) (by have:=HN.out;omega) (by have:=HN.out;omega) e;omega
            have hck:cN (kQ (aN R) wd) (eB d') k=v+(if z≠0 then 1 else 0):=(by rw [Hj.out,<-Hv.out];show cN _ _ j+(if kQ (aN R) wd (eB d' j) (eB d' (j+1))≠0 then 1 else 0)=_;rw [<-Hj.out,Hpk.out,Hpj.out,Hz.out]);obtain ⟨Hfk,Hinj⟩:=hqq2 hfk hinj;by_cases hz0:z=0
            · subst hz0;rw [zBw (by simp),zBq] at hck;have Hck:=lhd hck;clear hck hfk hinj ck cj kc e0 e2 e1;go_wp2_with fail;go_roundw
              case rel=>refine ⟨k+1,by omega,by omega,by go_num,_,Hc6.out.drewN _,by simpa using Hc2.out,?_,Hkp6.out.drewN _⟩;have:=aAF Hc3.out Hfk.out Hinj.out Hck.out;rw [Hpk.out] at this;exact this
              case measure=>simp [intOf];omega
            · rw [zBx hz0] at hck;have Hck:=lhd hck;have c9:W6.cell? ⟨g7,pk,none⟩=some (.int .i64 (v:Int)):=(by rw [Hc6.out.cell,zCd,zBx rfl,zBx (by have:=Hc2.out;omega)]);have f9:=Hc6.out.frozen pk;have hv1:IntKind.i64.wrap ((v:Int)+1)=((v+1:Nat):Int):=(by rw [IntKind.wrap_i64];omega);have hzb:(z==0)=false:=(by simpa using hz0);clear hck hfk hinj cj kc e0 e2 e1;go_wp2_with fail;go_roundw
              case rel=>refine ⟨k+1,by omega,by omega,by go_num,_,(Hc6.out.drewN nq).set pk _,by simpa using Hc2.out,?_,(Hkp6.out.drewN nq).setCell (p:=⟨g7,pk,none⟩) (.inl rfl) _⟩;have:=aAF Hc3.out Hfk.out Hinj.out Hck.out;rw [Hpk.out] at this;rw [set_set];exact this
              case measure=>simp [intOf];omega
          · obtain rfl:n=k:=oM;have hNm:=HN.out;obtain ⟨q,hq⟩:∃q,n=q+1:=⟨n - 1,by omega⟩;obtain ⟨last,hlast⟩:∃v,cN (kQ (aN R) wd) (eB d') q=v:=⟨_,rfl⟩;have hlb:=uO (kQ (aN R) wd) (eB d') 0 q;rw [zBi,hlast] at hlb;have hl0:last<=q:=(by have:cN (kQ (aN R) wd) (eB d') 0=0:=rfl;omega);obtain ⟨p,hp⟩:=eqx (eB d' q);have hpn:p < n:=(by have:=hinv3.ok.lt q;omega);have hW:=hinv3.box;have cn0:=(hinv3.len.cell 0).trans rfl;have a0:=hW.cell 0;have f0:=hW.frozen 0;have b1:∀g cs,Bk wr g 3 cs->Bk (wr.setCell ⟨gr,0,none⟩ (.slice (some ⟨g7,0,none⟩) n c7)) g 3 cs:=fun g cs h=>h.far (p:=⟨gr,0,none⟩) (Bk.ne h hW dC) _;have ck:(wr.setCell ⟨gr,0,none⟩ (.slice (some ⟨g7,0,none⟩) n c7)).cell? ⟨gx,q,none⟩=some (.int .i64 (p:Int)):=(by rw [<-hp];exact ((b1 _ _ hinv3.rows).cell q).trans (hinv3.ok.cell oM));have cl:(wr.setCell ⟨gr,0,none⟩ (.slice (some ⟨g7,0,none⟩) n c7)).cell? ⟨g7,p,none⟩=some (.int .i64 (last:Int)):=(by rw [<-hp,<-hlast];exact ((b1 _ _ hc1).cell _).trans (hc3 q oM));have cn:=((b1 _ _ hinv3.len).cell 0).trans rfl;have cb:=(hW.set 0 (.slice (some ⟨g7,0,none⟩) n c7)).cell 0;have cw:=((b1 _ _ hinv3.wide).cell 0).trans rfl;have hlw:q < n:=oM;have e1:IntKind.i64.wrap ((n:Int) - 1)=(q:Int):=(by rw [IntKind.wrap_i64];omega);obtain ⟨Hq,Hlast,Hp,Hinv3,Hc1,Hc2,Hc3,HW,HB1⟩:=hqq9 hq hlast hp hinv3 hc1 hc2 hc3 hW b1;have hltI:decide ((n:Int) < (n:Int))=false:=(by simp);clear hq hlast hp hinv3 hc1 hc2 hc3 hkp hW b1 hNm hlb;go_wp2_with fail;have hbx9:=HW.out.set 0 (.slice (some ⟨g7,0,none⟩) n c7);have hkp9:=(Keep.refl (fun b=>b=gr) wr).setCell (p:=⟨gr,0,none⟩) (.inl rfl) (.slice (some ⟨g7,0,none⟩) n c7);have b1:=HB1.out;generalize wr.setCell ⟨gr,0,none⟩ (.slice (some ⟨g7,0,none⟩) n c7)=W9 at ck cl cn cb cw hbx9 hkp9 b1⊢;have hrx:=b1 _ _ Hinv3.out.rows;have h7x:=b1 _ _ Hc1.out;have hwx:=b1 _ _ Hinv3.out.wide;have hnx:=b1 _ _ Hinv3.out.len;obtain ⟨cs6,k61,k62,k63⟩:=Hinv3.out.rank;have h6x:=b1 _ _ k61;have hle9:=Hinv3.out.below.trans (hkp9.to_below (by have:=Hinv3.out.lo.1;have:=Hinv3.out.rows.lt;omega) (fun b hb e=>by have:=Hinv3.out.lo.2.2.2;omega));obtain ⟨Hbx9,Hrx,H7x,Hwx,Hnx,H6x,Hle9⟩:=hqq7 hbx9 hrx h7x hwx hnx h6x hle9;clear hbx9 hkp9 b1 hrx h7x hwx hnx h6x hle9 k61 k63 HB1;have e0:((n:Int) - 1).toNat=q:=(by have:=Hq.out;omega);have e2:(0:Int)<=(n:Int) - 1:=(by have:=Hq.out;omega);have ho:∀i j,kQ (aN R) wd i j=0↔eqW (aN (aG t)) (wd+wd) i j:=aJO Hinv3.out.rk;have hll:(aG t).length=n:=(by rw [aT,Htl.out,HN.out]);obtain ⟨Ho,Hll⟩:=hqq2 ho hll;clear ho hll;go_quiet (fail);clear e0 e2 e1 ck cl cn cb cw;obtain ⟨Hbx,Hrw,H7w,Hww,Hnw,H6w⟩:=hqq6 (Hbx9.out.drewN nq) (Hrx.out.drewN nq) (H7x.out.drewN nq) (Hwx.out.drewN nq) (Hnx.out.drewN nq) (H6x.out.drewN nq);have hle:Below w.heap.size w (W9.drewN nq):=⟨Hle9.out.os,Hle9.out.tape,Hle9.out.output,Hle9.out.size,Hle9.out.block⟩;have Hle:=lhd hle;clear hle Hbx9 Hrx H7x Hwx Hnx H6x Hle9;generalize W9.drewN nq=W10 at Hbx Hrw H7w Hww Hnw H6w Hle⊢;by_cases hlq:last=q
            · subst hlq;have hsuf:=Hinv3.out.ok.suf (l:=aG t) (by rw [Hll.out,HN.out]) (w:=wd+wd) (fun i j hij hj=>aKZ Ho.out Hsr.out oM (by have:=Hq.out;have:=Hlast.out;rw [show n - 1=last by omega];exact this) i j hij (by have:=HN.out;omega));have Hsuf:=lhd hsuf;clear hsuf;go_wp2_with fail;go_ret;refine ⟨_,some ⟨gx,0,none⟩,n,Hsuf.out,by rw [HN.out];rfl,?_,Hle.out⟩;rw [<-aJF];have:=aFA Hrw.out Hinv3.out.lo.1 (n:=n) (by simp [Hinv3.out.ok.size,HN.out]) (by unfold maxLen;omega);have hcast:∀L,Made W10 w.heap.size 3 1 (some ⟨gx,0,none⟩) n n L->Made W10 w.heap.size 3 1 (some ⟨gx,0,none⟩) (m+1) n L:=fun L h=>by rw [HN.out];exact h
              exact hcast _ this
            · have hqI:((last:Int)==(q:Int))=false:=(by simp;omega);have hqN:(last==q)=false:=(by simp;omega);have cw:=Hww.out.cell 0;have cwl:=Hww.out.lt;have hwd:wd<=201:=(by have:=Hinv3.out.wdn;omega);go_wp2_with fail;have hnd:wd+wd < n:=by rcases zBe (wd+wd) n with h | h;exact h;exfalso;apply hlq;rw [<-Hlast.out];refine aJ9 (n:=n) (fun i hi he=>?_) q hlw;have:=(Ho.out _ _).1 he;have hN:=HN.out;refine aFu (l:=aG t) (by rw [Hll.out];exact h) (by rw [Hll.out];have:=Hinv3.out.ok.lt i;omega) (by rw [Hll.out];have:=Hinv3.out.ok.lt (i+1);omega) (fun e=>?_) this;have:=Hinv3.out.ok.inj oM oM e;omega
              go_roundg (n -(wd+wd))
              case measure=>have:=Hinv3.out.wd1;omega
              case rel=>
               obtain ⟨R',r1,r2,r3,r4⟩:=aIc (cs:=cs) (f:=eB d') (v:=cN (kQ (aN R) wd) (eB d')) Hc2.out (fun j _=>by have:=Hinv3.out.ok.lt j;have:=HN.out;omega) Hc3.out (fun p hp=>by
                obtain ⟨i,h1,h2⟩:=Hinv3.out.ok.sur (p:=p) (by have:=HN.out;omega);exact ⟨i,by have:=HN.out;omega,h2⟩)
               have hrk:RankOk (aN (aG t)) (aN R') (wd+wd):=(by refine aGh (by have:=Hinv3.out.wd1;omega) Ho.out (fun i hi=>Hsr.out i (by rw [<-Hll.out];exact hi)) (by rw [r1,Hll.out]) (fun i hi=>r2 i (by rw [<-Hll.out];exact hi)) (fun p hp=>?_);obtain ⟨i,h1,h2⟩:=Hinv3.out.ok.sur (p:=p) (by have:=HN.out;rw [Hll.out] at hp;omega);exact ⟨i,by have:=HN.out;rw [Hll.out];omega,h2⟩);obtain ⟨a1,a2,a3,a4,a5,a6,a7,a8,a9⟩:=Hinv3.out.ap;have lx:=Hrw.out.lt;have lw1:=Hinv3.out.wd1;have l7:=H7w.out.lt;have l6:=H6w.out.lt;have ln:=Hnw.out.lt;have e2:(wd:Int)*2=((wd+wd:Nat):Int):=oM;rw [e2];refine ⟨_,_,_,_,_,wd+wd,d',R',rfl,rfl,zAs _,Bk.new _ _ _,Hnw.out.alloc _,Hbx.out.alloc _,⟨_,H7w.out.alloc _,Hc2.out,r3⟩,⟨_,H6w.out.alloc _,k62⟩,Hrw.out.alloc _,Hinv3.out.ok,⟨?_,a2,a4,a3,?_,a9,a7.symm,?_,a6⟩,⟨Hinv3.out.lo.1,Hinv3.out.lo.2.2.1,Hinv3.out.lo.2.1,Hinv3.out.lo.2.2.2⟩,⟨Hinv3.out.cap.2,Hinv3.out.cap.1⟩,r1,?_,hrk,by omega,by omega,Hle.out.alloc Hle.out.size _⟩;omega;omega;omega;intro r hr;obtain ⟨j,hj,rfl⟩:=r4 r hr;have:=uO (kQ (aN R) wd) (eB d') 0 j;rw [zBi] at this;have h0:cN (kQ (aN R) wd) (eB d') 0=0:=rfl;omega
end
end Go.Proofs.YthldmddkfbijhaaGreatDoor
