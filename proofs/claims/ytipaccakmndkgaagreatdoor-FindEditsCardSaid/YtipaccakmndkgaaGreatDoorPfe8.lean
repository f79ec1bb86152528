/- What a lookup leaves alone: all but the cells of visits (Vis), what a tree is (TreeAt). No conditions. The walks of the tree's Len, Visits, like, Rank and New. Conditions: at most 128 bits. The walks of bits.Select and block.Select: where a bit with so many like it ahead stands. Conditions: there is such a bit; the table of math/bits stands in its variable. -/
import Derived.Test.YtipaccakmndkgaaGreatDoorPfe7
import Derived.Test.YtipaccakmndkgaaGreatDoorPfe2
import Derived.Test.YtipaccakmndkgaaGreatDoorSht
import Derived.Laws.Bits64
namespace Go.Proofs.YtipaccakmndkgaaGreatDoor
open Go.RowKit
set_option linter.unusedVariables false
set_option linter.unusedSimpArgs false
theorem own_same {w w':World} {B:Nat} {e:TypeId} {sz n:Nat} {v:Value} {xs:List Value} (h:w.ownsRow B e sz v n xs) (hs:∀b cs,v.ownBlock=some b→Bk w b e cs→Bk w' b e cs):w'.ownsRow B e sz v n xs:=by
 refine ⟨h.1,?_⟩
 rcases h.2 with h1 |⟨g,cap,cur,h1,h2,h3,h4⟩
 · exact .inl h1
 · exact .inr ⟨g,cap,cur,h1,h2,hs g cur (by rw [h1];rfl) h3,h4⟩
theorem made_same {w w':World} {B:Nat} {e:TypeId} {sz n c:Nat} {A:Option Addr} {xs:List Value} (h:Made w B e sz A n c xs) (hs:∀b cs,Bk w b e cs→Bk w' b e cs):Made w' B e sz A n c xs:=by
 have h1:=own_same (w':=w') h.own fun b cs _=>hs b cs
 exact ⟨h1,Rd.of_own h1,h.cap,h.max⟩
structure VisF (F:Nat→Prop) (w w':World):Prop where
 os:w'.os=w.os
 tape:w'.tape=w.tape
 output:w'.output=w.output
 size:w.heap.size≤w'.heap.size
 block:∀b,b < w.heap.size→¬F b→w'.heap[b]?=w.heap[b]?∨(∃cs v,Bk w b 226 cs∧Bk w' b 226 (cs.setIfInBounds 3 (.int .i64 v)))∨(∃cs v,Bk w b 174 cs∧Bk w' b 174 (cs.setIfInBounds 10 (.int .i64 v)))
abbrev Vis:World→World→Prop:=VisF (fun _=>False)
theorem Vis.refl (w:World):Vis w w:=⟨rfl,rfl,rfl,Nat.le_refl _,fun _ _ _=>.inl rfl⟩
theorem VisF.of_vis {F:Nat→Prop} {w w':World} (h:Vis w w'):VisF F w w':=⟨h.os,h.tape,h.output,h.size,fun b hb _=>h.block b hb (fun x=>x)⟩
theorem VisF.of_keep {F:Nat→Prop} {w w':World} (h:Keep F w w'):VisF F w w':=⟨h.os,h.tape,h.output,h.size,fun b hb hn=>.inl (h.block b hb hn)⟩
theorem VisF.to_vis {F:Nat→Prop} {w w':World} (h:VisF F w w') (hf:∀b,b < w.heap.size→¬F b):Vis w w':=⟨h.os,h.tape,h.output,h.size,fun b hb _=>h.block b hb (hf b hb)⟩
theorem set_set (cs:Array Value) (i:Nat) (u v:Value):(cs.setIfInBounds i u).setIfInBounds i v=cs.setIfInBounds i v:=by
 apply Array.ext
 · simp
 · intro j h1 h2
   simp [Array.getElem_setIfInBounds]
theorem bk_inj {w:World} {g:Nat} {t t':TypeId} {cs cs':Array Value} (h:Bk w g t cs) (h':Bk w g t' cs'):t=t'∧cs=cs':=by
 unfold Bk at h h'
 rw [h] at h'
 injection h' with h'
 injection h' with h1 h2
 exact ⟨h2,h1⟩
theorem VisF.trans {F:Nat→Prop} {w w1 w':World} (h:VisF F w w1) (k:VisF F w1 w'):VisF F w w':=by
 refine ⟨k.os.trans h.os,k.tape.trans h.tape,k.output.trans h.output,Nat.le_trans h.size k.size,fun b hb hn=>?_⟩
 have hb1:b < w1.heap.size:=Nat.lt_of_lt_of_le hb h.size
 rcases h.block b hb hn with e1 |⟨cs,v,e1,e2⟩|⟨cs,v,e1,e2⟩<;> rcases k.block b hb1 hn with f1 |⟨cs',v',f1,f2⟩|⟨cs',v',f1,f2⟩
 · exact .inl (f1.trans e1)
 · exact .inr (.inl ⟨cs',v',e1.symm.trans f1,f2⟩)
 · exact .inr (.inr ⟨cs',v',e1.symm.trans f1,f2⟩)
 · exact .inr (.inl ⟨cs,v,e1,f1.trans e2⟩)
 · obtain ⟨_,rfl⟩:=bk_inj e2 f1
   rw [set_set] at f2
   exact .inr (.inl ⟨cs,v',e1,f2⟩)
 · exact absurd (bk_inj e2 f1).1 (by decide)
 · exact .inr (.inr ⟨cs,v,e1,f1.trans e2⟩)
 · exact absurd (bk_inj e2 f1).1 (by decide)
 · obtain ⟨_,rfl⟩:=bk_inj e2 f1
   rw [set_set] at f2
   exact .inr (.inr ⟨cs,v',e1,f2⟩)
theorem Vis.trans {w w1 w':World} (h:Vis w w1) (k:Vis w1 w'):Vis w w':=VisF.trans h k
theorem Vis.of_below {w w':World} (h:Below w.heap.size w w'):Vis w w':=⟨h.os,h.tape,h.output,h.size,fun b hb _=>.inl (h.block b hb)⟩
theorem Vis.set_tree {w:World} {g:Nat} {cs:Array Value} (h:Bk w g 226 cs) (v:Int):Vis w (w.setCell ⟨g,3,none⟩ (.int .i64 v)):=by
 refine ⟨rfl,rfl,rfl,by simp [World.setCell],fun b hb _=>?_⟩
 by_cases e:b=g
 · subst e
   exact .inr (.inl ⟨cs,v,h,h.set 3 _⟩)
 · exact .inl (heap_setCell_other w ⟨g,3,none⟩ b _ (fun x=>e x))
theorem Vis.set_wave {w:World} {g:Nat} {cs:Array Value} (h:Bk w g 174 cs) (v:Int):Vis w (w.setCell ⟨g,10,none⟩ (.int .i64 v)):=by
 refine ⟨rfl,rfl,rfl,by simp [World.setCell],fun b hb _=>?_⟩
 by_cases e:b=g
 · subst e
   exact .inr (.inr ⟨cs,v,h,h.set 10 _⟩)
 · exact .inl (heap_setCell_other w ⟨g,10,none⟩ b _ (fun x=>e x))
theorem VisF.put {F:Nat→Prop} {w w1:World} (h:VisF F w w1) {p:Addr} (hp:F p.block∨w.heap.size≤p.block) (u:Value):VisF F w (w1.setCell p u):=by
 refine ⟨h.os,h.tape,h.output,by simpa [World.setCell] using h.size,fun b hb hn=>?_⟩
 have e:(w1.setCell p u).heap[b]?=w1.heap[b]?:=heap_setCell_other w1 p b u (fun x=>by
  rcases hp with hp | hp
  · rw [←x] at hp
    exact hn hp
  · omega)
 rcases h.block b hb hn with e1 |⟨cs,v,e1,e2⟩|⟨cs,v,e1,e2⟩
 · exact .inl (e.trans e1)
 · exact .inr (.inl ⟨cs,v,e1,e.trans e2⟩)
 · exact .inr (.inr ⟨cs,v,e1,e.trans e2⟩)
theorem Vis.fresh {w w1:World} (h:Vis w w1) {p:Addr} (hp:w.heap.size≤p.block) (u:Value):Vis w (w1.setCell p u):=VisF.put h (.inr hp) u
theorem Vis.alloc {w w1:World} (h:Vis w w1) (o:Obj):Vis w (w1.alloc o):=h.trans (Vis.of_below ((Below.refl _ _).alloc (Nat.le_refl _) _))
theorem Vis.below {w w1 w2:World} (h:Vis w w1) (k:Below w1.heap.size w1 w2):Vis w w2:=h.trans (Vis.of_below k)
theorem VisF.bk {F:Nat→Prop} {w w':World} {g:Nat} {t:TypeId} {cs:Array Value} (h:VisF F w w') (hb:Bk w g t cs) (h1:t≠226) (h2:t≠174) (hn:¬F g):Bk w' g t cs:=by
 rcases h.block g hb.lt hn with e1 |⟨cs',v,e1,e2⟩|⟨cs',v,e1,e2⟩
 · exact e1.trans hb
 · exact absurd (bk_inj hb e1).1 h1
 · exact absurd (bk_inj hb e1).1 h2
theorem VisF.tree {F:Nat→Prop} {w w':World} {g:Nat} {a b c:Value} {v:Int} (h:VisF F w w') (hb:Bk w g 226 #[a,b,c,.int .i64 v]) (hn:¬F g):∃v',Bk w' g 226 #[a,b,c,.int .i64 v']:=by
 rcases h.block g hb.lt hn with e1 |⟨cs',v',e1,e2⟩|⟨cs',v',e1,e2⟩
 · exact ⟨v,e1.trans hb⟩
 · obtain ⟨_,rfl⟩:=bk_inj hb e1
   exact ⟨v',e2⟩
 · exact absurd (bk_inj hb e1).1 (by decide)
theorem VisF.wave {F:Nat→Prop} {w w':World} {g:Nat} {cs:Array Value} (h:VisF F w w') (hb:Bk w g 174 cs) (hn:¬F g):Bk w' g 174 cs∨∃v',Bk w' g 174 (cs.setIfInBounds 10 (.int .i64 v')):=by
 rcases h.block g hb.lt hn with e1 |⟨cs',v',e1,e2⟩|⟨cs',v',e1,e2⟩
 · exact .inl (e1.trans hb)
 · exact absurd (bk_inj hb e1).1 (by decide)
 · obtain ⟨_,rfl⟩:=bk_inj hb e1
   exact .inr ⟨v',e2⟩
theorem Vis.bk {w w':World} {g:Nat} {t:TypeId} {cs:Array Value} (h:Vis w w') (hb:Bk w g t cs) (h1:t≠226) (h2:t≠174):Bk w' g t cs:=VisF.bk h hb h1 h2 (fun x=>x)
theorem Vis.tree {w w':World} {g:Nat} {a b c:Value} {v:Int} (h:Vis w w') (hb:Bk w g 226 #[a,b,c,.int .i64 v]):∃v',Bk w' g 226 #[a,b,c,.int .i64 v']:=VisF.tree h hb (fun x=>x)
theorem Vis.wave {w w':World} {g:Nat} {cs:Array Value} (h:Vis w w') (hb:Bk w g 174 cs):Bk w' g 174 cs∨∃v',Bk w' g 174 (cs.setIfInBounds 10 (.int .i64 v')):=VisF.wave h hb (fun x=>x)
def VisK (F:Nat→Prop) (w w':World):Prop:=Vis w w'∧Keep F w w'
theorem VisK.refl (F:Nat→Prop) (w:World):VisK F w w:=⟨Vis.refl w,Keep.refl F w⟩
theorem VisK.trans {F:Nat→Prop} {w w1 w':World} (h:VisK F w w1) (k:VisK F w1 w'):VisK F w w':=⟨h.1.trans k.1,h.2.trans k.2⟩
theorem VisK.below {F:Nat→Prop} {w w1 w':World} (h:VisK F w w1) (k:Below w1.heap.size w1 w'):VisK F w w':=⟨h.1.trans (Vis.of_below k),h.2.trans (Keep.of_below k)⟩
theorem VisK.of_below {F:Nat→Prop} {w w':World} (k:Below w.heap.size w w'):VisK F w w':=(VisK.refl F w).below k
theorem VisK.alloc {F:Nat→Prop} {w w1:World} (h:VisK F w w1) (o:Obj):VisK F w (w1.alloc o):=h.below ((Below.refl _ _).alloc (Nat.le_refl _) _)
theorem VisK.set_tree {w:World} {g:Nat} {cs:Array Value} (h:Bk w g 226 cs) (v:Int):VisK (fun b=>b=g) w (w.setCell ⟨g,3,none⟩ (.int .i64 v)):=⟨Vis.set_tree h v,Keep.setCell (F:=fun b=>b=g) (Keep.refl _ _) (p:=⟨g,3,none⟩) (.inl rfl) _⟩
theorem VisK.mono {F G:Nat→Prop} {w w':World} (h:VisK F w w') (hf:∀b,F b→G b):VisK G w w':=⟨h.1,h.2.mono fun b _=>hf b⟩
theorem Vis.own {w w':World} {B:Nat} {e:TypeId} {sz n:Nat} {v:Value} {xs:List Value} (k:Vis w w') (h:w.ownsRow B e sz v n xs) (h1:e≠226) (h2:e≠174):w'.ownsRow B e sz v n xs:=
 own_same h fun b cs _ hb=>k.bk hb h1 h2
theorem Vis.made {w w':World} {B:Nat} {e:TypeId} {sz n c:Nat} {A:Option Addr} {xs:List Value} (k:Vis w w') (h:Made w B e sz A n c xs) (h1:e≠226) (h2:e≠174):Made w' B e sz A n c xs:=
 made_same h fun b cs hb=>k.bk hb h1 h2
def RdT (w:World) (t:TypeId) (A:Option Addr) (n:Nat) (xs:List Value):Prop:=
 xs.length=n∧(0 < n→∃b off cs,A=some ⟨b,off,none⟩∧Bk w b t cs∧∀j u,xs[j]?=some u→cs[off+j]?=some u)
theorem RdT.rd {w:World} {t:TypeId} {A:Option Addr} {n:Nat} {xs:List Value} (h:RdT w t A n xs):Rd w w.heap.size 1 A n xs:=by
 refine ⟨by rw [h.1,Nat.mul_one],fun hn=>?_⟩
 obtain ⟨b,off,cs,e,hb,hc⟩:=h.2 hn
 exact ⟨b,off,e,hb.lt,fun j u hu=>(hb.cell _).trans (hc j u hu)⟩
theorem RdT.same {w w':World} {t:TypeId} {A:Option Addr} {n:Nat} {xs:List Value} (h:RdT w t A n xs) (hs:∀b cs,Bk w b t cs→Bk w' b t cs):RdT w' t A n xs:=by
 refine ⟨h.1,fun hn=>?_⟩
 obtain ⟨b,off,cs,e,hb,hc⟩:=h.2 hn
 exact ⟨b,off,cs,e,hs b cs hb,hc⟩
structure LeafV (w:World) (B gt ga gl cl gb:Nat) (rt v:Int) (bs:List Bool):Prop where
 tree:Bk w gt 226 #[.pointer (some ⟨ga,0,none⟩),.slice (some ⟨gl,0,none⟩) 1 cl,.int .i64 rt,.int .i64 v]
 row:RowS B gl cl gb (bs.length:Int) ((bs.count true:Nat):Int) w
 blk:Bk w gb 254 (blkC bs)
theorem Leaf.toV {w:World} {B gt ga gl cl gb:Nat} {rt v:Int} {bs:List Bool} (h:Leaf w B gt ga gl cl gb rt v bs):LeafV w 0 gt ga gl cl gb rt v bs:=⟨h.tree,own_mono h.row (Nat.zero_le _),h.blk⟩
theorem LeafV.vis {w w':World} {B gt ga gl cl gb:Nat} {rt v:Int} {bs:List Bool} (h:LeafV w B gt ga gl cl gb rt v bs) (k:Vis w w'):∃v',LeafV w' B gt ga gl cl gb rt v' bs:=by
 obtain ⟨v',h1⟩:=k.tree h.tree
 exact ⟨v',h1,k.own h.row (by decide) (by decide),k.bk h.blk (by decide) (by decide)⟩
def TreeAt (w:World) (gt:Nat) (bs:List Bool):Prop:=
 ∃(ga:Nat) (v:Int),(bs= []∧∃vl,Bk w gt 226 #[.pointer (some ⟨ga,0,none⟩),vl,.int .i64 (-1),.int .i64 v])∨(bs≠ []∧bs.length≤128∧∃gl cl gb,LeafV w 0 gt ga gl cl gb 0 v bs)
theorem TreeAt.vis {w w':World} {gt:Nat} {bs:List Bool} (h:TreeAt w gt bs) (k:Vis w w'):TreeAt w' gt bs:=by
 obtain ⟨ga,v,⟨h1,vl,h2⟩|⟨h1,h2,gl,cl,gb,h3⟩⟩:=h
 · obtain ⟨v',h4⟩:=k.tree h2
   exact ⟨ga,v',.inl ⟨h1,vl,h4⟩⟩
 · obtain ⟨v',h4⟩:=h3.vis k
   exact ⟨ga,v',.inr ⟨h1,h2,gl,cl,gb,h4⟩⟩
theorem TreeAt.same {w w':World} {gt:Nat} {bs:List Bool} (h:TreeAt w gt bs) (k:∀b t cs,t∈ [226,217,229,254,4]→Bk w b t cs→Bk w' b t cs):TreeAt w' gt bs:=by
 obtain ⟨ga,v,⟨h1,vl,h2⟩|⟨h1,h2,gl,cl,gb,h3⟩⟩:=h
 · exact ⟨ga,v,.inl ⟨h1,vl,k _ _ _ (by decide) h2⟩⟩
 · exact ⟨ga,v,.inr ⟨h1,h2,gl,cl,gb,k _ _ _ (by decide) h3.tree,own_same h3.row fun b cs _ hb=>k _ _ _ (by decide) hb,k _ _ _ (by decide) h3.blk⟩⟩
theorem TreeAt.below {w w':World} {gt:Nat} {bs:List Bool} (h:TreeAt w gt bs) (k:Below w.heap.size w w'):TreeAt w' gt bs:=h.same fun b t cs _ hb=>hb.below k hb.lt
theorem TreeAt.lt {w:World} {gt:Nat} {bs:List Bool} (h:TreeAt w gt bs):gt < w.heap.size:=by
 obtain ⟨ga,v,⟨h1,vl,h2⟩|⟨h1,h2,gl,cl,gb,h3⟩⟩:=h
 · exact h2.lt
 · exact h3.tree.lt
def TreeB (w:World) (B gt:Nat) (bs:List Bool):Prop:=
 ∃(ga:Nat) (v:Int),B≤gt∧B≤ga∧((bs= []∧Bk w gt 226 #[.pointer (some ⟨ga,0,none⟩),.slice none 0 0,.int .i64 (-1),.int .i64 v]∧Bk w ga 217 #[.slice none 0 0,.slice none 0 0,.int .i64 268435456])∨(bs≠ []∧bs.length≤128∧∃gl cl gb,B≤gb∧Leaf w B gt ga gl cl gb 0 v bs))
theorem TreeB.at {w:World} {B gt:Nat} {bs:List Bool} (h:TreeB w B gt bs):TreeAt w gt bs:=by
 obtain ⟨ga,v,_,_,⟨h1,h2,h3⟩|⟨h1,h2,gl,cl,gb,_,h3⟩⟩:=h
 · exact ⟨ga,v,.inl ⟨h1,_,h2⟩⟩
 · exact ⟨ga,v,.inr ⟨h1,h2,gl,cl,gb,h3.toV⟩⟩
theorem TreeB.keep {w w':World} {F:Nat→Prop} {B gt:Nat} {bs:List Bool} (h:TreeB w B gt bs) (k:Keep F w w') (hf:∀b,F b→b < B):TreeB w' B gt bs:=by
 obtain ⟨ga,v,l1,l2,⟨h1,h2,h3⟩|⟨h1,h2,gl,cl,gb,l3,h3⟩⟩:=h
 · exact ⟨ga,v,l1,l2,.inl ⟨h1,k.bk h2 (fun f=>by have:=hf _ f;omega),k.bk h3 (fun f=>by have:=hf _ f;omega)⟩⟩
 · obtain ⟨A,c,h4,h5⟩:=h3.arena
   exact ⟨ga,v,l1,l2,.inr ⟨h1,h2,gl,cl,gb,l3,k.bk h3.tree (fun f=>by have:=hf _ f;omega),own_keepF h3.row k hf,k.bk h3.blk (fun f=>by have:=hf _ f;omega),A,c,k.bk h4 (fun f=>by have:=hf _ f;omega),h5.keepF k hf⟩⟩
theorem TreeB.below {w w':World} {B gt:Nat} {bs:List Bool} (h:TreeB w B gt bs) (k:Below w.heap.size w w'):TreeB w' B gt bs:=h.keep (F:=fun _=>False) (Keep.of_below k) (fun _ f=>f.elim)
theorem TreeB.mono {w:World} {B B' gt:Nat} {bs:List Bool} (h:TreeB w B gt bs) (hB:B'≤B):TreeB w B' gt bs:=by
 obtain ⟨ga,v,l1,l2,⟨h1,h2,h3⟩|⟨h1,h2,gl,cl,gb,l3,h3⟩⟩:=h
 · exact ⟨ga,v,by omega,by omega,.inl ⟨h1,h2,h3⟩⟩
 · exact ⟨ga,v,by omega,by omega,.inr ⟨h1,h2,gl,cl,gb,by omega,h3.mono hB⟩⟩
end Go.Proofs.YtipaccakmndkgaaGreatDoor
namespace Go.Proofs.YtipaccakmndkgaaGreatDoor
open Go.RowKit
set_option linter.unusedVariables false
set_option linter.unusedSimpArgs false
theorem LeafV.cells {w:World} {B gt ga gl cl gb:Nat} {rt v:Int} {bs:List Bool} (h:LeafV w B gt ga gl cl gb rt v bs):
 w.cell? ⟨gt,0,none⟩=some (.pointer (some ⟨ga,0,none⟩))∧w.cell? ⟨gt,1,none⟩=some (.slice (some ⟨gl,0,none⟩) 1 cl)∧w.cell? ⟨gt,2,none⟩=some (.int .i64 rt)∧w.cell? ⟨gt,3,none⟩=some (.int .i64 v)∧
 w.cell? ⟨gl,0,none⟩=some (.int .i64 (-1))∧w.cell? ⟨gl,1,none⟩=some (.int .i64 (-1))∧w.cell? ⟨gl,2,none⟩=some (.int .i64 0)∧w.cell? ⟨gl,3,none⟩=some (.int .i64 (bs.length:Int))∧w.cell? ⟨gl,4,none⟩=some (.int .i64 ((bs.count true:Nat):Int))∧w.cell? ⟨gl,5,none⟩=some (.int .i64 0)∧w.cell? ⟨gl,6,none⟩=some (.int .i64 0)∧w.cell? ⟨gl,7,none⟩=some (.pointer (some ⟨gb,0,none⟩)):=by
 have k:=fun j hj=>World.ownsRow.cellAt h.row j hj
 exact ⟨(h.tree.cell 0).trans rfl,(h.tree.cell 1).trans rfl,(h.tree.cell 2).trans rfl,(h.tree.cell 3).trans rfl,(k 0 (by omega)).trans rfl,(k 1 (by omega)).trans rfl,(k 2 (by omega)).trans rfl,(k 3 (by omega)).trans rfl,(k 4 (by omega)).trans rfl,(k 5 (by omega)).trans rfl,(k 6 (by omega)).trans rfl,(k 7 (by omega)).trans rfl⟩
set_option maxRecDepth 100000 in
theorem TreeLen_any (gt:Nat) (bs:List Bool) (w:World) (h:TreeAt w gt bs):
 Calls Tryz.prog 217 #[.pointer (some ⟨gt,0,none⟩)] w fun e w'=>e=.returned (.int .i64 (bs.length:Int))∧Below w.heap.size w w':=by
 obtain ⟨ga,v,⟨rfl,vl,h2⟩|⟨h1,h2,gl,cl,gb,h3⟩⟩:=h
 · have c2:w.cell? ⟨gt,2,none⟩=some (.int .i64 (-1)):=(h2.cell 2).trans rfl
   clear h2
   go_enter Tryz.func217,Tryz.ntmps217
   go_wp2
   go_ret
   exact ⟨rfl,Below.refl _ _⟩
 · obtain ⟨c0,c1,c2,c3,d0,d1,d2,d3,d4,d5,d6,d7⟩:=h3.cells
   clear h3
   go_enter Tryz.func217,Tryz.ntmps217
   go_wp2
   go_quiet (fail)
   go_wp2
   go_ret
   exact ⟨rfl,⟨rfl,rfl,rfl,Nat.le_refl _,fun _ _=>rfl⟩⟩
theorem TreeAt.visits {w:World} {gt:Nat} {bs:List Bool} (h:TreeAt w gt bs):∃v,w.cell? ⟨gt,3,none⟩=some (.int .i64 v):=by
 obtain ⟨ga,v,⟨rfl,vl,h2⟩|⟨h1,h2,gl,cl,gb,h3⟩⟩:=h
 · exact ⟨v,(h2.cell 3).trans rfl⟩
 · exact ⟨v,h3.cells.2.2.2.1⟩
set_option maxRecDepth 100000 in
theorem TreeVisits_any (gt:Nat) (v:Int) (w:World) (h:w.cell? ⟨gt,3,none⟩=some (.int .i64 v)):
 Calls Tryz.prog 195 #[.pointer (some ⟨gt,0,none⟩)] w fun e w'=>e=.returned (.int .i64 v)∧Below w.heap.size w w':=by
 go_enter Tryz.func195,Tryz.ntmps195
 go_wp2
 go_ret
 exact ⟨rfl,Below.refl _ _⟩
set_option maxRecDepth 100000 in
theorem like_any (n o:Nat) (b:Bool) (w:World) (hn:n≤128) (ho:o≤n):
 Calls Tryz.prog 238 #[.int .i64 (n:Int),.int .i64 (o:Int),.bool b] w fun e w'=>e=.returned (.int .i64 ((if b then o else n - o:Nat):Int))∧Below w.heap.size w w':=by
 cases b
 · go_enter Tryz.func238,Tryz.ntmps238
   go_wp2
   go_ret
   exact ⟨ret_i64 (by omega),Below.refl _ _⟩
 · go_enter Tryz.func238,Tryz.ntmps238
   go_wp2
   go_ret
   exact ⟨ret_i64 (by simp),Below.refl _ _⟩
theorem count_both (l:List Bool):l.count true+l.count false=l.length:=by
 induction l with
 | nil=>rfl
 | cons x l ih=>cases x <;> simp <;> omega
set_option maxRecDepth 100000 in
set_option maxHeartbeats 1000000 in
theorem TreeRank_any (gt:Nat) (bs:List Bool) (k:Nat) (b:Bool) (w:World) (h:TreeAt w gt bs) (hk:k≤bs.length):
 Calls Tryz.prog 199 #[.pointer (some ⟨gt,0,none⟩),.int .i64 (k:Int),.bool b] w fun e w'=>e=.returned (.int .i64 (((bs.take k).count b:Nat):Int))∧VisK (fun b=>b=gt) w w':=by
 have hbl:bs.length≤128:=by
  obtain ⟨ga,v,⟨rfl,vl,h2⟩|⟨h1,h2,h3⟩⟩:=h
  · simp
  · exact h2
 have hv0:∃cs,Bk w gt 226 cs∧3 < cs.size:=by
  obtain ⟨ga,v,⟨rfl,vl,h2⟩|⟨h1,h2,gl,cl,gb,h3⟩⟩:=h
  · exact ⟨_,h2,by simp⟩
  · exact ⟨_,h3.tree,by simp⟩
 obtain ⟨cs,hcs,hc3⟩:=hv0
 have hv1:=VisK.set_tree hcs 0
 have ht1:=h.vis hv1.1
 have hgl:=hcs.lt
 have c3:w.cell? ⟨gt,3,none⟩=some cs[3]:=by rw [hcs.cell 3];simp [hc3]
 have f3:=hcs.frozen 3
 have m1:max (k:Int) 0=(k:Int):=by omega
 have m2:min (k:Int) (bs.length:Int)=(k:Int):=by omega
 have HV:=Lib.hid hv1
 have Hh:=Lib.hid h
 have Hbl:=Lib.hid hbl
 have Ht:=Lib.hid ht1
 obtain ⟨N,hN⟩:∃N,bs.length=N:=⟨_,rfl⟩
 have HN:=Lib.hid hN
 have Hk:=Lib.hid hk
 clear h hbl hv1 ht1 hcs hN hk
 go_enter Tryz.func199,Tryz.ntmps199
 go_wp2_with fail
 clear c3 f3
 refine (TreeLen_any gt bs _ Ht.out).mono ?_
 rintro e w2 ⟨rfl,hb2⟩
 have hv2:=HV.out.below hb2
 have ht2:=Hh.out.vis hv2.1
 have HV2:=Lib.hid hv2
 have Ht2:=Lib.hid ht2
 clear hv2 ht2 HV Ht hb2 Hh
 rcases Nat.eq_zero_or_pos k with hk0 | hk0
 · subst hk0
   go_wp2_with fail
   go_ret
   exact ⟨rfl,HV2.out⟩
 · have hk1:¬((k:Int)=0):=by omega
   obtain ⟨ga,v,⟨hbe,_,_⟩|⟨hbe,hb2,gl,cl,gb,hl⟩⟩:=Ht2.out
   · have h1:=Hk.out
     rw [hbe] at h1
     simp at h1
     omega
   obtain ⟨c0,c1,c2,c3,d0,d1,d2,d3,d4,d5,d6,d7⟩:=hl.cells
   have hl2:=hl.row.lt
   have hgl2:=hl.tree.lt
   have hgt_gl:gt≠gl:=hl.row.bk_ne hl.tree (by decide)
   have f3:=hl.tree.frozen 3
   have Hl:=Lib.hid hl
   have H2:=Lib.hid hb2
   clear hl hb2 hbe
   go_wp2_with fail
   go_loopw [1,7,8] (fun x y z wr=>x=.int .i64 (k:Int)∧y=.int .i64 0∧z=.int .i64 0∧wr=w2) (fun _ _ _ _=>0)
   case atStart=>exact ⟨rfl,rfl,rfl,rfl⟩
   case round=>
    obtain ⟨rfl,rfl,rfl,rfl⟩:=hrel
    go_wp2_with fail
    have hgb:=Bk.ne Hl.out.blk Hl.out.tree (by decide)
    have hv3:=(VisK.set_tree Hl.out.tree (wrap64 (v+1))).alloc (.cells #[.int .i64 (-1),.int .i64 (-1),.int .i64 0,.int .i64 (bs.length:Int),.int .i64 ((bs.count true:Nat):Int),.int .i64 0,.int .i64 0,.pointer (some ⟨gb,0,none⟩)] 229)
    refine (BlockRank_any gb bs k _ ((Hl.out.blk.far hgb _).alloc _) H2.out (by rw [HN.out] at*;exact Hk.out)).mono ?_
    rintro e w4 ⟨rfl,hb4⟩
    have hv4:=(HV2.out.trans hv3).below hb4
    obtain ⟨q,hq⟩:∃q,List.count true (List.take k bs)=q:=⟨_,rfl⟩
    have hqk:q≤k:=by
        rw [←hq]
        exact Nat.le_trans List.count_le_length (by rw [List.length_take];omega)
    have hfin:(if b then q else k - q)=(bs.take k).count b:=by
        have h1:=count_both (bs.take k)
        have h2:(bs.take k).length=k:=by rw [List.length_take];have:=Hk.out;omega
        cases b
        · simp;omega
        · simp;omega
    rw [hq]
    have HF:=Lib.hid hfin
    have HV4:=Lib.hid hv4
    have hkN:k≤128:=Nat.le_trans Hk.out Hbl.out
    clear hq hfin hv3 hb4 hv4
    go_wp2_with fail
    refine (like_any k q b _ hkN hqk).mono ?_
    rintro e w5 ⟨rfl,hb5⟩
    rw [HF.out]
    have hv5:=HV4.out.below hb5
    have hcb:(bs.take k).count b≤128:=Nat.le_trans List.count_le_length (by rw [List.length_take];omega)
    obtain ⟨r,hr⟩:∃r,List.count b (List.take k bs)=r:=⟨_,rfl⟩
    rw [hr] at hcb⊢
    clear HF HV4
    go_wp2_with fail
    go_ret
    exact ⟨ret_i64 (by rw [hr] <;> omega),hv5⟩
theorem own0 (w:World) (B:Nat) (e:TypeId) (sz:Nat):w.ownsRow B e sz (.slice none 0 0) 0 []:=World.ownsRow_nil _ _ _ _
set_option maxRecDepth 100000 in
theorem TreeNew_any (A:Option Addr) (m c B:Nat) (bs:List Bool) (w:World) (hr:Rd w B 1 A m (bs.map Value.bool)) (hB:B≤w.heap.size) (hm:m≤128) (hmc:m≤c):
 Calls Tryz.prog 224 #[.slice A m c] w fun e w'=>∃gt,e=.returned (.pointer (some ⟨gt,0,none⟩))∧TreeB w' w.heap.size gt bs∧Below w.heap.size w w':=by
 have hbl:bs.length=m:=by simpa using hr.1
 have Hr:=Lib.hid hr
 have Hbl:=Lib.hid hbl
 clear hr hbl
 go_enter Tryz.func224,Tryz.ntmps224
 go_wp2_with fail
 refine (ArenaNew_any _).mono ?_
 rintro e w1 ⟨rfl,ha1,hb1⟩
 have Ha1:=Lib.hid ha1
 have Hb1:=Lib.hid hb1
 have hs1:=hb1.size
 clear ha1 hb1
 rcases Nat.eq_zero_or_pos m with h0 | h0
 · subst h0
   have hnil:bs= []:=List.eq_nil_of_length_eq_zero Hbl.out
   go_wp2_with fail
   go_ret
   have hbB:=Hb1.out.alloc hs1 (.cells #[.pointer (some ⟨w.heap.size,0,none⟩),.slice none 0 0,.int .i64 (-1),.int .i64 0] 226)
   exact ⟨_,rfl,⟨_,0,hs1,Nat.le_refl _,.inl ⟨hnil,Bk.new _ _ _,Ha1.out.alloc _⟩⟩,hbB⟩
 · have hq1:((m:Int)+128 - 1)/ 128=1:=by omega
   have hne:bs≠ []:=by
    intro e
    have:=Hbl.out
    rw [e] at this
    simp at this
    omega
   have hb2:=Hb1.out.alloc hs1 (.cells #[.pointer (some ⟨w.heap.size,0,none⟩),.slice none 0 0,.int .i64 (-1),.int .i64 0] 226)
   have ht2:=Bk.new w1 226 #[.pointer (some ⟨w.heap.size,0,none⟩),.slice none 0 0,.int .i64 (-1),.int .i64 0]
   have ha2:=Ha1.out.alloc (.cells #[.pointer (some ⟨w.heap.size,0,none⟩),.slice none 0 0,.int .i64 (-1),.int .i64 0] 226)
   have hr2:=((Hr.out.mono hB).below hb2).mono hb2.size
   obtain ⟨w2,hw2⟩:∃w2,w1.alloc (.cells #[.pointer (some ⟨w.heap.size,0,none⟩),.slice none 0 0,.int .i64 (-1),.int .i64 0] 226)=w2:=⟨_,rfl⟩
   have Ht2:=Lib.hid ht2
   have Ha2:=Lib.hid ha2
   have Hr2:=Lib.hid hr2
   have Hb2:=Lib.hid hb2
   clear ht2 ha2 hr2 hb2
   go_wp2_with fail
   rw [hw2] at Ht2 Ha2 Hr2 Hb2
   clear hw2
   refine (build_one w1.heap.size w.heap.size 0 A m c w2.heap.size bs w2 Ht2.out Ha2.out Hr2.out (Nat.le_refl _) hm hmc).mono ?_
   rintro e w3 ⟨rfl,hk3,gl,cl,gb,hl,hgb⟩
   have c2:=hl.tree.lt
   have f2:=hl.tree.frozen 2
   have c2':w3.cell? ⟨w1.heap.size,2,none⟩=some (.int .i64 (-1)):=(hl.tree.cell 2).trans rfl
   have Hl:=Lib.hid hl
   have Hk3:=Lib.hid hk3
   clear hl hk3
   go_wp2_with fail
   go_ret
   have hset:∀b t cs,t≠226→Bk w3 b t cs→Bk (w3.setCell ⟨w1.heap.size,2,none⟩ (.int .i64 0)) b t cs:=fun b t cs ht h=>h.far (Bk.ne h Hl.out.tree ht) _
   obtain ⟨A',c',h5,h6⟩:=Hl.out.arena
   have hk3:Below w.heap.size w2 w3:=Hk3.out.to_below Hb2.out.size (fun b hb e=>by rcases e with e | e <;> omega)
   have hb4:Below w.heap.size w w3:=Hb2.out.trans hk3
   have hs2:=Hb2.out.size
   refine ⟨_,rfl,⟨_,0,hs1,Nat.le_refl _,.inr ⟨hne,by rw [Hbl.out];exact hm,gl,cl,gb,by omega,Hl.out.tree.set 2 _,own_mono (own_same Hl.out.row fun b cs _ h=>hset _ _ _ (by decide) h) hs2,hset _ _ _ (by decide) Hl.out.blk,A',c',hset _ _ _ (by decide) h5,(made_same h6 fun b cs h=>hset _ _ _ (by decide) h).mono hs2⟩⟩,?_⟩
   exact hb4.setCell hs1 _
end Go.Proofs.YtipaccakmndkgaaGreatDoor
namespace Go.Proofs.YtipaccakmndkgaaGreatDoor
open Go.RowKit
set_option linter.unusedVariables false
set_option linter.unusedSimpArgs false
def TabW (w:World):Prop:=TabAt 1 Lib.deBruijn64tab w
theorem TabW.below {B:Nat} {w w':World} (h:TabW w) (k:Below B w w') (hB:1 < B):TabW w':=fun j hj=>(k.cell (p:=⟨1,j,none⟩) hB).trans (h j hj)
theorem TabW.pos {w:World} (h:TabW w):1 < w.heap.size:=by
 have h0:=h 0 (by decide)
 rcases Nat.lt_or_ge 1 w.heap.size with e | e
 · exact e
 · exfalso
   have:w.heap[1]?=none:=Array.getElem?_eq_none e
   simp [World.cell?,this] at h0
theorem Tz_any (x p:Nat) (hx:x < 18446744073709551616) (hp:Lib.ctz 64 x=p) (w:World) (hT:TabW w):
 Calls Tryz.prog 292 #[.int .u64 (x:Int)] w fun e w'=>e=.returned (.int .i64 (p:Int))∧w'=w:=by
 have:=Any7.bits_TrailingZeros64 shTz x hx w (fun _=>hT)
 rw [hp] at this
 exact this
set_option maxRecDepth 100000 in
set_option maxHeartbeats 1000000 in
theorem BitsSelect_any (x p j:Nat) (hx:x < 18446744073709551616) (hp:x.testBit p=true) (hj:ones x p=j) (hj64:j < ones x 64) (w:World) (hT:TabW w) (hw:1 < w.heap.size):
 Calls Tryz.prog 276 #[.int .u64 (x:Int),.int .i64 (j:Int)] w fun e w'=>e=.returned (.int .i64 (p:Int))∧Below w.heap.size w w':=by
 have hctz:=clr_ctz (x:=x) hx hp hj
 have hpos:=fun i hi=>clr_pos (x:=x) hx hp (i:=i) hi
 rw [hj] at hpos
 have hle:=clr_le x
 have h64:=ones_le x 64
 have Hctz:=Lib.hid hctz
 have Hpos:=Lib.hid hpos
 have Hle:=Lib.hid hle
 have Hj64:=Lib.hid hj64
 have HT:=Lib.hid hT
 clear hctz hpos hle hp hj hT
 have g0:decide ((j:Int) < 0)=false:=by simp
 go_enter Tryz.func276,Tryz.ntmps276
 go_wp2_with fail
 refine (Count_any _ 1 1 _ [x] _ (Rd.made _ _ 1 1 _ rfl) (by simpa using hx) (by omega)).mono ?_
 rintro e W ⟨rfl,hW⟩
 have hbW:Below w.heap.size w W:=by first |(rw [hW];exact (Below.refl _ _).alloc (Nat.le_refl _) _)|(rw [←hW];exact (Below.refl _ _).alloc (Nat.le_refl _) _)
 have hsum:(([x].map fun x=>ones x 64).sum)=ones x 64:=by simp
 rw [hsum]
 obtain ⟨o,ho⟩:∃o,ones x 64=o:=⟨_,rfl⟩
 rw [ho] at hj64 h64⊢
 have g1:decide ((j:Int)≥(o:Int))=false:=by simp;omega
 clear hsum ho
 have HbW:=Lib.hid hbW
 clear hW hbW
 go_wp2_with fail
 go_loopw [0,15] (fun v i wr=>∃q:Nat,q≤j∧i=.int .i64 (q:Int)∧v=.int .u64 ((clr x q:Nat):Int)∧wr=W) (fun _ i _=>j -(intOf i).toNat)
 case atStart=>exact ⟨0,Nat.zero_le _,rfl,rfl,rfl⟩
 case round=>
  obtain ⟨q,hq,rfl,rfl,rfl⟩:=hrel
  by_cases hlt:q < j
  · have h0:=Hpos.out q (by omega)
    have hl:=Hle.out q
    have hs:clr x (q+1)=clr x q&&&(clr x q - 1):=rfl
    obtain ⟨y,hy⟩:∃y,clr x q=y:=⟨_,rfl⟩
    rw [hy] at h0 hl hs⊢
    obtain ⟨y1,hy1⟩:∃y1,y - 1=y1:=⟨_,rfl⟩
    rw [hy1] at hs
    have e1:IntKind.u64.wrap ((y:Int) - 1)=(y1:Int):=by rw [IntKind.wrap_u64];omega
    have e2:=and64 y y1 (by omega) (by omega)
    have Hs:=Lib.hid hs
    clear hy hy1 hs h0 hl
    go_wp2_with fail
    go_roundw
    case rel=>exact ⟨q+1,by omega,by go_num,by rw [Hs.out],by first | rfl | trivial⟩
    case measure=>simp [intOf];omega
  · obtain rfl:q=j:=by omega
    have hl:=Hle.out q
    have hc:=Hctz.out
    obtain ⟨y,hy⟩:∃y,clr x q=y:=⟨_,rfl⟩
    rw [hy] at hl hc⊢
    have hT:=HT.out.below HbW.out hw
    clear hy
    go_wp2_with fail
    refine (Tz_any y p (by omega) hc _ hT).mono ?_
    rintro e w2 ⟨rfl,rfl⟩
    go_wp2_with fail
    go_ret
    exact ⟨rfl,HbW.out⟩
theorem xor_all (y:Nat) (h:y < 18446744073709551616):18446744073709551615 ^^^ y=18446744073709551615 - y:=by
 have e1:18446744073709551615=2 ^ 64 - 1:=by decide
 have e2:18446744073709551615 - y=2 ^ 64 -(y+1):=by omega
 rw [e2,e1]
 apply Nat.eq_of_testBit_eq
 intro i
 rw [Nat.testBit_xor,Nat.testBit_two_pow_sub_one,Nat.testBit_two_pow_sub_succ h]
 by_cases hi:i < 64
 · simp [hi]
 · have:y.testBit i=false:=Nat.testBit_lt_two_pow (Nat.lt_of_lt_of_le (show y < 2 ^ 64 from h) (Nat.pow_le_pow_right (by decide) (show 64≤i by omega)))
   simp [hi,this]
theorem xor64 (y:Nat) (h:y < 18446744073709551616):bits .xor .u64 IntKind.u64.max (y:Int)=((wordB y false:Nat):Int):=by
 have e:IntKind.u64.max=((18446744073709551615:Nat):Int):=by decide
 rw [e,bits_xor_u64_nat _ _ (by omega) h]
 congr 1
 unfold wordB
 simp only [Bool.false_eq_true,if_false]
 exact xor_all y h
set_option maxRecDepth 100000 in
set_option maxHeartbeats 2000000 in
theorem BlockSelect_any (gb:Nat) (l:List Bool) (b:Bool) (p j:Nat) (w:World) (hb:Bk w gb 254 (blkC l)) (hl:l.length≤128) (hp:l[p]?=some b) (hj:(l.take p).count b=j) (hT:TabW w):
 Calls Tryz.prog 244 #[.pointer (some ⟨gb,0,none⟩),.int .i64 (j:Int),.bool b] w fun e w'=>e=.returned (.int .i64 (p:Int))∧Below w.heap.size w w':=by
 have hpl:=(List.getElem?_eq_some_iff.1 hp).1
 have hw:1 < w.heap.size:=hT.pos
 have hx0:=wordB_lt _ b (w0_lt l)
 have hx1:=wordB_lt _ b (w1_lt l hl)
 have hw0:=w0_lt l
 have hw1:=w1_lt l hl
 have c0:=hb.cell 0
 have c1:=hb.cell 1
 have c2:=hb.cell 2
 have g0:decide ((j:Int) < 0)=false:=by simp
 have hlen:p < l.length:=hpl
 have hsum:∀x:Nat,(([x].map fun x=>ones x 64).sum)=ones x 64:=fun x=>by simp
 obtain ⟨x0,ex0⟩:∃x,wordB (w0 l) b=x:=⟨_,rfl⟩
 obtain ⟨x1,ex1⟩:∃x,wordB (w1 l) b=x:=⟨_,rfl⟩
 unfold blkC at c0 c1 c2
 obtain ⟨y0,ey0⟩:∃x,w0 l=x:=⟨_,rfl⟩
 obtain ⟨y1,ey1⟩:∃x,w1 l=x:=⟨_,rfl⟩
 obtain ⟨N,hN⟩:∃n,l.length=n:=⟨_,rfl⟩
 have i0:=ix0 (y0:Int) (y1:Int)
 have i1:=ix1 (y0:Int) (y1:Int)
 rw [ex0] at hx0
 rw [ex1] at hx1
 rw [ey0] at hw0 ex0
 rw [ey1] at hw1 ex1
 rw [hN,ey0,ey1] at c0 c1 c2
 rw [hN] at hlen
 have HT:=Lib.hid hT
 replace c0:w.cell? ⟨gb,0,none⟩=some (.int .i64 (N:Int)):=c0.trans rfl
 have hlt:=hb.lt
 have C0:=Lib.hid c0
 have HN128:=Lib.hid hl
 have hjp:j≤p:=by rw [←hj];exact Nat.le_trans List.count_le_length (by rw [List.length_take];omega)
 have Hjp:=Lib.hid hjp
 clear hjp
 have hlo:=fun h=>sel_lo (b:=b) hl hp hj h
 have hhi:=fun h=>sel_hi (b:=b) hl hp hj h
 rw [ey0,ex0] at hlo hhi
 rw [ey1,ex1] at hhi
 obtain ⟨o0,ho0⟩:∃o,ones x0 64=o:=⟨_,rfl⟩
 obtain ⟨o1,ho1⟩:∃o,ones x1 64=o:=⟨_,rfl⟩
 obtain ⟨kk,hkk⟩:∃k,j - o0=k:=⟨_,rfl⟩
 have hhi':64≤p→o0≤j∧x1.testBit (p - 64)=true∧ones x1 (p - 64)=kk∧kk < o1:=fun h=>by
  obtain ⟨n,k,h1,h2,h3,h4,h5,h6⟩:=hhi h
  rw [ho0] at h1
  rw [ho1] at h6
  subst h1
  rw [hkk] at h3
  subst h3
  exact ⟨h2,h4,h5,h6⟩
 have hxx:b=false→bits .xor .u64 IntKind.u64.max (y0:Int)=(x0:Int)∧bits .xor .u64 IntKind.u64.max (y1:Int)=(x1:Int):=fun hf=>by
  rw [←ex0,←ex1,hf]
  exact ⟨xor64 y0 hw0,xor64 y1 hw1⟩
 have htt:b=true→x0=y0∧x1=y1:=fun hf=>by
  rw [←ex0,←ex1,hf]
  simp [wordB]
 have Hlo:=Lib.hid hlo
 have Hhi:=Lib.hid hhi'
 have Ho0:=Lib.hid ho0
 have Ho1:=Lib.hid ho1
 have Hkk:=Lib.hid hkk
 have HN:=Lib.hid hN
 have Hp:=Lib.hid hpl
 clear hlo hhi hhi' ho0 ho1 hkk hN hp hj hb hl hT ex0 ex1 ey0 ey1 hpl
 have Hxx:=Lib.hid hxx
 have Htt:=Lib.hid htt
 clear hxx htt
 cases b with
 | true=>
   replace Htt:=Htt.out rfl
   clear Hxx
   go_enter Tryz.func244,Tryz.ntmps244
   go_wp2_with fail
   go_loopw [1,21] (fun v i wr=>∃q:Nat,i=.int .i64 (q:Int)∧((q=0∧v=.int .i64 (j:Int))∨(q=1∧64≤p∧v=.int .i64 (kk:Int)))∧Below w.heap.size w wr) (fun _ i _=>2 -(intOf i).toNat)
   case atStart=>exact ⟨0,rfl,.inl ⟨rfl,rfl⟩,Below.refl _ _⟩
   case round=>
    obtain ⟨q,rfl,(⟨rfl,rfl⟩|⟨rfl,h64,rfl⟩),hbw⟩:=hrel
    all_goals
        obtain ⟨z0,z1⟩:=Htt
        subst z0
        subst z1
    · clear c1 c2 i1
      have hsz:=hbw.size
      have d0:=(hbw.cell (p:=⟨gb,0,none⟩) hlt).trans c0
      clear c0
      go_wp2_with fail
      refine (Count_any _ 1 1 _ [x0] _ (Rd.made _ _ 1 1 _ rfl) (by simpa using hx0) (by omega)).mono ?_
      rintro e W ⟨rfl,hW⟩
      have hbW:Below w.heap.size w W:=by first |(rw [hW];exact hbw.alloc hsz _)|(rw [←hW];exact hbw.alloc hsz _)
      rw [hsum,Ho0.out]
      have d1:=(hbW.cell (p:=⟨gb,0,none⟩) hlt).trans C0.out
      clear hW d0
      by_cases h:p < 64
      · obtain ⟨s1,s2,s3⟩:=Hlo.out h
        have s4:=s3
        rw [Ho0.out] at s4
        have g1:j < o0:=s4
        have e5:IntKind.i64.wrap (p:Int)=(p:Int):=by rw [IntKind.wrap_i64];omega
        have S1:=Lib.hid s1
        have S2:=Lib.hid s2
        have S3:=Lib.hid s3
        clear s1 s2 s3 s4
        go_wp2_with fail
        refine (BitsSelect_any x0 p j hx0 S1.out S2.out S3.out _ (HT.out.below hbW hw) (Nat.lt_of_lt_of_le hw hbW.size)).mono ?_
        rintro e W2 ⟨rfl,hb2⟩
        have hbW2:=hbW.trans (hb2.mono hbW.size)
        have d2:=(hbW2.cell (p:=⟨gb,0,none⟩) hlt).trans C0.out
        clear d1
        go_wp2_with fail
        go_ret
        exact ⟨rfl,hbW2⟩
      · obtain ⟨s0,s1,s2,s3⟩:=Hhi.out (by omega)
        have g1:¬j < o0:=by omega
        have g2:decide (j < o0)=false:=decide_eq_false g1
        have e5:IntKind.i64.wrap ((j:Int) -(o0:Int))=(kk:Int):=by have:=Hkk.out;have h3:=HN128.out;have h4:=Hjp.out;have h5:=Hp.out;rw [IntKind.wrap_i64];omega
        clear s0 s1 s2 s3
        go_wp2_with fail
        go_roundw
        case rel=>exact ⟨1,by go_num,.inr ⟨by first | rfl | trivial,by omega,by go_num⟩,hbW⟩
        case measure=>simp [intOf]
    · clear c1 c2 i0
      have hsz:=hbw.size
      have d0:=(hbw.cell (p:=⟨gb,0,none⟩) hlt).trans c0
      clear c0
      go_wp2_with fail
      refine (Count_any _ 1 1 _ [x1] _ (Rd.made _ _ 1 1 _ rfl) (by simpa using hx1) (by omega)).mono ?_
      rintro e W ⟨rfl,hW⟩
      have hbW:Below w.heap.size w W:=by first |(rw [hW];exact hbw.alloc hsz _)|(rw [←hW];exact hbw.alloc hsz _)
      rw [hsum,Ho1.out]
      have d1:=(hbW.cell (p:=⟨gb,0,none⟩) hlt).trans C0.out
      clear hW d0
      obtain ⟨s0,s1,s2,s3⟩:=Hhi.out h64
      have s4:=s3
      rw [←Ho1.out] at s3
      have g1:kk < o1:=s4
      have e5:IntKind.i64.wrap (64+((p - 64:Nat):Int))=(p:Int):=by have h3:=HN128.out;have h4:=Hp.out;rw [IntKind.wrap_i64];omega
      obtain ⟨pp,hpp⟩:∃x,p - 64=x:=⟨_,rfl⟩
      rw [hpp] at e5 s1 s2
      have S1:=Lib.hid s1
      have S2:=Lib.hid s2
      have S3:=Lib.hid s3
      clear s0 s1 s2 s3 s4 hpp h64
      go_wp2_with fail
      refine (BitsSelect_any x1 pp kk hx1 S1.out S2.out S3.out _ (HT.out.below hbW hw) (Nat.lt_of_lt_of_le hw hbW.size)).mono ?_
      rintro e W2 ⟨rfl,hb2⟩
      have hbW2:=hbW.trans (hb2.mono hbW.size)
      have d2:=(hbW2.cell (p:=⟨gb,0,none⟩) hlt).trans C0.out
      clear d1
      go_wp2_with fail
      go_ret
      exact ⟨rfl,hbW2⟩
 | false=>
   replace Hxx:=Hxx.out rfl
   clear Htt
   go_enter Tryz.func244,Tryz.ntmps244
   go_wp2_with fail
   go_loopw [1,21] (fun v i wr=>∃q:Nat,i=.int .i64 (q:Int)∧((q=0∧v=.int .i64 (j:Int))∨(q=1∧64≤p∧v=.int .i64 (kk:Int)))∧Below w.heap.size w wr) (fun _ i _=>2 -(intOf i).toNat)
   case atStart=>exact ⟨0,rfl,.inl ⟨rfl,rfl⟩,Below.refl _ _⟩
   case round=>
    obtain ⟨q,rfl,(⟨rfl,rfl⟩|⟨rfl,h64,rfl⟩),hbw⟩:=hrel
    all_goals
        obtain ⟨z0,z1⟩:=Hxx
    · clear c1 c2 i1
      have hsz:=hbw.size
      have d0:=(hbw.cell (p:=⟨gb,0,none⟩) hlt).trans c0
      clear c0
      go_wp2_with fail
      refine (Count_any _ 1 1 _ [x0] _ (Rd.made _ _ 1 1 _ rfl) (by simpa using hx0) (by omega)).mono ?_
      rintro e W ⟨rfl,hW⟩
      have hbW:Below w.heap.size w W:=by first |(rw [hW];exact hbw.alloc hsz _)|(rw [←hW];exact hbw.alloc hsz _)
      rw [hsum,Ho0.out]
      have d1:=(hbW.cell (p:=⟨gb,0,none⟩) hlt).trans C0.out
      clear hW d0
      by_cases h:p < 64
      · obtain ⟨s1,s2,s3⟩:=Hlo.out h
        have s4:=s3
        rw [Ho0.out] at s4
        have g1:j < o0:=s4
        have e5:IntKind.i64.wrap (p:Int)=(p:Int):=by rw [IntKind.wrap_i64];omega
        have S1:=Lib.hid s1
        have S2:=Lib.hid s2
        have S3:=Lib.hid s3
        clear s1 s2 s3 s4
        go_wp2_with fail
        refine (BitsSelect_any x0 p j hx0 S1.out S2.out S3.out _ (HT.out.below hbW hw) (Nat.lt_of_lt_of_le hw hbW.size)).mono ?_
        rintro e W2 ⟨rfl,hb2⟩
        have hbW2:=hbW.trans (hb2.mono hbW.size)
        have d2:=(hbW2.cell (p:=⟨gb,0,none⟩) hlt).trans C0.out
        clear d1
        go_wp2_with fail
        go_ret
        exact ⟨rfl,hbW2⟩
      · obtain ⟨s0,s1,s2,s3⟩:=Hhi.out (by omega)
        have g1:¬j < o0:=by omega
        have g2:decide (j < o0)=false:=decide_eq_false g1
        have e5:IntKind.i64.wrap ((j:Int) -(o0:Int))=(kk:Int):=by have:=Hkk.out;have h3:=HN128.out;have h4:=Hjp.out;have h5:=Hp.out;rw [IntKind.wrap_i64];omega
        clear s0 s1 s2 s3
        go_wp2_with fail
        go_roundw
        case rel=>exact ⟨1,by go_num,.inr ⟨by first | rfl | trivial,by omega,by go_num⟩,hbW⟩
        case measure=>simp [intOf]
    · clear c1 c2 i0
      have hsz:=hbw.size
      have d0:=(hbw.cell (p:=⟨gb,0,none⟩) hlt).trans c0
      clear c0
      go_wp2_with fail
      refine (Count_any _ 1 1 _ [x1] _ (Rd.made _ _ 1 1 _ rfl) (by simpa using hx1) (by omega)).mono ?_
      rintro e W ⟨rfl,hW⟩
      have hbW:Below w.heap.size w W:=by first |(rw [hW];exact hbw.alloc hsz _)|(rw [←hW];exact hbw.alloc hsz _)
      rw [hsum,Ho1.out]
      have d1:=(hbW.cell (p:=⟨gb,0,none⟩) hlt).trans C0.out
      clear hW d0
      obtain ⟨s0,s1,s2,s3⟩:=Hhi.out h64
      have s4:=s3
      rw [←Ho1.out] at s3
      have g1:kk < o1:=s4
      have e5:IntKind.i64.wrap (64+((p - 64:Nat):Int))=(p:Int):=by have h3:=HN128.out;have h4:=Hp.out;rw [IntKind.wrap_i64];omega
      obtain ⟨pp,hpp⟩:∃x,p - 64=x:=⟨_,rfl⟩
      rw [hpp] at e5 s1 s2
      have S1:=Lib.hid s1
      have S2:=Lib.hid s2
      have S3:=Lib.hid s3
      clear s0 s1 s2 s3 s4 hpp h64
      go_wp2_with fail
      refine (BitsSelect_any x1 pp kk hx1 S1.out S2.out S3.out _ (HT.out.below hbW hw) (Nat.lt_of_lt_of_le hw hbW.size)).mono ?_
      rintro e W2 ⟨rfl,hb2⟩
      have hbW2:=hbW.trans (hb2.mono hbW.size)
      have d2:=(hbW2.cell (p:=⟨gb,0,none⟩) hlt).trans C0.out
      clear d1
      go_wp2_with fail
      go_ret
      exact ⟨rfl,hbW2⟩
end Go.Proofs.YtipaccakmndkgaaGreatDoor
