/- Lemmas of the walk. Conditions: each its own. -/
import Derived.Test.YtcfpmjbojoidoaaGreatDoorPd1
import Derived.Test.YtcfpmjbojoidoaaGreatDoorProg
set_option linter.all false
set_option maxRecDepth 100000
set_option maxHeartbeats 1000000
namespace Go.Proofs.YtcfpmjbojoidoaaGreatDoor
open Tryz
section
open Go.RowKit
def aA {w w':World} {g:Nat} {b:TypeId} {o n:Nat} {f:Value} {p:List Value} (l:w.ownsRow g b o f n p) (v:∀e i,f.ownBlock=some e->Bk w e b i->Bk w' e b i):w'.ownsRow g b o f n p:=by
 refine ⟨l.1,?_⟩;rcases l.2 with c |⟨k,q,j,c,r,s,u⟩;exact .inl c;exact .inr ⟨k,q,j,c,r,v k j (by rw [c];rfl) s,u⟩
def mZ {w f:World} {j:Nat} {e:TypeId} {o n k:Nat} {i:Option Addr} {p:List Value} (g:Made w j e o i n k p) (q:∀b c,Bk w b e c->Bk f b e c):Made f j e o i n k p:=by
 have l:=aA (w':=f) g.own fun b c _=>q b c;exact ⟨l,Rd.of_own l,g.cap,g.max⟩
structure VisF (F:Nat->Prop) (w w':World):Prop where
 os:w'.os=w.os
 tape:w'.tape=w.tape
 output:w'.output=w.output
 size:w.heap.size<=w'.heap.size
 block:∀b,b < w.heap.size->¬F b->w'.heap[b]?=w.heap[b]?∨(∃cs v,Bk w b 261 cs/\Bk w' b 261 (cs.setIfInBounds 3 (.int .i64 v)))∨(∃cs v,Bk w b 201 cs/\Bk w' b 201 (cs.setIfInBounds 10 (.int .i64 v)))
abbrev Vis:World->World->Prop:=VisF (fun _=>False)
def Vis.refl (w:World):Vis w w:=⟨rfl,rfl,rfl,zAs _,fun _ _ _=>.inl rfl⟩
def VisF.of_vis {e:Nat->Prop} {w c:World} (b:Vis w c):VisF e w c:=⟨b.os,b.tape,b.output,b.size,fun f g _=>b.block f g (fun i=>i)⟩
def VisF.of_keep {c:Nat->Prop} {w e:World} (b:Keep c w e):VisF c w e:=⟨b.os,b.tape,b.output,b.size,fun f g i=>.inl (b.block f g i)⟩
def VisF.to_vis {e:Nat->Prop} {w g:World} (c:VisF e w g) (i:∀b,b < w.heap.size->¬e b):Vis w g:=⟨c.os,c.tape,c.output,c.size,fun b f _=>c.block b f (i b f)⟩
def set_set (c:Array Value) (b:Nat) (f e:Value):(c.setIfInBounds b f).setIfInBounds b e=c.setIfInBounds b e:=by
 apply Array.ext
 · simp
 · intro j g i;simp [Array.getElem_setIfInBounds]
def aK {w:World} {f:Nat} {t i:TypeId} {c e:Array Value} (g:Bk w f t c) (b:Bk w f i e):t=i/\c=e:=by
 unfold Bk at g b;rw [g] at b;injection b with b;injection b with h1 h2;exact ⟨h2,h1⟩
def VisF.trans {F:Nat->Prop} {w w1 r:World} (g:VisF F w w1) (j:VisF F w1 r):VisF F w r:=by
 refine ⟨j.os.trans g.os,j.tape.trans g.tape,j.output.trans g.output,zAk g.size j.size,fun l p q=>?_⟩;have s:l < w1.heap.size:=zAl p g.size;rcases g.block l p q with c |⟨i,o,c,e⟩|⟨i,o,c,e⟩<;> rcases j.block l s q with b |⟨n,k,b,f⟩|⟨n,k,b,f⟩;exact .inl (b.trans c);exact .inr (.inl ⟨n,k,c.symm.trans b,f⟩);exact .inr (.inr ⟨n,k,c.symm.trans b,f⟩);exact .inr (.inl ⟨i,o,c,b.trans e⟩);obtain ⟨_,rfl⟩:=aK e b;rw [set_set] at f;exact .inr (.inl ⟨i,k,c,f⟩);exact absurd (aK e b).1 dC;exact .inr (.inr ⟨i,o,c,b.trans e⟩);exact absurd (aK e b).1 dC;obtain ⟨_,rfl⟩:=aK e b;rw [set_set] at f;exact .inr (.inr ⟨i,k,c,f⟩)
def Vis.trans {w w1 b:World} (c:Vis w w1) (e:Vis w1 b):Vis w b:=VisF.trans c e
def Vis.of_below {w c:World} (b:Below w.heap.size w c):Vis w c:=⟨b.os,b.tape,b.output,b.size,fun e f _=>.inl (b.block e f)⟩
def Vis.set_tree {w:World} {b:Nat} {e:Array Value} (g:Bk w b 261 e) (i:Int):Vis w (w.setCell ⟨b,3,none⟩ (.int .i64 i)):=by
 refine ⟨rfl,rfl,rfl,by simp [World.setCell],fun c k _=>?_⟩;by_cases f:c=b;subst f;exact .inr (.inl ⟨e,i,g,g.set 3 _⟩);exact .inl (heap_setCell_other w ⟨b,3,none⟩ c _ (fun j=>f j))
def Vis.set_wave {w:World} {b:Nat} {e:Array Value} (g:Bk w b 201 e) (i:Int):Vis w (w.setCell ⟨b,10,none⟩ (.int .i64 i)):=by
 refine ⟨rfl,rfl,rfl,by simp [World.setCell],fun c k _=>?_⟩;by_cases f:c=b;subst f;exact .inr (.inr ⟨e,i,g,g.set 10 _⟩);exact .inl (heap_setCell_other w ⟨b,10,none⟩ c _ (fun j=>f j))
def VisF.put {F:Nat->Prop} {w w1:World} (c:VisF F w w1) {p:Addr} (e:F p.block∨w.heap.size<=p.block) (k:Value):VisF F w (w1.setCell p k):=by
 refine ⟨c.os,c.tape,c.output,by simpa [World.setCell] using c.size,fun f o n=>?_⟩;have i:(w1.setCell p k).heap[f]?=w1.heap[f]?:=heap_setCell_other w1 p f k (fun q=>by
  rcases e with e | e;rw [<-q] at e;exact n e
  · omega)
 rcases c.block f o n with b |⟨g,l,b,j⟩|⟨g,l,b,j⟩;exact .inl (i.trans b);exact .inr (.inl ⟨g,l,b,i.trans j⟩);exact .inr (.inr ⟨g,l,b,i.trans j⟩)
def Vis.fresh {w w1:World} (c:Vis w w1) {p:Addr} (e:w.heap.size<=p.block) (b:Value):Vis w (w1.setCell p b):=VisF.put c (.inr e) b
def Vis.alloc {w w1:World} (b:Vis w w1) (c:Obj):Vis w (w1.alloc c):=b.trans (Vis.of_below (bR.alloc nL _))
def Vis.below {w w1 b:World} (c:Vis w w1) (e:Below w1.heap.size w1 b):Vis w b:=c.trans (Vis.of_below e)
def VisF.bk {f:Nat->Prop} {w i:World} {c:Nat} {t:TypeId} {g:Array Value} (l:VisF f w i) (e:Bk w c t g) (n:t≠261) (o:t≠201) (p:¬f c):Bk i c t g:=by
 rcases l.block c e.lt p with b |⟨j,q,b,k⟩|⟨j,q,b,k⟩;exact b.trans e;exact absurd (aK e b).1 n;exact absurd (aK e b).1 o
def VisF.tree {g:Nat->Prop} {w n:World} {c:Nat} {a i j:Value} {l:Int} (p:VisF g w n) (e:Bk w c 261 #[a,i,j,.int .i64 l]) (q:¬g c):∃f,Bk n c 261 #[a,i,j,.int .i64 f]:=by
 rcases p.block c e.lt q with b |⟨o,f,b,k⟩|⟨o,f,b,k⟩;exact ⟨l,b.trans e⟩;obtain ⟨_,rfl⟩:=aK e b;exact ⟨f,k⟩;exact absurd (aK e b).1 dC
def VisF.wave {j:Nat->Prop} {w i:World} {c:Nat} {g:Array Value} (n:VisF j w i) (e:Bk w c 201 g) (o:¬j c):Bk i c 201 g∨∃f,Bk i c 201 (g.setIfInBounds 10 (.int .i64 f)):=by
 rcases n.block c e.lt o with b |⟨l,f,b,k⟩|⟨l,f,b,k⟩;exact .inl (b.trans e);exact absurd (aK e b).1 dC;obtain ⟨_,rfl⟩:=aK e b;exact .inr ⟨f,k⟩
def Vis.bk {w e:World} {c:Nat} {t:TypeId} {b:Array Value} (f:Vis w e) (j:Bk w c t b) (g:t≠261) (i:t≠201):Bk e c t b:=VisF.bk f j g i (fun k=>k)
def Vis.tree {w f:World} {e:Nat} {a b c:Value} {j:Int} (g:Vis w f) (i:Bk w e 261 #[a,b,c,.int .i64 j]):∃k,Bk f e 261 #[a,b,c,.int .i64 k]:=VisF.tree g i (fun l=>l)
def Vis.wave {w e:World} {c:Nat} {b:Array Value} (f:Vis w e) (g:Bk w c 201 b):Bk e c 201 b∨∃i,Bk e c 201 (b.setIfInBounds 10 (.int .i64 i)):=VisF.wave f g (fun j=>j)
def VisK (c:Nat->Prop) (w b:World):Prop:=Vis w b/\Keep c w b
def VisK.refl (b:Nat->Prop) (w:World):VisK b w w:=⟨Vis.refl w,Keep.refl b w⟩
def vR {b:Nat->Prop} {w:World}:VisK b w w:=VisK.refl b w
def VisK.trans {F:Nat->Prop} {w w1 e:World} (b:VisK F w w1) (c:VisK F w1 e):VisK F w e:=⟨b.1.trans c.1,b.2.trans c.2⟩
def VisK.below {b:Nat->Prop} {w w1 f:World} (c:VisK b w w1) (e:Below w1.heap.size w1 f):VisK b w f:=⟨c.1.trans (Vis.of_below e),c.2.trans (Keep.of_below e)⟩
def VisK.of_below {F:Nat->Prop} {w b:World} (c:Below w.heap.size w b):VisK F w b:=(VisK.refl F w).below c
def VisK.alloc {b:Nat->Prop} {w w1:World} (c:VisK b w w1) (e:Obj):VisK b w (w1.alloc e):=c.below (bR.alloc nL _)
def VisK.set_tree {w:World} {b:Nat} {f:Array Value} (g:Bk w b 261 f) (e:Int):VisK (fun c=>c=b) w (w.setCell ⟨b,3,none⟩ (.int .i64 e)):=⟨Vis.set_tree g e,Keep.setCell (F:=fun c=>c=b) (Keep.refl _ _) (p:=⟨b,3,none⟩) (.inl rfl) _⟩
def VisK.mono {F G:Nat->Prop} {w e:World} (c:VisK F w e) (f:∀b,F b->G b):VisK G w e:=⟨c.1,c.2.mono fun b _=>f b⟩
def Vis.own {w i:World} {c:Nat} {b:TypeId} {f e:Nat} {g:Value} {j:List Value} (p:Vis w i) (k:w.ownsRow c b f g e j) (l:b≠261) (n:b≠201):i.ownsRow c b f g e j:=
 aA k fun q r _ o=>p.bk o l n
def Vis.made {w j:World} {e:Nat} {b:TypeId} {i g f:Nat} {c:Option Addr} {k:List Value} (q:Vis w j) (l:Made w e b i c g f k) (n:b≠261) (o:b≠201):Made j e b i c g f k:=
 mZ l fun r s p=>q.bk p n o
def RdT (w:World) (t:TypeId) (k:Option Addr) (f:Nat) (j:List Value):Prop:=
 j.length=f/\(0 < f->∃b g c,k=some ⟨b,g,none⟩/\Bk w b t c/\∀e i,j[e]?=some i->c[g+e]?=some i)
def RdT.rd {w:World} {t:TypeId} {b:Option Addr} {f:Nat} {g:List Value} (c:RdT w t b f g):Rd w w.heap.size 1 b f g:=by
 refine ⟨by rw [c.1,zBl],fun l=>?_⟩;obtain ⟨i,p,r,j,e,k⟩:=c.2 l;exact ⟨i,p,j,e.lt,fun o q n=>(e.cell _).trans (k o q n)⟩
def RdT.same {w w':World} {t:TypeId} {e:Option Addr} {g:Nat} {i:List Value} (f:RdT w t e g i) (o:∀b c,Bk w b t c->Bk w' b t c):RdT w' t e g i:=by
 refine ⟨f.1,fun n=>?_⟩;obtain ⟨b,p,c,j,k,l⟩:=f.2 n;exact ⟨b,p,c,j,o b c k,l⟩
def sv (b:Nat):Value:=.int .i64 (b:Int)
def iA:(prog.info? 3).map (fun b=>(b.zero,b.size,b.bytes))=some (some (.int .i64 0),1,8):=by kernel_rfl
structure LeafV (w:World) (B gt ga gl cl gb:Nat) (rt v:Int) (bs:List Bool):Prop where
 tree:Bk w gt 261 #[ga,.slice (some gl) 1 cl,.int .i64 rt,.int .i64 v]
 row:RowS B gl cl gb (bs.length:Int) ((bs.count true:Nat):Int) w
 blk:Bk w gb 292 (gK bs)
def Leaf.toV {w:World} {n j f i e g:Nat} {k l:Int} {c:List Bool} (b:Leaf w n j f i e g k l c):LeafV w 0 j f i e g k l c:=⟨b.tree,bV b.row (zAp _),b.blk⟩
def LeafV.vis {w w':World} {f n j l i k:Nat} {o q:Int} {g:List Bool} (b:LeafV w f n j l i k o q g) (c:Vis w w'):∃e,LeafV w' f n j l i k o e g:=by
 obtain ⟨e,p⟩:=c.tree b.tree;exact ⟨e,p,c.own b.row dC dC,c.bk b.blk dC dC⟩
def TreeAt (w:World) (e:Nat) (b:List Bool):Prop:=
 ∃(c:Nat) (f:Int),(b= []/\∃k,Bk w e 261 #[c,k,.int .i64 (-1),.int .i64 f])∨(b≠ []/\b.length<=128/\∃j g i,LeafV w 0 e c j g i 0 f b)
def TreeAt.vis {w w':World} {j:Nat} {g:List Bool} (p:TreeAt w j g) (k:Vis w w'):TreeAt w' j g:=by
 obtain ⟨i,s,⟨b,r,c⟩|⟨b,c,o,l,n,q⟩⟩:=p;obtain ⟨f,e⟩:=k.tree c;exact ⟨i,f,.inl ⟨b,r,e⟩⟩;obtain ⟨f,e⟩:=q.vis k;exact ⟨i,f,.inr ⟨b,c,o,l,n,e⟩⟩
def TreeAt.same {w w':World} {l:Nat} {j:List Bool} (r:TreeAt w l j) (b:∀c t e,t∈ [261,150,271,292,4]->Bk w c t e->Bk w' c t e):TreeAt w' l j:=by
 obtain ⟨k,n,⟨f,u,g⟩|⟨f,g,q,o,p,i⟩⟩:=r;exact ⟨k,n,.inl ⟨f,u,b _ _ _ dC g⟩⟩;exact ⟨k,n,.inr ⟨f,g,q,o,p,b _ _ _ dC i.tree,aA i.row fun c e _ s=>b _ _ _ dC s,b _ _ _ dC i.blk⟩⟩
def TreeAt.below {w f:World} {c:Nat} {b:List Bool} (g:TreeAt w c b) (i:Below w.heap.size w f):TreeAt f c b:=g.same fun j t k _ e=>e.below i e.lt
def TreeAt.lt {w:World} {b:Nat} {e:List Bool} (f:TreeAt w b e):b < w.heap.size:=by
 obtain ⟨k,o,⟨g,p,c⟩|⟨g,c,n,j,l,i⟩⟩:=f;exact c.lt;exact i.tree.lt
def TreeB (w:World) (b f:Nat) (c:List Bool):Prop:=
 ∃(e:Nat) (i:Int),b<=f/\b<=e/\((c= []/\Bk w f 261 #[e,.slice none 0 0,.int .i64 (-1),.int .i64 i]/\Bk w e 150 #[.slice none 0 0,.slice none 0 0,.int .i64 268435456])∨(c≠ []/\c.length<=128/\∃k j g,b<=g/\Leaf w b f e k j g 0 i c))
def TreeB.at {w:World} {k g:Nat} {e:List Bool} (p:TreeB w k g e):TreeAt w g e:=by
 obtain ⟨f,j,_,_,⟨b,c,i⟩|⟨b,c,o,l,n,_,i⟩⟩:=p;exact ⟨f,j,.inl ⟨b,_,c⟩⟩;exact ⟨f,j,.inr ⟨b,c,o,l,n,i.toV⟩⟩
def TreeB.keep {w s:World} {F:Nat->Prop} {g o:Nat} {l:List Bool} (A:TreeB w g o l) (e:Keep F w s) (c:∀k,F k->k < g):TreeB s g o l:=by
 obtain ⟨n,r,p,q,⟨i,j,f⟩|⟨i,j,z,x,y,D,f⟩⟩:=A;exact ⟨n,r,p,q,.inl ⟨i,e.bk j (fun b=>by have:=c _ b;omega),e.bk f (fun b=>by have:=c _ b;omega)⟩⟩;obtain ⟨u,v,B,C⟩:=f.arena;exact ⟨n,r,p,q,.inr ⟨i,j,z,x,y,D,e.bk f.tree (fun b=>by have:=c _ b;omega),rR f.row e c,e.bk f.blk (fun b=>by have:=c _ b;omega),u,v,e.bk B (fun b=>by have:=c _ b;omega),C.keepF e c⟩⟩
def TreeB.below {w e:World} {B c:Nat} {b:List Bool} (g:TreeB w B c b) (i:Below w.heap.size w e):TreeB e B c b:=g.keep (F:=fun _=>False) (Keep.of_below i) (fun _ f=>f.elim)
def TreeB.mono {w:World} {B B' i:Nat} {f:List Bool} (o:TreeB w B i f) (p:B'<=B):TreeB w B' i f:=by
 obtain ⟨g,j,q,r,⟨b,c,e⟩|⟨b,c,n,k,l,s,e⟩⟩:=o;exact ⟨g,j,by omega,by omega,.inl ⟨b,c,e⟩⟩;exact ⟨g,j,by omega,by omega,.inr ⟨b,c,n,k,l,by omega,e.mono p⟩⟩
def LeafV.cells {w:World} {o e j b i k:Nat} {l n:Int} {g:List Bool} (f:LeafV w o e j b i k l n g):
 w.cell? e=some (.pointer (some j))/\w.cell? ⟨e,1,none⟩=some (.slice (some b) 1 i)/\w.cell? ⟨e,2,none⟩=some (.int .i64 l)/\w.cell? ⟨e,3,none⟩=some (.int .i64 n)/\
 w.cell? b=some (.int .i64 (-1))/\w.cell? ⟨b,1,none⟩=some (.int .i64 (-1))/\w.cell? ⟨b,2,none⟩=some (.int .i64 0)/\w.cell? ⟨b,3,none⟩=some (.int .i64 (g.length:Int))/\w.cell? ⟨b,4,none⟩=some (.int .i64 ((g.count true:Nat):Int))/\w.cell? ⟨b,5,none⟩=some (.int .i64 0)/\w.cell? ⟨b,6,none⟩=some (.int .i64 0)/\w.cell? ⟨b,7,none⟩=some (.pointer (some k)):=by
 have c:=fun q p=>World.ownsRow.cellAt f.row q p;exact ⟨(f.tree.cell 0).trans rfl,(f.tree.cell 1).trans rfl,(f.tree.cell 2).trans rfl,(f.tree.cell 3).trans rfl,(c 0 oM).trans rfl,(c 1 oM).trans rfl,(c 2 oM).trans rfl,(c 3 oM).trans rfl,(c 4 oM).trans rfl,(c 5 oM).trans rfl,(c 6 oM).trans rfl,(c 7 oM).trans rfl⟩
def fT (b:Nat) (e:List Bool) (w:World) (j:TreeAt w b e):
 Calls prog 195 #[b] w fun i k=>i=.returned (.int .i64 (e.length:Int))/\Below w.heap.size w k:=by
 obtain ⟨A,E,⟨rfl,F,c⟩|⟨D,c,C,p,B,f⟩⟩:=j
 · have g:w.cell? ⟨b,2,none⟩=some (.int .i64 (-1)):=(c.cell 2).trans rfl;clear c;go_enter func195,ntmps195;go_wp2;go_ret;exact ⟨rfl,Below.refl _ _⟩
 · obtain ⟨l,n,g,o,q,r,s,u,v,x,y,z⟩:=f.cells;clear f;go_enter func195,ntmps195;go_wp2;go_quiet (fail);go_wp2;go_ret;exact ⟨rfl,⟨rfl,rfl,rfl,zAs _,fun _ _=>rfl⟩⟩
def TreeAt.visits {w:World} {c:Nat} {f:List Bool} (g:TreeAt w c f):∃b,w.cell? ⟨c,3,none⟩=some (.int .i64 b):=by
 obtain ⟨k,b,⟨rfl,p,e⟩|⟨o,e,n,j,l,i⟩⟩:=g;exact ⟨b,(e.cell 3).trans rfl⟩;exact ⟨b,i.cells.2.2.2.1⟩
def eW (b:Nat) (c:Int) (w:World) (g:w.cell? ⟨b,3,none⟩=some (.int .i64 c)):
 Calls prog 249 #[b] w fun e f=>e=.returned (.int .i64 c)/\Below w.heap.size w f:=by
 go_enter func249,ntmps249;go_wp2;go_ret;exact ⟨rfl,Below.refl _ _⟩
def uU (b c:Nat) (e:Bool) (w:World) (i:b<=128) (j:c<=b):
 Calls prog 260 #[(b:Int),(c:Int),.bool e] w fun f g=>f=.returned (.int .i64 ((if e then c else b - c:Nat):Int))/\Below w.heap.size w g:=by
 cases e
 · go_enter func260,ntmps260;go_wp2;go_ret;exact ⟨eR oM,Below.refl _ _⟩
 · go_enter func260,ntmps260;go_wp2;go_ret;exact ⟨eR (by simp),Below.refl _ _⟩
def oO (b:List Bool):b.count true+b.count false=b.length:=by
 induction b with
 | nil=>rfl
 | cons c b e=>cases c <;> simp <;> omega
def aAK (g:Nat) (c:List Bool) (b:Nat) (e:Bool) (w:World) (j:TreeAt w g c) (Q:b<=c.length):
 Calls prog 253 #[g,(b:Int),.bool e] w fun r ab=>r=.returned (.int .i64 (((c.take b).count e:Nat):Int))/\VisK (fun e=>e=g) w ab:=by
 have O:c.length<=128:=by
  obtain ⟨J,A,⟨rfl,aa,i⟩|⟨k,i,L⟩⟩:=j
  · simp
  exact i
 have a8:∃q,Bk w g 261 q/\3 < q.size:=by obtain ⟨J,A,⟨rfl,aa,i⟩|⟨k,i,K,a1,u,L⟩⟩:=j;exact ⟨_,i,by simp⟩;exact ⟨_,L.tree,by simp⟩
 obtain ⟨q,n,a3⟩:=a8;have y:=VisK.set_tree n 0;have T:=j.vis y.1;have au:=n.lt;have H:w.cell? ⟨g,3,none⟩=some q[3]:=by rw [n.cell 3];simp [a3]
 have I:=n.frozen 3;have az:max (b:Int) 0=(b:Int):=oM;have aA:min (b:Int) (c.length:Int)=(b:Int):=oM;obtain ⟨C,F,Z,G⟩:=hqq4 y j O T;obtain ⟨ag,M⟩:=eqx c.length;obtain ⟨Y,o⟩:=hqq2 M Q;clear j O y T n M Q;go_enter func253,ntmps253;go_wp2_with fail;clear H I;refine (fT g c _ G.out).mono ?_;rintro r ac ⟨rfl,l⟩;have z:=C.out.below l;have U:=F.out.vis z.1;obtain ⟨D,a0⟩:=hqq2 z U;clear z U C G l F;rcases zBa b with R | R
 · subst R;go_wp2_with fail;go_ret;exact ⟨rfl,D.out⟩
 · have ax:¬((b:Int)=0):=oM;obtain ⟨J,A,⟨v,_,_⟩|⟨v,l,K,a1,u,f⟩⟩:=a0.out;have k:=o.out;rw [v] at k;simp at k;omega;obtain ⟨ah,ai,aj,H,ak,al,am,an,ao,ap,aq,ar⟩:=f.cells;have ay:=f.row.lt;have av:=f.tree.lt;have aw:g≠K:=f.row.bk_ne f.tree dC;have I:=f.tree.frozen 3;obtain ⟨p,X⟩:=hqq2 f l;clear f l v;go_wp2_with fail;go_loopw [1,7,8] (fun ad ae af wr=>ad=.int .i64 (b:Int)/\ae=.int .i64 0/\af=.int .i64 0/\wr=ac) (fun _ _ _ _=>0)
   case atStart=>exact ⟨rfl,rfl,rfl,rfl⟩
   case round=>obtain ⟨rfl,rfl,rfl,rfl⟩:=hrel;go_wp2_with fail;have a5:=Bk.ne p.out.blk p.out.tree dC;have V:=(VisK.set_tree p.out.tree (wrap64 (A+1))).alloc (.cells #[.int .i64 (-1),.int .i64 (-1),.int .i64 0,(c.length:Int),.int .i64 ((c.count true:Nat):Int),.int .i64 0,.int .i64 0,u] 271);refine (yG u c b _ ((p.out.blk.far a5 _).alloc _) X.out (by rw [Y.out] at*;exact o.out)).mono ?_;rintro r aC ⟨rfl,N⟩;have W:=(D.out.trans V).below N;obtain ⟨s,x⟩:=eqx (List.count true (List.take b c));have a7:s<=b:=(by rw [<-x];exact zAk zBv (by rw [zAj];omega));have P:(if e then s else b - s)=(c.take b).count e:=(by have k:=oO (c.take b);have i:(c.take b).length=b:=(by rw [zAj];have:=o.out;omega);cases e;simp;omega;simp;omega);rw [x];obtain ⟨B,E⟩:=hqq2 P W;have a6:b<=128:=zAk o.out Z.out;clear x P V N W;go_wp2_with fail;refine (uU b s e _ a6 a7).mono ?_;rintro r aD ⟨rfl,a2⟩;rw [B.out];have a9:=E.out.below a2;have a4:(c.take b).count e<=128:=zAk zBv (by rw [zAj];omega);obtain ⟨aB,S⟩:=eqx (List.count e (List.take b c));rw [S] at a4⊢;clear B E;go_wp2_with fail;go_ret;exact ⟨eR (by rw [S] <;> omega),a9⟩
def jU (w:World) (b:Nat) (c:TypeId) (e:Nat):w.ownsRow b c e (.slice none 0 0) 0 []:=World.ownsRow_nil _ _ _ _
def aCh (r:Option Addr) (m u z:Nat) (e:List Bool) (w:World) (x:Rd w z 1 r m (e.map Value.bool)) (Z:z<=w.heap.size) (K:m<=128) (a2:m<=u):
 Calls prog 174 #[.slice r m u] w fun b P=>∃F,b=.returned (.pointer (some ⟨F,0,none⟩))/\TreeB P w.heap.size F e/\Below w.heap.size w P:=by
 have J:e.length=m:=by simpa using x.1
 obtain ⟨S,s⟩:=hqq2 x J;clear x J;go_enter func174,ntmps174;go_wp2_with fail;refine (rF _).mono ?_;rintro b w1 ⟨rfl,H,v⟩;obtain ⟨A,C⟩:=hqq2 H v;have k:=v.size;clear H v;rcases zBa m with G | G
 · subst G;have a4:e= []:=zBk s.out;go_wp2_with fail;go_ret;have a1:=C.out.alloc k (.cells #[w.heap.size,.slice none 0 0,.int .i64 (-1),.int .i64 0] 261);exact ⟨_,rfl,⟨_,0,k,zAs _,.inl ⟨a4,Bk.new _ _ _,A.out.alloc _⟩⟩,a1⟩
 · have ab:((m:Int)+128 - 1)/ 128=1:=oM;have a3:e≠ []:=(by intro b;have:=s.out;rw [b] at this;simp at this;omega);have o:=C.out.alloc k (.cells #[w.heap.size,.slice none 0 0,.int .i64 (-1),.int .i64 0] 261);have N:=Bk.new w1 261 #[w.heap.size,.slice none 0 0,.int .i64 (-1),.int .i64 0];have I:=A.out.alloc (.cells #[w.heap.size,.slice none 0 0,.int .i64 (-1),.int .i64 0] 261);have L:=((S.out.mono Z).below o).mono o.size;obtain ⟨y,O⟩:=eqx (w1.alloc (.cells #[w.heap.size,.slice none 0 0,.int .i64 (-1),.int .i64 0] 261));obtain ⟨E,B,D,n⟩:=hqq4 N I L o;clear N I L o;go_wp2_with fail;rw [O] at E B D n;clear O;refine (aFC w1.heap.size w.heap.size 0 r m u y.heap.size e y E.out B.out D.out nL K a2).mono ?_;rintro b l ⟨rfl,p,W,U,V,j,aa⟩;have a6:=j.tree.lt;have a8:=j.tree.frozen 2;have a7:l.cell? ⟨w1.heap.size,2,none⟩=some (.int .i64 (-1)):=(j.tree.cell 2).trans rfl;obtain ⟨g,R⟩:=hqq2 j p;clear j p;go_wp2_with fail;go_ret;have q:∀c t i,t≠261->Bk l c t i->Bk (l.setCell ⟨w1.heap.size,2,none⟩ (.int .i64 0)) c t i:=fun c t i a5 f=>f.far (Bk.ne f g.out.tree a5) _;obtain ⟨Q,T,X,Y⟩:=g.out.arena;have p:Below w.heap.size y l:=R.out.to_below n.out.size (fun c a9 b=>by rcases b with b | b <;> omega);have a0:Below w.heap.size w l:=n.out.trans p;have M:=n.out.size;refine ⟨_,rfl,⟨_,0,k,zAs _,.inr ⟨a3,by rw [s.out];exact K,W,U,V,by omega,g.out.tree.set 2 _,bV (aA g.out.row fun c i _ f=>q _ _ _ dC f) M,q _ _ _ dC g.out.blk,Q,T,q _ _ _ dC X,(mZ Y fun c i f=>q _ _ _ dC f).mono M⟩⟩,?_⟩;exact a0.setCell k _
def aDf (e:List Nat):∀b∈e.map sv,b.oneCell'=true:=by
 intro b c;obtain ⟨f,_,rfl⟩:=zAy.1 c;rfl
def cZ (t:List UInt8):List Nat:=t.map (fun b=>b.toNat+1)
def aI (t:List UInt8):List Nat:=cZ t++ [0]
def aO (t:List UInt8):(aI t).length=t.length+1:=by simp [aI,cZ]
def dR (t:List UInt8):∀e∈aI t,e < 257:=by
 intro e c;unfold aI cZ at c;rcases zCo.1 c with b | b;obtain ⟨f,_,rfl⟩:=zAy.1 b;have:=f.toNat_lt;omega;simp at b;omega
def nN (b:UInt8) (w:World):
 Calls prog 98 #[.int .u8 (b.toNat:Int)] w fun c e=>c=.returned (.int .i64 ((b.toNat+1:Nat):Int))/\Below w.heap.size w e:=by
 have g:=b.toNat_lt;have f:IntKind.i64.wrap (b.toNat:Int)=(b.toNat:Int):=by rw [IntKind.wrap_i64];omega
 go_enter func98,ntmps98;go_wp2;go_ret;exact ⟨eR oM,Below.refl _ _⟩
def wK (l af:Nat) (g:Option Addr) (m r B:Nat) (t:List UInt8) (w:World) (x:Bk w l 34 #[.slice g m r]) (v:Rd w B 1 g m (t.map bv)) (a1:B<=w.heap.size) (ah:m<=1000):
 Calls prog 54 #[.slice (some l) 1 1] w fun F U=>∃i k,F=.returned (.slice i (m+1) k)/\Made U w.heap.size 3 1 i (m+1) k ((aI t).map sv)/\Below w.heap.size w U:=by
 obtain ⟨T,J,Q,R,S⟩:=info_parts iA;have P:t.length=m:=by simpa using v.1
 have a0:w.cell? l=some (.slice g m r):=(x.cell 0).trans rfl;have a4:=x.lt;obtain ⟨Z,D⟩:=hqq2 (v.mono a1) P;clear x v P;go_enter func54,ntmps54;go_wp2_with fail;go_loopw [3,10] (fun A f wr=>∃b:Nat,b<=1/\f=.int .i64 b/\wr.ownsRow w.heap.size 3 1 A (if b=0 then 0 else m) ((if b=0 then [] else cZ t).map sv)/\Below w.heap.size w wr) (fun _ f _=>1 -(intOf f).toNat)
 case atStart=>exact ⟨0,by omega,rfl,World.ownsRow_nil _ _ _ _,Below.refl _ _⟩
 case round=>
  obtain ⟨b,a5,rfl,c,e⟩:=hrel;have o:=e.size;rcases b with _ | b
  · have ae:wr.cell? l=some (.slice g m r):=(e.cell a4).trans a0;obtain ⟨j,X⟩:=hqq2 c e;clear c e;go_wp2_with fail;obtain ⟨E,a2⟩:∃E,E=wr:=⟨_,rfl⟩;subst a2;go_loopw [3,16] (fun A f V=>∃b:Nat,b<=m/\f=.int .i64 b/\V.ownsRow w.heap.size 3 1 A b ((cZ (t.take b)).map sv)/\Below w.heap.size w V) (fun _ f _=>m -(intOf f).toNat)
    case atStart=>exact ⟨0,by omega,rfl,j.out,X.out⟩
    case round=>
        obtain ⟨b,a5,rfl,c,e⟩:=hrel;have o:=e.size;by_cases L:b < m
        · have a7:b < t.length:=(by rw [D.out];exact L);obtain ⟨p,z⟩:∃p,t[b]?=some p:=⟨t[b],zAa a7⟩;obtain ⟨ad,ai,aj,rfl,ag,y,a3⟩:=(Z.out.below e).get L;rw [zAf,z] at y;simp at y;subst y;have O:t.take (b+1)=t.take b++ [p]:=(by rw [zAv,z];rfl);unfold bv at a3;obtain ⟨W,q⟩:=hqq2 O c;clear O z c;go_wp2_with fail;refine (nN p _).mono ?_;rintro F w1 ⟨rfl,H⟩;have M:=aQ q.out H;have I:=e.trans (H.mono o);have N:=I.size;have C:=lhd M;clear M;go_wp2_with (at_builtin;refine bM _ rfl (.tmp 20) (.tmp 23) _ rfl w.heap.size 3 T (.int .i64 0) 1 8 underlying48 J Q R S rfl dC _ b _ rfl C.out rfl rfl (by simp [Value.oneCell']) (by unfold maxLen;omega) oM N ?_;intro ab ac u n aa G);have s:=bG I C.out n N;clear n G;go_roundw
          case rel=>refine ⟨b+1,by omega,by go_num,?_,s⟩;rw [W.out,cZ,zAz,zAz];exact u
          case measure=>simp [intOf];omega
        · have a8:b=m:=oM;subst a8;rw [zAg (by rw [D.out];omega)] at c;have q:=lhd c;clear c;go_wp2_with fail;go_roundw
          case rel=>exact ⟨1,by omega,by go_num,q.out,e⟩
          case measure=>simp [intOf]
  · have a6:b=0:=oM;subst a6;rw [zBw oM,zBw oM] at c;have j:=lhd c;have K:(aI t).map sv=(cZ t).map sv++ [.int .i64 0]:=(by simp [aI,sv]);have Y:=lhd K;clear c K;go_wp2_with (at_builtin;refine bM _ rfl (.tmp 27) (.tmp 28) _ rfl w.heap.size 3 T (.int .i64 0) 1 8 underlying48 J Q R S rfl dC _ m _ rfl j.out rfl rfl (by simp [Value.oneCell']) (by unfold maxLen;omega) oM o ?_;intro ab ac u n aa G);have s:=bG e j.out n o;obtain ⟨i,k,rfl,a9⟩:=aU u;go_ret;exact ⟨i,k,rfl,by rw [Y.out];exact a9,s⟩
def yF (j:Option Addr) (b c l:Nat) (k:List Nat) (w:World) (i:Rd w l 1 j b (k.map sv)) (r:l<=w.heap.size) (F:b<=1073741824):
 Calls prog 55 #[.slice j b c] w fun q o=>∃f g,q=.returned (.slice f b g)/\Made o w.heap.size 3 1 f b g (k.map sv)/\Below w.heap.size w o:=by
 obtain ⟨D,v,A,B,C⟩:=info_parts iA;have G:∀(w:World) (a:Option Addr) (b c:Nat),(binOp .eql 48 (.slice a b c) (.slice none 0 0)).run prog w=.ok (.bool a.isNone) w:=fun w a b c=>Lib.run_eql_slice_nil w _ _ a b c _ _ underlying48;rcases j with _ | a
 · have z:b=0:=by
    rcases zBa b with e | e;exact e
    · obtain ⟨_,_,e,_⟩:=i.2 e;cases e
   subst z;have x:k= []:=(by have:=i.1;simp only [zBc,Nat.zero_mul] at this;exact zBk this);subst x;go_enter func55,ntmps55;go_wp2;go_ret;exact ⟨none,0,rfl,⟨World.ownsRow_nil _ _ _ _,Rd.nil _ _ _ _,zAs _,zAp _⟩,Below.refl _ _⟩
 · have p:=lhd i;clear i;go_enter func55,ntmps55;go_wp2_with (at_builtin;refine bQ _ rfl (.tmp 5) (.tmp 6) _ rfl w.heap.size 3 D (.int .i64 0) 1 8 underlying48 v A B C rfl dC (.slice (some ⟨w.heap.size,0,none⟩) 0 0) 0 [] rfl (yU w 3 1) w.heap.size (some a) b c _ rfl ((p.out.mono r).alloc nL _) (aDf _) (by unfold maxLen;omega) oM (by simp) ?_;intro H I n u E);have s:=bG ((Below.refl w.heap.size w).alloc nL _) (yU w 3 1) u (by simp);rw [zBi,List.nil_append] at n;obtain ⟨f,g,rfl,y⟩:=aU n;go_wp2;go_ret;exact ⟨f,g,rfl,y,s⟩
end
section
def aN (b:List Nat) (c:Nat):Int:=match b[c]? with
 | some e=>(e:Int)
 | none=>-1
def aIJ {b:List Nat} {c:Nat} (e:c < b.length):aN b c=(b[c]:Int):=by
 unfold aN;rw [zAa e]
def lG {b:List Nat} {c x:Nat} (e:b[c]?=some x):aN b c=(x:Int):=by
 unfold aN;rw [e]
def lR {l:List Nat} {p:Nat} (b:l.length<=p):aN l p=-1:=by
 unfold aN;rw [zBg b]
def iV {l:List Nat} {p:Nat} (b:p < l.length):0<=aN l p:=by
 rw [aIJ b];omega
section
variable (a : Nat -> Int)
def eqW (w b c:Nat):Prop:=∀m,m < w->a (b+m)=a (c+m)
def ltW (w c e:Nat):Prop:=∃b,b < w/\(∀m,m < b->a (c+m)=a (e+m))/\a (c+b) < a (e+b)
variable {a}
def eqW.symm {w b c:Nat} (e:eqW a w b c):eqW a w c b:=fun m f=>(e m f).symm
def eqW.trans {w c e f:Nat} (g:eqW a w c e) (i:eqW a w e f):eqW a w c f:=fun m b=>(g m b).trans (i m b)
def eqW.refl (w b:Nat):eqW a w b b:=fun _ _=>rfl
def nB (w e f:Nat):ltW a w e f∨eqW a w e f∨ltW a w f e:=by
 induction w with
 | zero=>exact .inr (.inl fun m j=>absurd j oM)
 | succ w k=>
   rcases k with ⟨i,b,c⟩| g |⟨i,b,c⟩;exact .inl ⟨i,by omega,c⟩;rcases Int.lt_trichotomy (a (e+w)) (a (f+w)) with b | b | b;exact .inl ⟨w,by omega,g,b⟩;refine .inr (.inl fun m j=>?_);rcases zBe m w with c | c;exact g m c;have:m=w:=oM;subst this;exact b;exact .inr (.inr ⟨w,by omega,g.symm,b⟩);exact .inr (.inr ⟨i,by omega,c⟩)
def ltW.not_eq {w b c:Nat} (e:ltW a w b c):¬eqW a w b c:=by
 obtain ⟨i,f,j,k⟩:=e;intro g;have:=g i f;omega
def ltW.trans {w j k l:Nat} (q:ltW a w j k) (r:ltW a w k l):ltW a w j l:=by
 obtain ⟨e,n,f,o⟩:=q;obtain ⟨i,s,g,p⟩:=r;rcases Nat.lt_trichotomy e i with c | c | c;exact ⟨e,n,fun m b=>(f m b).trans (g m oM),by rw [<-g e c];exact o⟩;subst c;exact ⟨e,n,fun m b=>(f m b).trans (g m b),Int.lt_trans o p⟩;exact ⟨i,s,fun m b=>(f m oM).trans (g m b),by rw [f i c];exact p⟩
def ltW.irrefl {w b:Nat} (c:ltW a w b b):False:=c.not_eq (eqW.refl _ _)
def ltW.asymm {w b c:Nat} (e:ltW a w b c) (f:ltW a w c b):False:=(e.trans f).irrefl
def ltW.eq_right {w c e f:Nat} (j:ltW a w c e) (b:eqW a w e f):ltW a w c f:=by
 obtain ⟨g,i,l,n⟩:=j;exact ⟨g,i,fun m k=>(l m k).trans (b m oM),by rw [<-b g i];exact n⟩
def ltW.eq_left {w c e f:Nat} (b:eqW a w c e) (j:ltW a w e f):ltW a w c f:=by
 obtain ⟨g,i,l,n⟩:=j;exact ⟨g,i,fun m k=>(b m oM).trans (l m k),by rw [b g i];exact n⟩
def ltW.le_right {w g c e:Nat} (f:ltW a w g c) (i:¬ltW a w e c):ltW a w g e:=by
 rcases nB (a:=a) w c e with b | b | b;exact f.trans b;exact f.eq_right b;exact absurd b i
def aDy (w c e:Nat):eqW a (w+w) c e↔eqW a w c e/\eqW a w (c+w) (e+w):=by
 constructor
 · intro b;refine ⟨fun m f=>b m oM,fun m f=>?_⟩;have:=b (w+m) oM;rwa [<-Nat.add_assoc,<-Nat.add_assoc] at this
 · intro ⟨g,i⟩ m f;rcases zBe m w with b | b;exact g m b
   · have:=i (m - w) oM;rwa [show c+w+(m - w)=c+m by omega,show e+w+(m - w)=e+m by omega] at this
def aDl (w c e:Nat):ltW a (w+w) c e↔ltW a w c e∨(eqW a w c e/\ltW a w (c+w) (e+w)):=by
 constructor
 · intro ⟨b,j,f,i⟩;rcases zBe b w with g | g;exact .inl ⟨b,g,f,i⟩
   · refine .inr ⟨fun m k=>f m oM,b - w,by omega,fun m k=>?_,?_⟩
     · have:=f (w+m) oM;rwa [<-Nat.add_assoc,<-Nat.add_assoc] at this
     · rwa [show c+w+(b - w)=c+b by omega,show e+w+(b - w)=e+b by omega]
 · rintro (⟨b,j,f,i⟩|⟨l,b,j,f,i⟩);exact ⟨b,by omega,f,i⟩
   · refine ⟨w+b,by omega,fun m k=>?_,by rwa [<-Nat.add_assoc,<-Nat.add_assoc]⟩;rcases zBe m w with g | g;exact l m g
     · have:=f (m - w) oM;rwa [show c+w+(m - w)=c+m by omega,show e+w+(m - w)=e+m by omega] at this
def RankOk (a e:Nat->Int) (w:Nat):Prop:=∀b c,e b < e c↔ltW a w b c
def RankOk.eq {e:Nat->Int} {w:Nat} (g:RankOk a e w) (b c:Nat):e b=e c↔eqW a w b c:=by
 constructor;intro i;rcases nB (a:=a) w b c with f | f | f;have:=(g b c).2 f;omega;exact f;have:=(g c b).2 f;omega;intro i;have f:¬(e b < e c):=fun j=>((g b c).1 j).not_eq i;have k:¬(e c < e b):=fun j=>((g c b).1 j).not_eq i.symm;omega
def jI (b:Nat->Int) (w c e:Nat):Int:=if b c≠b e then b c - b e else b (c+w) - b (e+w)
def tL {j:Nat->Int} {w:Nat} (f:RankOk a j w) (c e:Nat):jI j w c e < 0↔ltW a (w+w) c e:=by
 unfold jI;rw [aDl];by_cases i:j c=j e
 · rw [zBw (by simpa using i)];have k:¬ltW a w c e:=fun n=>by have:=(f c e).2 n;omega
   have l:=(f.eq c e).1 i;have g:=f (c+w) (e+w);constructor;intro b;exact .inr ⟨l,g.1 oM⟩;rintro (b |⟨_,b⟩);exact absurd b k;have:=g.2 b;omega
 rw [zBx i];have g:=f c e;constructor;intro b;exact .inl (g.1 oM);rintro (b |⟨b,_⟩);have:=g.2 b;omega;exact absurd ((f.eq c e).2 b) i
def aIb {e:Nat->Int} {w:Nat} (i:RankOk a e w) (b c:Nat):jI e w b c=0↔eqW a (w+w) b c:=by
 unfold jI;rw [aDy];by_cases f:e b=e c;rw [zBw (by simpa using f)];constructor;intro g;exact ⟨(i.eq b c).1 f,(i.eq _ _).1 oM⟩;intro ⟨_,g⟩;have:=(i.eq _ _).2 g;omega;rw [zBx f];constructor;intro g;exact absurd (show e b=e c by omega) f;intro ⟨g,_⟩;exact absurd ((i.eq b c).2 g) f
def cN (c:Nat->Nat->Int) (b:Nat->Nat):Nat->Nat
 | 0=>0
 | i+1=>cN c b i+(if c (b i) (b (i+1))≠0 then 1 else 0)
def aIr (e:Nat->Nat->Int) (b:Nat->Nat) (c:Nat):cN e b c<=cN e b (c+1)/\cN e b (c+1)<=cN e b c+1:=by
 show cN e b c<=cN e b c+_/\cN e b c+_<=cN e b c+1;split <;> omega
def sU (e:Nat->Nat->Int) (b:Nat->Nat) (c d:Nat):cN e b c<=cN e b (c+d)/\cN e b (c+d)<=cN e b c+d:=by
 induction d with
 | zero=>exact ⟨zAs _,zAs _⟩
 | succ d f=>
   have:=aIr e b (c+d);rw [<-Nat.add_assoc];omega
def aAC {f:Nat->Nat->Int} {c:Nat->Nat} {w q:Nat} (n:∀b p,f b p=0↔eqW a w b p) (u:∀b,b+1 < q->¬ltW a w (c (b+1)) (c b)) (b d:Nat) (y:b+d < q):
 (cN f c b < cN f c (b+d)↔ltW a w (c b) (c (b+d)))/\¬ltW a w (c (b+d)) (c b):=by
 induction d with
 | zero=>exact ⟨⟨fun e=>absurd e (by simp),fun e=>e.irrefl.elim⟩,fun e=>e.irrefl⟩
 | succ d v=>
   obtain ⟨r,j⟩:=v oM;have k:=u (b+d) oM;have x:=sU f c b d;have i:cN f c (b+(d+1))=cN f c (b+d)+(if f (c (b+d)) (c (b+d+1))≠0 then 1 else 0):=rfl;rw [show b+(d+1)=b+d+1 from rfl] at i⊢;have s:¬ltW a w (c (b+d+1)) (c b):=fun e=>k (e.le_right j);refine ⟨?_,s⟩;by_cases g:f (c (b+d)) (c (b+d+1))=0;have o:=(n _ _).1 g;rw [i,zBw (by simpa using g),zBq,r];exact ⟨fun e=>e.eq_right o,fun e=>e.eq_right o.symm⟩;rw [i,zBx g];refine ⟨fun _=>?_,fun _=>by omega⟩;have l:ltW a w (c (b+d)) (c (b+d+1)):=(by rcases nB (a:=a) w (c (b+d)) (c (b+d+1)) with e | e | e;exact e;exact absurd ((n _ _).2 e) g;exact absurd e k);rcases nB (a:=a) w (c b) (c (b+d)) with e | e | e;exact e.trans l;exact ltW.eq_left e l;exact absurd e j
end
def aEc {l:List Nat} {w b c:Nat} (n:l.length<=w) (i:b < l.length) (k:c < l.length) (j:b≠c):¬eqW (aN l) w b c:=by
 intro f;rcases zBe b c with g | g;have e:=f (l.length - c) oM;rw [lR (show l.length<=c+(l.length - c) by omega)] at e;have:=iV (l:=l) (p:=b+(l.length - c)) oM;omega;have e:=f (l.length - b) oM;rw [lR (show l.length<=b+(l.length - b) by omega)] at e;have:=iV (l:=l) (p:=c+(l.length - b)) oM;omega
def aE6 {c i:List Nat} {z:Nat->Nat->Int} {g:Nat->Nat} {w:Nat} (H:0 < w) (B:∀b e,z b e=0↔eqW (aN c) w b e) (C:∀b,b+1 < c.length->¬ltW (aN c) w (g (b+1)) (g b))
 (r:i.length=c.length) (A:∀b,b < c.length->i[g b]?=some (cN z g b)) (D:∀f,f < c.length->∃b,b < c.length/\g b=f):RankOk (aN c) (aN i) w:=by
 have J:∀b e,b < c.length->e < c.length->(aN i (g b) < aN i (g e)↔ltW (aN c) w (g b) (g e)):=by intro b e v x;rw [lG (A b v),lG (A e x)];rcases zBe b e with F | F;have:=(aAC B C b (e - b) oM).1;rw [show b+(e - b)=e by omega] at this;rw [<-this];omega;have q:=aAC B C e (b - e) oM;rw [show e+(b - e)=b by omega] at q;have u:=(sU z g e (b - e)).1;rw [show e+(b - e)=b by omega] at u;exact ⟨fun k=>absurd k oM,fun k=>absurd k q.2⟩
 intro f n;rcases zBe f c.length with o | o;obtain ⟨b,v,rfl⟩:=D f o;rcases zBe n c.length with j | j;obtain ⟨e,x,rfl⟩:=D n j;exact J b e v x;have q:=iV (l:=i) (p:=g b) (by rw [r];exact o);have u:=lR (l:=i) (p:=n) (by rw [r];exact j);refine ⟨fun k=>absurd k oM,fun ⟨y,I,E,s⟩=>?_⟩;exfalso;have K:=iV (l:=c) (p:=g b) o;rcases y with _ | y;rw [zBq,zBq,lR j] at s;omega;have:=E 0 oM;rw [zBq,zBq,lR j] at this;omega;have u:=lR (l:=i) (p:=f) (by rw [r];exact o);rcases zBe n c.length with j | j;have q:=iV (l:=i) (p:=n) (by rw [r];exact j);refine ⟨fun _=>⟨0,H,fun m G=>absurd G oM,?_⟩,fun _=>by omega⟩;rw [zBq,zBq,lR o];have:=iV (l:=c) (p:=n) j;omega;have q:=lR (l:=i) (p:=n) (by rw [r];exact j);refine ⟨fun k=>absurd k oM,fun ⟨y,I,E,s⟩=>?_⟩;rw [lR oM,lR oM] at s;exact absurd s oM
def aJe {a:Nat->Int} {g:Nat->Nat->Int} {e:Nat->Nat} {w f:Nat} (n:∀b c,g b c=0↔eqW a w b c) (o:∀b,b+1 < f->¬ltW a w (e (b+1)) (e b)) (u:0 < f) (s:cN g e (f - 1)=f - 1) (b c:Nat) (q:b < c) (r:c < f):ltW a w (e b) (e c):=by
 have j:=sU g e 0 b;have k:=sU g e b (c - b);have l:=sU g e c (f - 1 - c);have p:cN g e 0=0:=rfl;rw [zBi] at j;rw [show b+(c - b)=c by omega] at k;rw [show c+(f - 1 - c)=f - 1 by omega] at l;have i:=(aAC n o b (c - b) oM).1;rw [show b+(c - b)=c by omega] at i;exact i.1 oM
def aIs {e:Nat->Nat->Int} {c:Nat->Nat} {n:Nat} (f:∀b,b+1 < n->e (c b) (c (b+1))≠0) (b:Nat) (g:b < n):cN e c b=b:=by
 induction b with
 | zero=>rfl
 | succ b i=>
   show cN e c b+_=_;rw [zBx (f b g),i oM]
def aC4 (b:List Nat):RankOk (aN b) (aN b) 1:=by
 intro j k;constructor;intro c;exact ⟨0,by omega,fun m f=>absurd f oM,c⟩;rintro ⟨g,i,_,e⟩;have:g=0:=oM;subst this;exact e
end
section
open Go.RowKit
structure OrdAt (W:World) (gw gn gr:Nat) (w n:Nat) (A:Option Addr) (c:Nat) (R:List Nat):Prop where
 wide:W.cell? gw=some (.int .i64 (w:Int))
 len:W.cell? gn=some (.int .i64 (n:Int))
 rank:W.cell? gr=some (.slice A n c)
 rd:Rd W W.heap.size 1 A n (R.map sv)
def OrdAt.drewN {f:World} {k i j w l g:Nat} {c:Option Addr} {e:List Nat} (b:OrdAt f k i j w l c g e) (n:Nat):OrdAt (f.drewN n) k i j w l c g e:=⟨b.wide,b.len,b.rank,b.rd⟩
def OrdAt.at {j:World} {q o p w l n:Nat} {g:Option Addr} {i:List Nat} (r:OrdAt j q o p w l g n i) {f:Nat} (u:f < l):∃(b c e:Nat),g=some ⟨b,c,none⟩/\i[f]?=some e/\j.cell? ⟨b,c+f,none⟩=some (.int .i64 (e:Int)):=by
 obtain ⟨b,c,y,rfl,x,k,s⟩:=r.rd.get u;rw [zAf] at k;obtain ⟨e,v,rfl⟩:=Option.map_eq_some_iff.1 k;exact ⟨b,c,e,rfl,v,s⟩
def zJ (o k n w e s:Nat) (r:Option Addr) (g:List Nat) (c:Nat) (j:World) (b:OrdAt j o k n w e r s g) (I:w<=1000) (H:e<=1000) (G:c < e):
 Calls prog 56 #[(c:Int),o,k,n] j fun u z=>u=.returned (.int .i64 (aN g (c+w)))/\∃y,z=j.drewN y:=by
 have E:g.length=e:=by simpa using b.rd.1
 have B:=b.wide;have C:=b.len;have D:=b.rank;by_cases v:c+w < e
 · have x:(c:Int)+(w:Int) < (e:Int):=oM;obtain ⟨A,J,K,rfl,q,F⟩:=b.at v;have f:=lG q;have i:=lhd f;clear q b f;go_enter func56,ntmps56;go_wp2;go_ret;exact ⟨by rw [i.out];first | rfl | simp_all,0,rfl⟩
 · have x:¬((c:Int)+(w:Int) < (e:Int)):=oM;have f:=lR (l:=g) (p:=c+w) oM;have i:=lhd f;clear b f;go_enter func56,ntmps56;go_wp2;go_ret;exact ⟨by rw [i.out];rfl,0,rfl⟩
def zI (o n k K w g y:Nat) (Q:Option Addr) (b:List Nat) (i j:Nat) (f:World) (c:OrdAt f o n k w g Q y b) (a3:f.cell? K=some (.func (.func 56) #[] #[o,n,k])) (N:w<=1000) (M:g<=1000) (s:∀X∈b,X<=1000) (O:i < g) (P:j < g):
 Calls prog 57 #[(i:Int),(j:Int),k,K] f fun p Y=>p=.returned (.int .i64 (jI (aN b) w i j))/\∃e,Y=f.drewN e:=by
 have a1:=c.rank;have H:=lhd c;obtain ⟨Z,a8,q,L,C,a4⟩:=c.at O;obtain ⟨a0,a9,e,r,l,a5⟩:=c.at P;rw [L] at r;injection r with r;injection r with e1 e2;subst e1 e2;have a6:=s q (zAd C);have a7:=s e (zAd l);have I:=lG C;have J:=lG l;have x:∀D,-1<=aN b D/\aN b D<=1000:=by
  intro D;unfold aN;split
  · next z hz=>
    have:=s z (zAd hz);omega
  omega
 have b1:=x (i+w);have b2:=x (j+w);have B:jI (aN b) w i j=if (q:Int)≠(e:Int) then (q:Int) -(e:Int) else aN b (i+w) - aN b (j+w):=by unfold jI;rw [I,J]
 obtain ⟨E,u⟩:=eqx (aN b (i+w));obtain ⟨F,v⟩:=eqx (aN b (j+w));rw [u,v] at B;rw [u] at b1;rw [v] at b2;rw [B];subst L;obtain ⟨R,S⟩:=hqq2 u v;clear c C l I J x B u v s;by_cases U:q=e
 · subst U;rw [zBw (by simp)];go_enter func57,ntmps57;go_wp2;go_quiet (fail);go_wp2;have V:∀m:Nat,Calls prog 56 #[(i:Int),o,n,k] (f.drewN (nq+m)) fun p G=>p=.returned (.int .i64 E)/\∃g,G=f.drewN (nq+g):=fun m=>by have c:=zJ o n k w g y _ b i (f.drewN (nq+m)) (H.out.drewN _) N M O;rw [R.out] at c;exact c.mono fun _ _ ⟨A,e,l⟩=>⟨A,m+e,by rw [l,World.drewN_drewN,Nat.add_assoc]⟩
   have W:∀m:Nat,Calls prog 56 #[(j:Int),o,n,k] (f.drewN (nq+m)) fun p G=>p=.returned (.int .i64 F)/\∃g,G=f.drewN (nq+g):=fun m=>by have c:=zJ o n k w g y _ b j (f.drewN (nq+m)) (H.out.drewN _) N M P;rw [S.out] at c;exact c.mono fun _ _ ⟨A,e,l⟩=>⟨A,m+e,by rw [l,World.drewN_drewN,Nat.add_assoc]⟩
   have a2:IntKind.i64.wrap (E - F)=E - F:=(by rw [IntKind.wrap_i64];omega);go_quiet ((first |(with_reducible exact V _)|(with_reducible exact W _)));go_wp2;go_ret;exact ⟨eR (by first | omega | rfl),_,World.drewN_drewN _ _ _⟩
 · have T:¬((q:Int)=(e:Int)):=oM;rw [zBx T];go_enter func57,ntmps57;go_wp2;go_quiet (fail);go_wp2;go_quiet (fail);go_wp2;go_ret;exact ⟨eR oM,_,World.drewN_drewN _ _ _⟩
end
section
open Go.RowKit Go Go.Sort
def sufLt (b:List Nat) (c e:Nat):Prop:=∃w,ltW (aN b) w c e
def aAi {a:Nat->Int} {w e b c:Nat} (f:ltW a w b c) (k:w<=e):ltW a e b c:=by
 obtain ⟨i,j,g⟩:=f;exact ⟨i,by omega,g⟩
def sufLt.asymm {e:List Nat} {f g:Nat} (b:sufLt e f g) (c:sufLt e g f):False:=by
 obtain ⟨w,b⟩:=b;obtain ⟨i,c⟩:=c;exact (aAi b (Nat.le_max_left w i)).asymm (aAi c (Nat.le_max_right w i))
def sufLt.trans {e:List Nat} {f g i:Nat} (b:sufLt e f g) (c:sufLt e g i):sufLt e f i:=by
 obtain ⟨w,b⟩:=b;obtain ⟨j,c⟩:=c;exact ⟨_,(aAi b (Nat.le_max_left w j)).trans (aAi c (Nat.le_max_right w j))⟩
def sufLt.tri {b:List Nat} {e f:Nat} (g:e < b.length) (j:f < b.length) (i:e≠f):sufLt b e f∨sufLt b f e:=by
 rcases nB (a:=aN b) b.length e f with c | c | c;exact .inl ⟨_,c⟩;exact absurd c (aEc nL g j i);exact .inr ⟨_,c⟩
structure IsSuf (l rs:List Nat):Prop where
 perm:rs.Perm (List.range l.length)
 sorted:rs.Pairwise (sufLt l)
def IsSuf.len {b c:List Nat} (e:IsSuf b c):c.length=b.length:=by simpa using e.perm.length_eq
def IsSuf.lt {b e:List Nat} (f:IsSuf b e) {c:Nat} (g:c∈e):c < b.length:=by simpa using f.perm.mem_iff.1 g
def IsSuf.mem {b e:List Nat} (f:IsSuf b e) {c:Nat} (g:c < b.length):c∈e:=f.perm.mem_iff.2 (by simpa using g)
def IsSuf.nodup {e b:List Nat} (c:IsSuf e b):b.Nodup:=c.perm.nodup_iff.2 List.nodup_range
def IsSuf.unique {b f g:List Nat} (c:IsSuf b f) (e:IsSuf b g):f=g:=by
 refine List.Perm.eq_of_pairwise (le:=sufLt b) ?_ c.sorted e.sorted (c.perm.trans e.perm.symm);intro a k _ _ i j;exact (i.asymm j).elim
def eL (m:Nat) (b:Fin (m+1)):Value:=.int .i64 ((b.val:Nat):Int)
def kW (m:Nat) (b:Fin (m+1)):(eL m b).oneCell'=true:=rfl
section
variable {α : Type} [Inhabited α] {enc : α -> Value} {w : World} {blk : Nat} {t : TypeId} {d d' : Array α}
def aBR (d:Array α) (b:Nat) (c:b < d.size):d[b]! =d[b]:=getElem!_pos d b c
def aAd (e:d'.size=d.size):putCells enc 0 d' (d.map enc)=d'.map enc:=by
 apply Array.ext
 · simp [putCells,e]
 · intro f g b;have c:f < d'.size:=(by simpa using b);simp [putCells,c,aBR]
def aHY (b:Bk w blk t (d.map enc)) (g:d'.size=d.size) (c:Nat) (i:Array Obj):Bk (sortWorld enc w blk 0 c d' i) blk t (d'.map enc):=by
 have f:=b.lt;unfold Bk at b⊢;have e:(putRow enc (Sort.ahead w c) blk 0 d').heap[blk]?=some (.cells (d'.map enc) t (0,0)):=by show (w.heap.modify blk _)[blk]?=_;rw [Array.getElem?_modify,zBx rfl,b];simp only [Option.map_some,onCells];rw [aAd g]
 unfold sortWorld;rw [heap_grow_old _ _ (by show blk < (w.heap.modify blk _).size;simpa using f)];exact e
def iQ (l:blk < w.heap.size) (k j:Nat) (d':Array α) (c:Array Obj):Keep (fun e=>e=blk) w (sortWorld enc w blk k j d' c):=by
 refine ⟨rfl,rfl,rfl,?_,fun b g i=>?_⟩
 · show w.heap.size<=((w.heap.modify blk _)++c).size;simp
 · unfold sortWorld;rw [heap_grow_old _ _ (by show b < (w.heap.modify blk _).size;simpa using g)];show (w.heap.modify blk _)[b]?=_;rw [Array.getElem?_modify,zBw (fun f=>i f.symm)]
def aHz (b:Bk w blk t (d.map enc)):Holds enc w blk 0 d:=by
 intro e c;rw [zBi];refine ⟨?_,b.frozen e⟩;rw [b.cell];simp [c,aBR]
end
def uO {α:Type} [Inhabited α] {d d':Array α} (b:PermIn 0 d.size d d'):d'.toList.Perm d.toList:=by
 have f:=b.2.2;have c:d'.extract 0 d.size=d':=by rw [<-b.1];exact Array.extract_size
 have e:d.extract 0 d.size=d:=Array.extract_size;rwa [c,e] at f
def dP {m:Nat} (d:Array (Fin (m+1))) (b:Nat):Nat:=(d[b]!).val
structure RowsOk (m:Nat) (d:Array (Fin (m+1))):Prop where
 size:d.size=m+1
 perm:d.toList.Perm (List.finRange (m+1))
def kA {m:Nat} {d:Array (Fin (m+1))} {i:Nat} (b:i < d.size):(d.toList.map (·.val))[i]?=some (dP d i):=by
 rw [zAf,Array.getElem?_toList,zAq b];simp [dP,aBR d i b]
section
variable {m : Nat} {d : Array (Fin (m + 1))}
def RowsOk.lt (c:RowsOk m d) (b:Nat):dP d b < m+1:=(d[b]!).isLt
def RowsOk.vals (e:RowsOk m d):(d.toList.map (·.val)).Perm (List.range (m+1)):=by
 have b:=e.perm.map (·.val);have c:(List.finRange (m+1)).map (·.val)=List.range (m+1):=by
  apply List.ext_getElem
  · simp
  · intro g b f;simp
 rwa [c] at b
def RowsOk.nodup (b:RowsOk m d):(d.toList.map (·.val)).Nodup:=b.vals.nodup_iff.2 List.nodup_range
def RowsOk.inj (b:RowsOk m d) {i j:Nat} (c:i < m+1) (f:j < m+1) (e:dP d i=dP d j):i=j:=by
 refine (List.getElem?_inj (l:=d.toList.map (·.val)) (by simpa [b.size] using c) b.nodup).1 ?_;rw [kA (by rw [b.size];exact c),kA (by rw [b.size];exact f),e]
def RowsOk.sur (e:RowsOk m d) {p:Nat} (l:p < m+1):∃b,b < m+1/\dP d b=p:=by
 have j:p∈d.toList.map (·.val):=e.vals.mem_iff.2 (by simpa using l);obtain ⟨b,f,k⟩:=List.getElem_of_mem j;have g:b < m+1:=by simpa [e.size] using f
 refine ⟨b,g,?_⟩;have c:=kA (d:=d) (i:=b) (by rw [e.size];exact g);rw [zAa f,k] at c;injection c with c;exact c.symm
def RowsOk.cell (c:RowsOk m d) {b:Nat} (e:b < m+1):(d.map (eL m))[b]?=some (.int .i64 ((dP d b:Nat):Int)):=by
 have:b < d.size:=by rw [c.size];exact e
 simp [eL,dP,this,aBR]
def RowsOk.of_perm {d':Array (Fin (m+1))} (b:RowsOk m d) (c:PermIn 0 d.size d d'):RowsOk m d':=
 ⟨c.1.trans b.size,(uO c).trans b.perm⟩
def RowsOk.suf (e:RowsOk m d) {l:List Nat} (q:l.length=m+1) {w:Nat} (r:∀b c,b < c->c < m+1->ltW (aN l) w (dP d b) (dP d c)):IsSuf l (d.toList.map (·.val)):=by
 refine ⟨by rw [q];exact e.vals,?_⟩;rw [zAr];intro b c j k p;have o:b < m+1:=by simpa [e.size] using j
 have n:c < m+1:=by simpa [e.size] using k
 have f:=kA (d:=d) (i:=b) (by rw [e.size];exact o);have g:=kA (d:=d) (i:=c) (by rw [e.size];exact n);rw [zAa j] at f;rw [zAa k] at g;injection f with f;injection g with g;rw [f,g];exact ⟨w,r b c p n⟩
end
def uJ (m:Nat):Array (Fin (m+1)):=(List.finRange (m+1)).toArray
def aGA (m:Nat):RowsOk m (uJ m):=⟨by simp [uJ],by simp [uJ]⟩
def aGK {c:Nat} {cs:Array Value} {f:Nat->Nat} {v:Nat->Nat} (A:c<=cs.size) (s:∀b,b < c->f b < c) (r:∀b,b < c->cs[f b]?=some (.int .i64 ((v b:Nat):Int))) (u:∀j,j < c->∃e,e < c/\f e=j):
 ∃k:List Nat,k.length=c/\(∀b,b < c->k[f b]?=some (v b))/\(∀(b:Nat) o,(k.map sv)[b]?=some o->cs[b]?=some o)/\∀x∈k,∃b,b < c/\x=v b:=by
 let q:Nat->Nat:=fun j=>match cs[j]? with
  | some (.int _ p)=>p.toNat
  | _=>0
 have l:∀b,b < c->q (f b)=v b:=by intro b i;show (match cs[f b]? with | some (.int _ p)=>p.toNat | _=>0)=v b;rw [r b i];simp
 refine ⟨(List.range c).map q,by simp,fun b i=>?_,fun b o n=>?_,fun x z=>?_⟩
 · simp [s b i,l b i]
 have i:b < c:=(by have:=(zAc.1 n).1;simpa using this);obtain ⟨e,g,rfl⟩:=u b i;simp [s e g,l e g] at n;rw [r e g,<-n];rfl;obtain ⟨j,y,rfl⟩:=zAy.1 z;obtain ⟨e,g,rfl⟩:=u j (by simpa using y);exact ⟨e,g,l e g⟩
def cfF (m w:Nat) (b:List Nat) (c e:Fin (m+1)):Int:=jI (aN b) w c.val e.val
def aIP {g e:List Nat} {w:Nat} (m:Nat) (b:RankOk (aN g) (aN e) w):SWO (ltOf (cfF m w e)) where
 irrefl x:=by unfold ltOf cfF;rw [decide_eq_false_iff_not,tL b];exact fun b=>b.irrefl
 trans x y z h1 h2:=by
  unfold ltOf cfF at*
  rw [decide_eq_true_iff,tL b] at*
  exact h1.trans h2
 ntrans x y z h1 h2:=by
  unfold ltOf cfF at*
  rw [decide_eq_false_iff_not,tL b] at*
  intro f;rcases nB (a:=aN g) (w+w) x.val y.val with c | c | c;exact h1 c;exact h2 (ltW.eq_left c.symm f);exact h2 (c.trans f)
def aGq {f e:List Nat} {w m:Nat} {d:Array (Fin (m+1))} (g:RankOk (aN f) (aN e) w) (k:d.size=m+1) (j:SortedIn (ltOf (cfF m w e)) 0 (m+1) d) (b:Nat) (i:b+1 < m+1):¬ltW (aN f) (w+w) (dP d (b+1)) (dP d b):=by
 have c:=j b (b+1) (zAp _) oM i;unfold ltOf cfF at c;rw [decide_eq_false_iff_not,tL g] at c;exact c
end
section
open Go.RowKit
@[irreducible] def wcells (S:Nat->Value) (n v:Int):Array Value:=#[S 0,S 1,S 2,S 3,S 4,S 5,S 6,S 7,S 8,.int .i64 n,.int .i64 v]
def aZ (b:Nat->Value) (c e:Int):(wcells b c e)[0]?=some (b 0)/\(wcells b c e)[1]?=some (b 1)/\(wcells b c e)[2]?=some (b 2)/\(wcells b c e)[3]?=some (b 3)/\(wcells b c e)[4]?=some (b 4)/\(wcells b c e)[5]?=some (b 5)/\(wcells b c e)[6]?=some (b 6)/\(wcells b c e)[7]?=some (b 7)/\(wcells b c e)[8]?=some (b 8)/\(wcells b c e)[9]?=some (.int .i64 c)/\(wcells b c e)[10]?=some (.int .i64 e):=by
 unfold wcells;exact ⟨rfl,rfl,rfl,rfl,rfl,rfl,rfl,rfl,rfl,rfl,rfl⟩
def cF (b:Nat->Value) (c f e:Int):(wcells b c f).setIfInBounds 10 (.int .i64 e)=wcells b c e:=by
 unfold wcells;rfl
def rI (c:Nat->Value) (e f:Int) (b:Nat) (r:b < 9):(wcells c e f)[b]?=some (c b):=by
 obtain ⟨g,i,j,k,l,n,o,p,q,_⟩:=aZ c e f;rcases b with _ | _ | _ | _ | _ | _ | _ | _ | _ | b
 all_goals first | assumption | omega
def aCL (c:Nat->Value) (f i:Int) (b:Nat) (j:b < 9) (g:Value):(wcells c f i).setIfInBounds b g=wcells (fun e=>if e=b then g else c e) f i:=by
 unfold wcells;rcases b with _ | _ | _ | _ | _ | _ | _ | _ | _ | b
 all_goals first | rfl | omega
def Vis.waveC {w j:World} {f:Nat} {e:Nat->Value} {g i:Int} (k:Vis w j) (l:Bk w f 201 (wcells e g i)):∃c,Bk j f 201 (wcells e g c):=by
 rcases k.wave l with b |⟨c,b⟩;exact ⟨i,b⟩;rw [cF] at b;exact ⟨c,b⟩
def aFR (e gk j c:Nat) (A B:Int) (p:Value) (g:List Bool) (f:Nat) (b:Bool) (w:World) (r:TreeAt w e g) (l:Bk w gk 3 #[(f:Int)]) (k:Bk w j 4 #[.bool b]) (n:Bk w c 3 #[p]) (z:f<=g.length):
 Calls prog 252 #[.agg #[e,.int .i64 A,.int .i64 B],gk,j,c] w fun q C=>q=.returned (.tuple #[])/\
  ∃w1,VisK (fun b=>b=e) w w1/\Bk w1 c 3 #[p]/\C=w1.setCell c (.int .i64 (((g.take f).count b:Nat):Int)):=by
 have D:w.cell? gk=some (.int .i64 (f:Int)):=(l.cell 0).trans rfl;have E:w.cell? j=some (.bool b):=(k.cell 0).trans rfl;have H:=l.lt;have I:=k.lt;have J:=n.lt;obtain ⟨y,v⟩:=hqq2 r n;clear r l k n;go_enter func252,ntmps252;go_wp2_with fail;refine (aAK e g f b _ (y.out.below (bR.alloc nL _)) z).mono ?_;rintro q w1 ⟨rfl,s⟩;have o:VisK (fun b=>b=e) w w1:=(VisK.of_below (bR.alloc nL _)).trans s;have i:=o.1.bk v.out dC dC;have F:w1.cell? c=some p:=(i.cell 0).trans rfl;have G:=i.frozen 0;obtain ⟨u,x⟩:=hqq2 o i;clear s o i;go_wp2_with fail;go_end0;exact ⟨rfl,w1,u.out,x.out,rfl⟩
def Vis.of_wave {w f:World} {e:Nat} {g:Nat->Value} {j p k:Int} (b:Keep (fun c=>c=e) w f) (l:Bk w e 201 (wcells g j p)) (n:Bk f e 201 (wcells g j k)):Vis w f:=by
 refine ⟨b.os,b.tape,b.output,b.size,fun c o _=>?_⟩;by_cases i:c=e;subst i;exact .inr (.inr ⟨_,k,l,by rw [cF];exact n⟩);exact .inl (b.block c o i)
def aFX (c f gk P e:Nat) (y:Nat->Value) (D af N n:Int) (ah:Value) (k:List Bool) (j:Nat) (b:Bool) (w:World) (M:Bk w c 201 (wcells y D af)) (aa:TreeAt w f k) (T:Bk w gk 3 #[(j:Int)]) (R:Bk w P 4 #[.bool b]) (K:Bk w e 3 #[ah]) (aB:j<=k.length):
 Calls prog 199 #[c,.agg #[f,.int .i64 N,.int .i64 n],.func (.func 252) #[] #[gk,P,e]] w fun l Z=>l=.returned (.tuple #[])/\
  VisF (fun b=>b=e) w Z/\Keep (fun b=>b=c∨b=f∨b=e) w Z/\Bk Z e 3 #[.int .i64 (((k.take j).count b:Nat):Int)]:=by
 obtain ⟨aE,W⟩:=eqx (Obj.cells #[f,.int .i64 N,.int .i64 n] 206);have a7:=(Below.refl w.heap.size w).alloc nL aE;have X:=Bk.new w 206 #[f,.int .i64 N,.int .i64 n];rw [W] at X;have aW:=T.lt;have aX:=R.lt;have aY:=K.lt;have b0:=M.lt;have aD:=Bk.ne K M dC;obtain ⟨O,a2,a1,a0,a4,u,a3,ao⟩:=hqq8 aa K T R M a7 X W;clear aa T R K M a7 X W;go_enter func199,ntmps199;go_wp2_with fail;rw [ao.out];refine (aFR f gk P e N n ah k j b _ (O.out.below u.out) (a1.out.alloc _) (a0.out.alloc _) (a2.out.alloc _) aB).mono ?_;rintro l s ⟨rfl,w1,x,V,rfl⟩;obtain ⟨r,ad⟩:=((Vis.of_below u.out).trans x.1).waveC a4.out;have C:=ad.far (p:=e) (fun g=>aD g.symm) (.int .i64 (((k.take j).count b:Nat):Int));have ab:=O.out.vis ((Vis.of_below u.out).trans x.1);have B:TreeAt (w1.setCell e (.int .i64 (((k.take j).count b:Nat):Int))) f k:=ab.same fun au t aM a9 g=>g.far (fun l=>by
  have av:au=e:=l;subst av;rw [<-(aK V g).1] at a9;exact absurd a9 dC) _
 obtain ⟨E,Y⟩:=B.visits;have v:=(x.1.bk a3.out dC dC).far (p:=e) (fun g=>absurd (show w.heap.size=e from g) oM) (.int .i64 (((k.take j).count b:Nat):Int));have L:=V.set 0 (.int .i64 (((k.take j).count b:Nat):Int));have S:VisF (fun b=>b=e) w (w1.setCell e (.int .i64 (((k.take j).count b:Nat):Int))):=VisF.put (F:=fun b=>b=e) (VisF.of_vis ((Vis.of_below u.out).trans x.1)) (p:=e) (.inl rfl) _;have U:Keep (fun b=>b=c∨b=f∨b=e) w (w1.setCell e (.int .i64 (((k.take j).count b:Nat):Int))):=Keep.setCell (F:=fun b=>b=c∨b=f∨b=e) ((Keep.of_below u.out).trans (x.2.mono fun b _ l=>.inr (.inl l))) (p:=e) (.inl (.inr (.inr rfl))) _;obtain ⟨H,a6⟩:=eqx (w1.setCell e (.int .i64 (((k.take j).count b:Nat):Int)));rw [a6] at C B Y v L S U⊢;have aF:H.cell? w.heap.size=some (.pointer (some f)):=(v.cell 0).trans rfl;obtain ⟨G,ap,an,al,am,aq,ar⟩:=hqq7 C v L S U B Y;have aC:=B.lt;have aV:=v.lt;have az:=Bk.ne C v dC;have ay:=Bk.ne C L dC;have aA:f≠c:=by rintro rfl;obtain ⟨aU,af,⟨_,_,I⟩|⟨_,_,_,_,_,J⟩⟩:=aq.out;exact absurd (aK I G.out).1 dC;exact absurd (aK J.tree G.out).1 dC
 clear C v L S U B Y a6 ad ab V x u O a2 a1 a0 a4 a3 aF;go_wp2_with fail;refine wp_region_any kR ?_;refine bX [9,10,11,12,13,14,15,16,17,18] (fun b=>b=c) 10 [3,10] (fun s=>Bk s c 201 (wcells y D r)) (fun _ s=>Bk s c 201 (wcells y D (IntKind.i64.wrap (r+E)))) [is c,is c,is (.pointer (some ⟨c,10,none⟩)),is (.int .i64 r),is w.heap.size,is f,is (.int .i64 E),is (.int .i64 (IntKind.i64.wrap (r+E))),is c,is (.pointer (some ⟨c,10,none⟩)),dF] _ _ rfl kR kR (G.out) (fun s b2 g _ ax=>Bk.below g ax g.lt) (fun _ _ _ g j=>Bk.below g j g.lt) tA1 ?_ ?_
 · refine aR ?_;refine pH3 0 (.pointer (some c)) ?_;refine pV3 0 9 ?_;refine pV3 1 10 ?_;refine sC3 (fun _ o _ Q _ _ _ q _ _ _ z=>?_) ?_
   · have A:=Q rfl;have aN:_=_:=q 2 11 kR rfl;have aI:o.cell? ⟨c,10,none⟩=some (.int .i64 r):=(A.cell 10).trans (aZ _ _ _).2.2.2.2.2.2.2.2.2.2;go_simp;exact kq z rfl
   refine pH3 4 (.pointer (some w.heap.size)) ?_;refine pL3 4 13 (fun o i=>have i:Keep (fun b=>b=c) H o:=kD i;(((i.bk ap.out (fun g=>az (show w.heap.size=c from g).symm)).cell 0).trans rfl:o.cell? w.heap.size=some (.pointer (some f)))) ?_;refine sC3 (fun _ o i _ _ _ _ q _ _ _ z=>?_) ?_
   · replace i:Keep (fun b=>b=c) H o:=kD i;have aO:_=_:=q 5 14 kR rfl;go_simp;refine (eW f E o ((i.cell aC aA).trans ar.out)).mono ?_;rintro l b3 ⟨rfl,aw⟩;exact z _ _ (aL aw) rfl
   refine pW3 3 12 6 15 ?_;refine pV3 0 9 ?_;refine pV3 8 17 ?_;refine sC3 (fun _ o _ Q _ _ _ q _ _ _ z=>?_) ?_
   · have A:=Q rfl;have aQ:_=_:=q 9 18 kR rfl;have aP:_=_:=q 7 16 kR rfl;have aJ:o.cell? ⟨c,10,none⟩=some (.int .i64 r):=(A.cell 10).trans (aZ _ _ _).2.2.2.2.2.2.2.2.2.2;have aT:=A.frozen 10;go_simp;refine z (.bool true) _ (bC (Keep.setCell (F:=fun b=>b=c) (Keep.refl _ _) (p:=⟨c,10,none⟩) (.inl rfl) _)) ?_;rw [<-cF y D r];exact A.set 10 _
   exact aH
 · intro aS ag i q a8;replace i:Keep (fun b=>b=c) H ag:=kD i;obtain ⟨b1,ae⟩:∃aG,(fun _ s=>Bk s c 201 (wcells y D (IntKind.i64.wrap (r+E)))) aG ag:=a8 10 dC;simp only [zqq];clear q a8;have ac:=Vis.of_wave i G.out ae;have a5:=VisF.trans al.out (VisF.of_vis ac);have I:=am.out.trans (i.mono fun b _ l=>.inl l);have J:=i.bk an.out (fun l=>ay (show e=c from l).symm);obtain ⟨ai,aj,ak⟩:=hqq3 a5 I J;clear ac a5 I J ae i;go_wp2_with fail;go_end0;exact ⟨rfl,ai.out,aj.out,ak.out⟩
def lI (o c:Nat) (s:Nat->Value) (I J g i:Int) (n:List Bool) (e:Nat) (b:Bool) (w:World) (q:Bk w o 201 (wcells s I J)) (E:TreeAt w c n) (T:e<=n.length):
 Calls prog 202 #[o,.agg #[c,.int .i64 g,.int .i64 i],(e:Int),.bool b] w fun f U=>f=.returned (.int .i64 (((n.take e).count b:Nat):Int))/\VisK (fun b=>b=o∨b=c) w U:=by
 have W:∀(v:Fn) (first u:Array Value) (w:World),(Instr.makeFunc v first u).run prog w=.ok (.func v first u) w:=fun _ _ _ _=>rfl;obtain ⟨l,k⟩:=eqx ((((w.alloc (.cells #[c,.int .i64 g,.int .i64 i] 206)).alloc (.cells #[(e:Int)] 3)).alloc (.cells #[.bool b] 4)).alloc (.cells #[.int .i64 0] 3));have p:Below w.heap.size w l:=by rw [<-k];exact (((bR.alloc nL _).alloc (by simp) _).alloc (by simp;omega) _).alloc (by simp;omega) _
 have x:Bk l (w.heap.size+1) 3 #[(e:Int)]:=by rw [<-k];have j:=Bk.new (w.alloc (.cells #[c,.int .i64 g,.int .i64 i] 206)) 3 #[(e:Int)];rw [show (w.alloc (.cells #[c,.int .i64 g,.int .i64 i] 206)).heap.size=w.heap.size+1 from by simp] at j;exact (j.alloc _).alloc _
 have y:Bk l (w.heap.size+1+1) 4 #[.bool b]:=by rw [<-k];have j:=Bk.new ((w.alloc (.cells #[c,.int .i64 g,.int .i64 i] 206)).alloc (.cells #[(e:Int)] 3)) 4 #[.bool b];rw [show ((w.alloc (.cells #[c,.int .i64 g,.int .i64 i] 206)).alloc (.cells #[(e:Int)] 3)).heap.size=w.heap.size+1+1 from by simp] at j;exact j.alloc _
 have z:Bk l (w.heap.size+1+1+1) 3 #[.int .i64 0]:=by rw [<-k];have j:=Bk.new (((w.alloc (.cells #[c,.int .i64 g,.int .i64 i] 206)).alloc (.cells #[(e:Int)] 3)).alloc (.cells #[.bool b] 4)) 3 #[.int .i64 0];rw [show (((w.alloc (.cells #[c,.int .i64 g,.int .i64 i] 206)).alloc (.cells #[(e:Int)] 3)).alloc (.cells #[.bool b] 4)).heap.size=w.heap.size+1+1+1 from by simp] at j;exact j
 have H:=q.below p q.lt;have F:=E.below p;obtain ⟨R,Q,K,L,M,P,r⟩:=hqq7 H F x y z k p;clear q E H F x y z k p;go_enter func202,ntmps202;go_wp2_with fail;rw [P.out];refine (aFX o c _ _ _ s I J g i _ n e b l R.out Q.out K.out L.out M.out T).mono ?_;rintro f w1 ⟨rfl,G,C,D⟩;have A:Vis w w1:=VisF.to_vis (VisF.trans (VisF.of_vis (Vis.of_below r.out)) G) (fun b S f=>by omega);have B:Keep (fun b=>b=o∨b=c) w w1:=(Keep.of_below r.out).trans' C (fun b S f=>by
  rcases f with f | f | f;exact .inl f;exact .inr f
  · omega)
 have V:w1.cell? ⟨w.heap.size+1+1+1,0,none⟩=some (.int .i64 (((n.take e).count b:Nat):Int)):=(D.cell 0).trans rfl;obtain ⟨N,O⟩:=hqq2 A B;clear G C D A B;go_wp2_with fail;go_ret;exact ⟨rfl,N.out,O.out⟩
def rD (e:Nat) (c:List Bool) (b:Nat) (w:World) (f:Bk w e 292 (gK c)) (k:b < c.length):
 Calls prog 275 #[e,(b:Int)] w fun g i=>g=.returned (.int .i64 0)/\Below w.heap.size w i:=by
 have j:w.cell? e=some (.int .i64 (c.length:Int)):=(f.cell 0).trans rfl;have o:=f.lt;have l:¬(b:Int) < 0:=oM;have n:decide ((b:Int)>=(c.length:Int))=false:=by simp;omega
 clear f;go_enter func275,ntmps275;go_wp2_with fail;go_ret;exact ⟨rfl,Below.refl _ _⟩
def aJq (c:List Bool) (b:Nat):(if b < 64 then w0 c >>> b else w1 c >>>(b - 64))&&& 1=if c.getD b false then 1 else 0:=by
 by_cases f:b < 64
 · rw [zBx f];have:=jB (c.take 64) b;rw [Nat.and_one_is_mod,Nat.shiftRight_eq_div_pow,<-Nat.toNat_testBit,show (w0 c).testBit b=(c.take 64).getD b false from this];have e:(c.take 64).getD b false=c.getD b false:=(by simp [zAb,zBs,f]);rw [e];cases c.getD b false <;> rfl
 · rw [zBw f];have:=jB (c.drop 64) (b - 64);rw [Nat.and_one_is_mod,Nat.shiftRight_eq_div_pow,<-Nat.toNat_testBit,show (w1 c).testBit (b - 64)=(c.drop 64).getD (b - 64) false from this];have e:(c.drop 64).getD (b - 64) false=c.getD b false:=(by simp [zAb,zBt,show 64+(b - 64)=b by omega]);rw [e];cases c.getD b false <;> rfl
def aEy (c b:Nat) (e:Bool) (k:c < 18446744073709551616) (j:c >>> b&&& 1=if e then 1 else 0):(bits .and .u64 ((c:Int)/ 2 ^ b) 1==1)=e:=by
 have f:=zU c b 1 (2 ^ b) k oM rfl;have g:((2 ^ b:Nat):Int)=(2:Int)^ b:=by push_cast;rfl
 rw [g] at f;have i:bits .and .u64 ((c:Int)/ 2 ^ b) 1=((c >>> b&&& 1:Nat):Int):=f;rw [i,j];cases e <;> rfl
def aA6 (g:Nat) (c:List Bool) (b:Nat) (w:World) (n:Bk w g 292 (gK c)) (D:c.length<=128) (C:b < c.length):
 Calls prog 251 #[g,(b:Int)] w fun p E=>p=.returned (.tuple #[.bool (c.getD b false),.int .i64 0])/\Below w.heap.size w E:=by
 have f:=lhd n;have e:=aJq c b;obtain ⟨o,r⟩:=eqx (c.getD b false);rw [r] at e⊢;clear r;have v:=lS c;have b1:=lP c D;have G:=n.lt;clear n;go_enter func251,ntmps251;go_wp2_with fail;refine (rD g c b _ f.out C).mono ?_;rintro p s ⟨rfl,i⟩;have j:=f.out.below i f.out.lt;have x:s.cell? ⟨g,1,none⟩=some (.int .u64 ((w0 c:Nat):Int)):=(j.cell 1).trans rfl;have y:s.cell? ⟨g,2,none⟩=some (.int .u64 ((w1 c:Nat):Int)):=(j.cell 2).trans rfl;have H:=j.lt;by_cases q:b < 64
 · rw [zBx q] at e;have z:(b:Int).tdiv 64=0:=(by rw [Int.tdiv_eq_ediv_of_nonneg oM];omega);have A:(b:Int).tmod 64=(b:Int):=(by rw [Int.tmod_eq_emod_of_nonneg oM];omega);have B:IntKind.u64.wrap (b:Int)=(b:Int):=(by rw [IntKind.wrap_u64];omega);generalize w0 c=u at*
   obtain ⟨l,k⟩:=hqq2 e i;clear i j y f e;go_wp2_with fail;go_ret2;exact ⟨by rw [aEy u b o v l.out];rfl,k.out⟩
 · rw [zBw q] at e;have z:(b:Int).tdiv 64=1:=(by rw [Int.tdiv_eq_ediv_of_nonneg oM];omega);have A:(b:Int).tmod 64=((b - 64:Nat):Int):=(by rw [Int.tmod_eq_emod_of_nonneg oM];omega);have B:IntKind.u64.wrap ((b - 64:Nat):Int)=((b - 64:Nat):Int):=(by rw [IntKind.wrap_u64];omega);have F:b - 64 < 64:=oM;generalize w1 c=u at*
   generalize b - 64=k2 at*
   obtain ⟨l,k⟩:=hqq2 e i;clear i j x f e;go_wp2_with fail;go_ret2;exact ⟨by rw [aEy u k2 o b1 l.out];rfl,k.out⟩
def sW (b:Nat) (e:List Bool) (g:Nat) (w:World) (i:TreeAt w b e) (D:g < e.length):
 Calls prog 250 #[b,(g:Int)] w fun n F=>n=.returned (.int .i64 0)/\VisK (fun y=>y=b) w F:=by
 have E:∃f,Bk w b 261 f/\3 < f.size:=by obtain ⟨H,O,⟨rfl,P,o⟩|⟨K,o,J,G,I,B⟩⟩:=i;exact ⟨_,o,by simp⟩;exact ⟨_,B.tree,by simp⟩
 obtain ⟨f,c,C⟩:=E;have j:=VisK.set_tree c 0;have r:=i.vis j.1;have L:=c.lt;have z:w.cell? ⟨b,3,none⟩=some f[3]:=by rw [c.cell 3];simp [C]
 have A:=c.frozen 3;have M:¬(g:Int) < 0:=oM;obtain ⟨k,l⟩:=hqq2 j r;obtain ⟨x,p⟩:=eqx e.length;have u:=lhd p;have N:¬(x<=g):=oM;clear i j r c p D;go_enter func250,ntmps250;go_wp2_with fail;clear z A;refine (fT b e _ l.out).mono ?_;rintro n Q ⟨rfl,q⟩;rw [u.out];have s:=k.out.below q;have v:=lhd s;clear s q k l;go_wp2_with fail;go_ret;exact ⟨rfl,v.out⟩
def aCi (f:Nat) (b:List Bool) (e:Nat) (w:World) (r:TreeAt w f b) (i:e < b.length):
 Calls prog 201 #[f,(e:Int)] w fun l H=>l=.returned (.tuple #[.bool (b.getD e false),.int .i64 0])/\VisK (fun D=>D=f) w H:=by
 have k:=lhd r;obtain ⟨L,g⟩:=eqx (b.getD e false);rw [g];obtain ⟨B,C⟩:=hqq2 g i;clear r g;go_enter func201,ntmps201;go_wp2_with fail;refine (sW f b e w k.out i).mono ?_;rintro l I ⟨rfl,o⟩;have F:=k.out.vis o.1;have z:=lhd o;clear o k;obtain ⟨a0,G,⟨n,_,_⟩|⟨n,s,E,Q,q,c⟩⟩:=F
 · rw [n] at i;simp at i
 clear i;obtain ⟨M,N,O,P,R,S,T,U,V,W,X,Y⟩:=c.cells;have a3:=c.row.lt;have a1:=c.tree.lt;have a2:f≠E:=c.row.bk_ne c.tree dC;have Z:=c.tree.frozen 3;obtain ⟨j,p⟩:=hqq2 c s;clear c s n;go_wp2_with fail;go_loopw [1,7,8] (fun J K a5 wr=>J=.int .i64 (e:Int)/\K=.int .i64 0/\wr=I) (fun _ _ _ _=>0)
 case atStart=>exact ⟨rfl,rfl,rfl⟩
 case round=>obtain ⟨rfl,rfl,rfl⟩:=hrel;go_wp2_with fail;have v:=Bk.ne j.out.blk j.out.tree dC;have g:=p.out;have x:=(VisK.set_tree j.out.tree (wrap64 (G+1))).alloc (.cells #[.int .i64 (-1),.int .i64 (-1),.int .i64 0,(b.length:Int),.int .i64 ((b.count true:Nat):Int),.int .i64 0,.int .i64 0,q] 271);refine (aA6 q b e _ ((j.out.blk.far v _).alloc _) p.out C.out).mono ?_;rintro l a4 ⟨rfl,u⟩;rw [B.out];have y:=(z.out.trans x).below u;have A:=lhd y;clear x u y v g;go_wp2_with fail;go_ret2;exact ⟨rfl,A.out⟩
end
end Go.Proofs.YtcfpmjbojoidoaaGreatDoor
