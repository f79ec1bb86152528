/- Lemmas of the walk. Conditions: each its own. -/
import Derived.Test.YtnmapianpjamnaaGreatDoorPk2
import Derived.Test.YtnmapianpjamnaaGreatDoorPk3
import Derived.Test.YtnmapianpjamnaaGreatDoorPk4
import Derived.Test.YtnmapianpjamnaaGreatDoorProg
set_option linter.all false
set_option maxRecDepth 100000
set_option maxHeartbeats 4000000
namespace Go.Proofs.YtnmapianpjamnaaGreatDoor
open Tryz
open Go.RowKit
namespace Tr
def Le:Tr->Prop
 | lf a=>a.length<=128
 | nd b c=>b.Le/\c.Le
def Full.le:∀ {b:Tr},b.Full->b.Le
 | lf c,a=>a.2
 | nd d e,a=>⟨Full.le a.1,Full.le a.2⟩
def Near.le {b:Tr} (a:Near b):b.Le:=by
 rcases a with a |⟨c,rfl,a⟩;exact a.le;simp only [Le];omega
def Ok.le {a:Tr} (b:a.Ok):a.Le:=by
 cases a with
 | lf c=>exact b.2
 | nd d e=>exact Full.le b.2
def ht_lv:∀a:Tr,a.ht+1<=a.lv
 | lf d=>zAs _
 | nd b c=>by have e:=ht_lv b;have f:=ht_lv c;simp only [ht,lv];omega
end Tr
def lA (x y:Int) (gb:Nat):List Value:= [.int .i64 (-1),.int .i64 (-1),.int .i64 0,.int .i64 x,.int .i64 y,.int .i64 0,.int .i64 0,.pointer (some gb)]
def ndL (b e a n o c d:Int):List Value:= [.int .i64 b,.int .i64 e,.int .i64 a,.int .i64 n,.int .i64 o,.int .i64 c,.int .i64 d,.pointer none]
def At8 (xs:List Value) (k:Nat) (b:List Value):Prop:=b.length=8/\∀a,a < 8->xs[k*8+a]?=b[a]?
def At8.get {xs:List Value} {k:Nat} {b:List Value} (c:At8 xs k b) (a:Nat) (d:a < 8):xs[k*8+a]?=b[a]?:=c.2 a d
def At8.lt {xs:List Value} {k n:Nat} {a:List Value} (b:At8 xs k a) (f:xs.length=n*8):k < n:=by
 have c:=b.2 7 oM;have d:7 < a.length:=by rw [b.1];omega
 rw [zAa d] at c;obtain ⟨e,_⟩:=zAc.1 c;omega
def At8.set {xs:List Value} {k:Nat} {a:List Value} (c:At8 xs k a) {j:Nat} (l:j < 8) (v:Value):At8 (xs.set (k*8+j) v) k (a.set j v):=by
 refine ⟨by rw [zAt];exact c.1,fun d i=>?_⟩;have b:=c.2 d i;by_cases f:d=j
 · subst f;have e:d < a.length:=(by rw [c.1];omega);rw [zAa e] at b;obtain ⟨g,_⟩:=zAc.1 b;rw [List.getElem?_set_self g,List.getElem?_set_self e]
 rw [List.getElem?_set_ne oM,List.getElem?_set_ne oM];exact b
def At8.set_ne {xs:List Value} {k a:Nat} {b:List Value} (c:At8 xs a b) (i:a≠k) {d:Nat} (g:d < 8) (v:Value):At8 (xs.set (k*8+d) v) a b:=by
 refine ⟨c.1,fun f e=>?_⟩;rw [List.getElem?_set_ne oM];exact c.2 f e
def At8.app {xs:List Value} {f:Nat} {b:List Value} (a:At8 xs f b) (j:List Value):At8 (xs++j) f b:=by
 refine ⟨a.1,fun c e=>?_⟩;have d:=a.2 c e;have g:c < b.length:=by rw [a.1];omega
 rw [zAa g] at d;obtain ⟨i,_⟩:=zAc.1 d;rw [zAn i];exact a.2 c e
def At8.new {xs:List Value} {n:Nat} {a:List Value} (c:xs.length=n*8) (b:a.length=8):At8 (xs++a) n a:=by
 refine ⟨b,fun e d=>?_⟩;rw [zAo oM,c,Nat.add_sub_cancel_left]
def At8.ex {xs:List Value} {k n:Nat} (E:xs.length=n*8) (D:k < n):∃c d e f g i j l,At8 xs k [c,d,e,f,g,i,j,l]:=by
 have a:∀b,b < 8->∃C,xs[k*8+b]?=some C:=fun b B=>⟨_,zAa oM⟩;obtain ⟨c,m⟩:=a 0 oM;obtain ⟨d,p⟩:=a 1 oM;obtain ⟨e,q⟩:=a 2 oM;obtain ⟨f,r⟩:=a 3 oM;obtain ⟨g,s⟩:=a 4 oM;obtain ⟨i,t⟩:=a 5 oM;obtain ⟨j,u⟩:=a 6 oM;obtain ⟨l,z⟩:=a 7 oM;refine ⟨c,d,e,f,g,i,j,l,rfl,fun b B=>?_⟩;rcases b with _ | _ | _ | _ | _ | _ | _ | _ | b;exact m;exact p;exact q;exact r;exact s;exact t;exact u;exact z;omega
def But8 (k:Nat) (xs c:List Value):Prop:=∀a b,a≠k->At8 xs a b->At8 c a b
def But8.refl (k:Nat) (xs:List Value):But8 k xs xs:=fun _ _ _ a=>a
def But8.trans {k:Nat} {xs d e:List Value} (i:But8 k xs d) (g:But8 k d e):But8 k xs e:=fun c a b f=>g c a b (i c a b f)
def But8.set (k:Nat) (xs:List Value) {j:Nat} (b:j < 8) (v:Value):But8 k xs (xs.set (k*8+j) v):=fun e d c a=>a.set_ne c b v
inductive LT where
 | lf (k g:Nat) (b:List Bool)
 | nd (k:Nat) (l r:LT)
namespace LT
def num:LT->Nat
 | lf k _ _=>k
 | nd k _ _=>k
def er:LT->Tr
 | lf _ _ a=>.lf a
 | nd _ b c=>.nd b.er c.er
def nums:LT->List Nat
 | lf k _ _=> [k]
 | nd k a b=>k::(a.nums++b.nums)
def blks:LT->List Nat
 | lf _ a _=> [a]
 | nd _ b c=>b.blks++c.blks
abbrev bits (a:LT):List Bool:=a.er.bits
abbrev len (a:LT):Nat:=a.er.bits.length
abbrev on (a:LT):Nat:=a.er.bits.count true
abbrev ht (a:LT):Nat:=a.er.ht
def cells:LT->List Value
 | lf _ g c=>lA (c.length:Int) ((c.count true:Nat):Int) g
 | nd _ a b=>ndL (a.num:Int) (b.num:Int) ((max a.ht b.ht+1:Nat):Int) ((a.len+b.len:Nat):Int) ((a.on+b.on:Nat):Int) (a.len:Int) (a.on:Int)
def In (w:World) (xs:List Value):LT->Prop
 | lf k b a=>At8 xs k (cells (lf k b a))/\Bk w b 240 (gQ a)
 | nd k c d=>At8 xs k (cells (nd k c d))/\In w xs c/\In w xs d
def In.at {w:World} {xs:List Value} {a:LT} (b:a.In w xs):At8 xs a.num a.cells:=by
 cases a with
 | lf k d c=>exact b.1
 | nd k e f=>exact b.1
def In.keep {w w':World} {xs l:List Value}:∀ {g:LT},g.In w xs->(∀b,b∈g.nums->∀d,At8 xs b d->At8 l b d)->(∀a,a∈g.blks->∀d,Bk w a 240 d->Bk w' a 240 d)->g.In w' l
 | lf k a m,c,e,f=>⟨e k (by simp [nums]) _ c.1,f a (by simp [blks]) _ c.2⟩
 | nd k p q,c,e,f=>⟨e k (by simp [nums]) _ c.1,In.keep c.2.1 (fun b j=>e b (by simp [nums,j])) (fun a i=>f a (by simp [blks,i])),In.keep c.2.2 (fun b j=>e b (by simp [nums,j])) (fun a i=>f a (by simp [blks,i]))⟩
def In.blk {w:World} {xs:List Value}:∀ {d:LT},d.In w xs->∀c,c∈d.blks->∃e,Bk w c 240 e
 | lf k c f,b,x,a=>by simp only [blks,List.mem_singleton] at a;subst a;exact ⟨_,b.2⟩
 | nd k g i,b,x,a=>by simp only [blks,zCl] at a;rcases a with a | a;exact In.blk b.2.1 x a;exact In.blk b.2.2 x a
def len_nd (k:Nat) (a b:LT):(nd k a b).len=a.len+b.len:=by simp [len,er,Tr.bits]
def on_nd (k:Nat) (a b:LT):(nd k a b).on=a.on+b.on:=by simp [on,er,Tr.bits]
def on_le (a:LT):a.on<=a.len:=zBu
end LT
def uJ (a b:Int) (e n o:Nat) (c d:Int) (f:Option Addr):List Value:= [.int .i64 a,.int .i64 b,.int .i64 (e:Int),.int .i64 (n:Int),.int .i64 (o:Int),.int .i64 c,.int .i64 d,.pointer f]
def LT.cel (b:LT):∃d e f g l,b.cells=uJ d e b.ht b.len b.on f g l:=by
 cases b with
 | lf k p m=>exact ⟨_,_,_,_,_,rfl⟩
 | nd k a c=>
   have i:=LT.len_nd k a c;have j:=LT.on_nd k a c;exact ⟨a.num,c.num,a.len,a.on,none,by rw [i,j];rfl⟩
def iC {w:World} {e n j d f:Nat} {c:TypeId} {xs:List Value} (g:w.ownsRow e c j (.slice (some d) n f) n xs):∃b,Bk w d c b:=by
 rcases g.2 with ⟨a,_⟩|⟨l,cap,b,a,_,i,_⟩
 · cases a
 injection a with a _ _;injection a with a;injection a with a _;subst a;exact ⟨b,i⟩
def jA {w:World} {e:TypeId} {q n d b:Nat} {A:Option Addr} {xs:List Value} {f:TypeId} {g:Array Value} (p:w.ownsRow 0 e q (.slice A n d) n xs) (a:(Value.slice A n d).ownBlock=some b) (m:Bk w b f g):f=e:=by
 rcases p.2 with ⟨c,_⟩|⟨j,cap,r,c,_,l,_⟩
 · rw [c] at a;cases a
 rw [c] at a;injection a with a;have i:j=b:=a;subst i;exact (aU m l).1
def ArenaE.own {w:World} {F:Nat->Prop} {ga:Nat} {tk:List Bool} {fr:List Nat} (r:ArenaE w F ga tk fr):∃d:Nat->Prop,(∀a,d a->F a)/\(∀a c p,d a->Bk w a c p->c=228∨c=4∨c=3)/\(∀a,d a->a < w.heap.size)/\ArenaE w d ga tk fr:=by
 obtain ⟨s,l,q,j,m,e,f,g,t,u⟩:=r;refine ⟨fun a=>a=ga∨(Value.slice l tk.length q).ownBlock=some a∨(Value.slice j fr.length m).ownBlock=some a,fun a b=>?_,fun a c p b i=>?_,fun a b=>?_,.inl rfl,l,q,j,m,e,f,g,fun a b=>.inr (.inl b),fun a b=>.inr (.inr b)⟩;rcases b with rfl | b | b;exact s;exact t a b;exact u a b;rcases b with rfl | b | b;exact .inl (aU i e).1;exact .inr (.inl (jA f b i));exact .inr (.inr (jA g b i));rcases b with rfl | b | b;exact e.lt;exact (f.lt a b).2;exact (g.lt a b).2
structure TR (w:World) (gt ga:Nat) (A:Option Addr) (cap n:Nat) (xs:List Value) (rt v:Int):Prop where
 blk:Bk w gt 205 #[ga,.slice A n cap,.int .i64 rt,.int .i64 v]
 row:w.ownsRow 0 220 8 (.slice A n cap) n xs
section
variable {w w' : World} {F G : Nat -> Prop} {gt ga cap n : Nat} {A : Option Addr} {xs : List Value} {tk : List Bool} {fr : List Nat} {rt v : Int}
def TR.vis (b:TR w gt ga A cap n xs rt v) (k:Vis w w'):∃a,TR w' gt ga A cap n xs rt a:=by
 obtain ⟨a,c⟩:=k.tree b.blk;exact ⟨a,c,k.own b.row dC dC⟩
def TR.same (d:TR w gt ga A cap n xs rt v) (k:∀a c b,c∈ [205,220]->Bk w a c b->Bk w' a c b):TR w' gt ga A cap n xs rt v:=
 ⟨k _ _ _ dC d.blk,aA d.row fun a b _ e=>k _ _ _ dC e⟩
def TR.below (b:TR w gt ga A cap n xs rt v) (k:Below w.heap.size w w'):TR w' gt ga A cap n xs rt v:=b.same fun c e d _ a=>a.below k a.lt
def TR.len (a:TR w gt ga A cap n xs rt v):xs.length=n*8:=a.row.1
def TR.ex (c:TR w gt ga A cap n xs rt v) (e:0 < n):∃gl a,A=some ⟨gl,0,none⟩/\Bk w gl 220 a:=by
 obtain ⟨gl,f,b,_,_⟩:=World.ownsRow.form c.row e;injection b with b _ h2;subst b;obtain ⟨a,d⟩:=iC c.row;exact ⟨gl,a,rfl,d⟩
def TR.setrt (a:TR w gt ga A cap n xs rt v) (c:Int):TR (w.setCell ⟨gt,2,none⟩ (.int .i64 c)) gt ga A cap n xs c v:=
 ⟨a.blk.set 2 _,aA a.row fun d e _ b=>b.far (p:=⟨gt,2,none⟩) (Bk.ne b a.blk dC) _⟩
def TR.c0 (a:TR w gt ga A cap n xs rt v):w.cell? gt=some (.pointer (some ga)):=(a.blk.cell 0).trans rfl
def TR.c1 (a:TR w gt ga A cap n xs rt v):w.cell? ⟨gt,1,none⟩=some (.slice A n cap):=(a.blk.cell 1).trans rfl
def TR.c2 (a:TR w gt ga A cap n xs rt v):w.cell? ⟨gt,2,none⟩=some (.int .i64 rt):=(a.blk.cell 2).trans rfl
def TR.c3 (a:TR w gt ga A cap n xs rt v):w.cell? ⟨gt,3,none⟩=some (.int .i64 v):=(a.blk.cell 3).trans rfl
def TR.at {gl k:Nat} {c d e f g i j l:Value} (p:TR w gt ga (some ⟨gl,0,none⟩) cap n xs rt v) (m:At8 xs k [c,d,e,f,g,i,j,l]):
 w.cell? ⟨gl,k*8,none⟩=some c/\w.cell? ⟨gl,k*8+1,none⟩=some d/\w.cell? ⟨gl,k*8+2,none⟩=some e/\w.cell? ⟨gl,k*8+3,none⟩=some f/\w.cell? ⟨gl,k*8+4,none⟩=some g/\w.cell? ⟨gl,k*8+5,none⟩=some i/\w.cell? ⟨gl,k*8+6,none⟩=some j/\w.cell? ⟨gl,k*8+7,none⟩=some l:=by
 have r:=m.lt p.len;have a:∀b,b < 8->w.cell? ⟨gl,k*8+b,none⟩= [c,d,e,f,g,i,j,l][b]?:=fun b q=>(World.ownsRow.cellAt p.row (k*8+b) oM).trans (m.2 b q);exact ⟨a 0 oM,a 1 oM,a 2 oM,a 3 oM,a 4 oM,a 5 oM,a 6 oM,a 7 oM⟩
def LT.In.vis {a:LT} (c:a.In w xs) (k:Vis w w'):a.In w' xs:=c.keep (fun _ _ _ b=>b) fun f _ e d=>k.bk d dC dC
def LT.In.below {b:LT} (d:b.In w xs) (k:Below w.heap.size w w'):b.In w' xs:=d.keep (fun _ _ _ c=>c) fun f _ e a=>a.below k a.lt
structure TX (w:World) (F:Nat->Prop) (gt ga:Nat) (A:Option Addr) (cap n:Nat) (xs:List Value) (tk:List Bool) (fr:List Nat) (rt v:Int):Prop where
 fg:F gt
 rd:TR w gt ga A cap n xs rt v
 own:OwnF F (.slice A n cap)
 ar:ArenaE w F ga tk fr
 tkn:tk.length=n
 tkv:∀k,k < n->tk[k]?=some (decide (k∉fr))
def TX.vis (a:TX w F gt ga A cap n xs tk fr rt v) (k:Vis w w'):∃b,TX w' F gt ga A cap n xs tk fr rt b:=by
 obtain ⟨b,c⟩:=a.rd.vis k;exact ⟨b,a.fg,c,a.own,a.ar.vis k,a.tkn,a.tkv⟩
def TX.mono (a:TX w F gt ga A cap n xs tk fr rt v) (k:∀b,b < w.heap.size->F b->G b):TX w G gt ga A cap n xs tk fr rt v:=
 ⟨k _ a.rd.blk.lt a.fg,a.rd,fun b c=>k b (a.rd.row.lt b c).2 (a.own b c),a.ar.mono k,a.tkn,a.tkv⟩
def TX.keep (a:TX w F gt ga A cap n xs tk fr rt v) (k:Keep G w w') (e:∀b d c,d∈ [205,228,220,4,3]->Bk w b d c->F b->¬G b):TX w' F gt ga A cap n xs tk fr rt v:=
 ⟨a.fg,⟨k.bk a.rd.blk (e _ _ _ dC a.rd.blk a.fg),aA a.rd.row fun b c g f=>k.bk f (e _ _ _ dC f (a.own b g))⟩,a.own,a.ar.keep k fun b d c ht=>e b d c (by simp at ht;rcases ht with rfl | rfl | rfl <;> decide),a.tkn,a.tkv⟩
def TX.below (b:TX w F gt ga A cap n xs tk fr rt v) (k:Below w.heap.size w w'):TX w' F gt ga A cap n xs tk fr rt v:=b.keep (G:=fun _=>False) (Keep.of_below k) fun _ _ _ _ _ _ a=>a
def TX.ar_tree (b:TX w F gt ga A cap n xs tk fr rt v) (d:Nat) (i:Value):ArenaE (w.setCell ⟨gt,d,none⟩ i) F ga tk fr:=
 b.ar.keep (G:=fun a=>a=gt) (Keep.setCell (F:=fun a=>a=gt) (Keep.refl _ _) (p:=⟨gt,d,none⟩) (.inl rfl) _) fun a l j c g _ e=>by have f:a=gt:=e;subst f;rw [(aU g b.rd.blk).1] at c;exact absurd c dC
def TX.setrt (a:TX w F gt ga A cap n xs tk fr rt v) (b:Int):TX (w.setCell ⟨gt,2,none⟩ (.int .i64 b)) F gt ga A cap n xs tk fr b v:=⟨a.fg,a.rd.setrt b,a.own,a.ar_tree 2 _,a.tkn,a.tkv⟩
def TX.put {gl:Nat} (a:TX w F gt ga (some ⟨gl,0,none⟩) cap n xs tk fr rt v) (c:Nat) (d:Value):TX (w.setCell ⟨gl,c,none⟩ d) F gt ga (some ⟨gl,0,none⟩) cap n (xs.set c d) tk fr rt v:=by
 obtain ⟨m,e⟩:=iC a.rd.row;refine ⟨a.fg,⟨a.rd.blk.far (p:=⟨gl,c,none⟩) (Bk.ne a.rd.blk e dC) _,(World.ownsRow.stored a.rd.row c d).1⟩,a.own,a.ar.keep (G:=fun b=>b=gl) (Keep.setCell (F:=fun b=>b=gl) (Keep.refl _ _) (p:=⟨gl,c,none⟩) (.inl rfl) _) fun b q l f j _ g=>?_,a.tkn,a.tkv⟩;have i:b=gl:=g;subst i;rw [(aU j e).1] at f;exact absurd f dC
structure LK (F:Nat->Prop) (bl:List Nat) (w w':World):Prop where
 keep:Keep F w w'
 blk:∀g cs,g∉bl->Bk w g 240 cs->Bk w' g 240 cs
def LK.refl (F:Nat->Prop) (a:List Nat) (w:World):LK F a w w:=⟨Keep.refl _ _,fun _ _ _ b=>b⟩
def LK.trans {a:List Nat} {w1:World} (d:LK F a w w1) (k:LK F a w1 w'):LK F a w w':=⟨d.keep.trans k.keep,fun c b e f=>k.blk c b e (d.blk c b e f)⟩
def LK.mono {b c:List Nat} (d:LK F b w w') (k:∀a,a < w.heap.size->a∈b->a∈c):LK F c w w':=⟨d.keep,fun a f i e=>d.blk a f (fun g=>i (k a e.lt g)) e⟩
def LK.below {bl:List Nat} (k:Below w.heap.size w w'):LK F bl w w':=⟨Keep.of_below k,fun c b _ a=>a.below k a.lt⟩
def LK.of {d:List Nat} (k:Keep G w w') (g:∀a,a < w.heap.size->G a->F a) (i:∀a b,G a->¬Bk w a 240 b):LK F d w w':=⟨k.mono g,fun f b _ c=>k.bk c fun e=>i f b e c⟩
def LK.set {a i:Nat} {d:TypeId} {e:Array Value} {bl:List Nat} (j:Bk w a d e) (ht:d≠240) (l:F a) (m:Value):LK F bl w (w.setCell ⟨a,i,none⟩ m):=
 LK.of (G:=fun b=>b=a) (Keep.setCell (F:=fun b=>b=a) (Keep.refl _ _) (p:=⟨a,i,none⟩) (.inl rfl) _) (fun b _ c=>by rw [c];exact l) fun b q c g=>by have f:b=a:=c;subst f;exact ht (aU j g).1
def LK.one {a:Nat} (k:Keep (fun c=>c=a) w w') (e:F a):LK F [a] w w':=⟨k.mono fun c _ b=>by rw [b];exact e,fun x g f d=>k.bk d fun b=>f (by simp [show x=a from b])⟩
def ButL (c:List Nat) (xs d:List Value):Prop:=∀a b,a∉c->At8 xs a b->At8 d a b
def ButL.refl (b:List Nat) (xs:List Value):ButL b xs xs:=fun _ _ _ a=>a
def ButL.trans {a:List Nat} {e f:List Value} (j:ButL a xs e) (i:ButL a e f):ButL a xs f:=fun d b c g=>i d b c (j d b c g)
def But8.l {k:Nat} {a:List Nat} {b:List Value} (f:But8 k xs b) (g:k∈a):ButL a xs b:=fun j d i c=>f j d (fun e=>i (e ▸ g)) c
def LT.In.but {c:LT} {f e:List Nat} {g:List Value} (l:c.In w xs) (k:ButL f xs g) (j:LK F e w w') (m:∀b,b∈c.nums->b∉f) (p:∀a,a∈c.blks->a∉e):c.In w' g:=
 l.keep (fun b s d i=>k b d (m b s) i) fun a q d r=>j.blk a d (p a q) r
end
def RowS (gl cl n k:Nat) (xs:List Value) (gb:Nat) (x y:Int) (w:World):Prop:=∃a,w.ownsRow 0 220 8 (.slice (some gl) n cl) n a/\At8 a k (lA x y gb)/\But8 k xs a
section
variable {gl cl n k gb : Nat} {xs : List Value} {x y : Int} {w w' : World}
def RowS.grow (b:RowS gl cl n k xs gb x y w) (a:Below w.heap.size w w'):RowS gl cl n k xs gb x y w':=by
 obtain ⟨f,c,d,e⟩:=b;exact ⟨f,aF c a,d,e⟩
def RowS.at3 (b:RowS gl cl n k xs gb x y w) (a:Int):RowS gl cl n k xs gb a y (w.setCell ⟨gl,k*8+3,none⟩ (.int .i64 a)):=by
 obtain ⟨f,c,d,e⟩:=b;exact ⟨_,(World.ownsRow.stored c (k*8+3) (.int .i64 a)).1,d.set oM _,e.trans (But8.set k f oM _)⟩
def RowS.at4 (b:RowS gl cl n k xs gb x y w) (a:Int):RowS gl cl n k xs gb x a (w.setCell ⟨gl,k*8+4,none⟩ (.int .i64 a)):=by
 obtain ⟨f,c,d,e⟩:=b;exact ⟨_,(World.ownsRow.stored c (k*8+4) (.int .i64 a)).1,d.set oM _,e.trans (But8.set k f oM _)⟩
def RowS.lt (a:RowS gl cl n k xs gb x y w):gl < w.heap.size:=by
 obtain ⟨e,b,c,d⟩:=a;exact (World.ownsRow.lt b gl rfl).2
def RowS.bk_ne {a:Nat} {b:TypeId} {c:Array Value} (e:RowS gl cl n k xs gb x y w) (g:Bk w a b c) (i:220≠b):a≠gl:=by
 obtain ⟨m,f,j,l⟩:=e;exact fun d=>aQ f g i (by rw [d];rfl)
def RowS.cell (d:RowS gl cl n k xs gb x y w) (a:Nat) (e:a < 8):w.cell? ⟨gl,k*8+a,none⟩=(lA x y gb)[a]?:=by
 obtain ⟨g,b,c,f⟩:=d;have:=c.lt b.1;exact (World.ownsRow.cellAt b (k*8+a) oM).trans (c.2 a e)
def RowS.c3 (a:RowS gl cl n k xs gb x y w):w.cell? ⟨gl,k*8+3,none⟩=some (.int .i64 x):=a.cell 3 oM
def RowS.c4 (a:RowS gl cl n k xs gb x y w):w.cell? ⟨gl,k*8+4,none⟩=some (.int .i64 y):=a.cell 4 oM
def RowS.c7 (a:RowS gl cl n k xs gb x y w):w.cell? ⟨gl,k*8+7,none⟩=some (.pointer (some gb)):=a.cell 7 oM
def RowS.fz (b:RowS gl cl n k xs gb x y w) (a:Nat):w.frozen? ⟨gl,a,none⟩=false:=by
 obtain ⟨f,c,d,e⟩:=b;exact World.ownsRow.frozenAt c a
end
def aDk (a:World) (gl cl n k:Nat) (xs:List Value) (gb:Nat) (w1:World):Prop:=Keep (fun b=>b=gl) a w1/\∃x y,RowS gl cl n k xs gb x y w1
def aDi (gl cl n k:Nat) (xs:List Value) (gb:Nat) (d e:Int) (b:Nat) (w1 a:World):Prop:=
 (b=14->Keep (fun c=>c=gl) w1 a/\∀x y,RowS gl cl n k xs gb x y w1->RowS gl cl n k xs gb d y a)/\(b=17->Keep (fun c=>c=gl) w1 a/\∀x y,RowS gl cl n k xs gb x y w1->RowS gl cl n k xs gb x e a)/\(b≠14->b≠17->Grow w1 a)
def bF {gl cl n k:Nat} {xs:List Value} {gb:Nat} {d e:Int} {b:Nat} {w1 c:World} (g:b≠14) (i:b≠17) (f:Grow w1 c):aDi gl cl n k xs gb d e b w1 c:=⟨fun a=>absurd a g,fun a=>absurd a i,fun _ _=>f⟩
def aAb {g w1 m:World} {gl cl n k:Nat} {xs:List Value} {gb c:Nat} {p q:Int} (r:aDk g gl cl n k xs gb w1) (f:aDi gl cl n k xs gb p q c w1 m):aDk g gl cl n k xs gb m:=by
 obtain ⟨a,x,y,b⟩:=r;by_cases i:c=14;obtain ⟨d,e⟩:=f.1 i;exact ⟨a.trans d,_,_,e x y b⟩;by_cases j:c=17;obtain ⟨d,e⟩:=f.2.1 j;exact ⟨a.trans d,_,_,e x y b⟩;have l:=f.2.2 i j;exact ⟨a.trans (Keep.of_below l),x,y,b.grow l⟩
def N3 (gl cl n k:Nat) (xs:List Value) (gb:Nat) (a:Int):Value->World->Prop:=fun _ w1=>∃y,RowS gl cl n k xs gb a y w1
def N4 (gl cl n k:Nat) (xs:List Value) (gb:Nat) (a:Int):Value->World->Prop:=fun _ w1=>∃x,RowS gl cl n k xs gb x a w1
def aBq (gt ga gl cl n k gb:Nat) (xs:List Value) (rt v:Int) (bs:List Bool) (w:World) (ht:TR w gt ga (some ⟨gl,0,none⟩) cl n xs rt v) {S T:Int} (D:At8 xs k (lA S T gb)) (K:Bk w gb 240 (gQ bs)) (a0:bs.length<=128):
 Calls prog 235 #[gt,(k:Int)] w fun f w'=>f=.returned (.tuple #[])/\Keep (fun t=>t=gl) w w'/\RowS gl cl n k xs gb (bs.length:Int) ((bs.count true:Nat):Int) w':=by
 obtain ⟨q,H⟩:∃q:Int,(bs.length:Int)=q:=⟨_,rfl⟩;obtain ⟨m,I⟩:∃m:Int,((bs.count true:Nat):Int)=m:=⟨_,rfl⟩;rw [H,I];obtain ⟨U,V⟩:=hqq2 H I;have C:RowS gl cl n k xs gb S T w:=⟨xs,ht.row,D,But8.refl _ _⟩;have a6:=ht.c1;have a7:=(ht.at D).2.2.2.2.2.2.2;have ax:(k:Int) < (n:Int):=by have:=D.lt ht.len;omega
 have aw:=C.lt;have P:=C.bk_ne K dC;obtain ⟨O,W⟩:=hqq2 K C;clear H I ht K C D;go_enter func235,ntmps235;go_wp2;refine wp_region_any kR ?_;refine kG [18,19,20,21,22,23,24,25,26,27,28,29,30,31,32,33] (aDk w gl cl n k xs gb) (aDi gl cl n k xs gb q m) (fun _ _=>True) (Vs [is (.pointer (some ⟨gl,k*8,none⟩)),is (.pointer (some ⟨gl,k*8,none⟩)),is (.pointer (some ⟨gl,k*8,none⟩)),is (.pointer (some ⟨gl,k*8,none⟩)),is (.pointer (some ⟨gl,k*8+7,none⟩)),is gb,is (.int .i64 q),is (.pointer (some ⟨gl,k*8,none⟩)),is (.pointer (some ⟨gl,k*8,none⟩)),is (.pointer (some ⟨gl,k*8+7,none⟩)),is gb,is (.int .i64 m),is (.pointer (some ⟨gl,k*8,none⟩)),is (.pointer (some ⟨gl,k*8+3,none⟩)),N3 gl cl n k xs gb q,is (.pointer (some ⟨gl,k*8,none⟩)),is (.pointer (some ⟨gl,k*8+4,none⟩)),N4 gl cl n k xs gb m]) _ _ rfl kR ⟨⟨rfl,rfl,rfl,zAs _,fun _ _ _=>rfl⟩,_,_,W.out⟩ (fun _=>trivial) (fun M w1 a3 u k=>aAb u k) (fun _ _ _ _ _ _ _ _ _=>trivial) ?_ ?_ ?_;intro R M v w1 a3 Q av e au k;rcases R with _ | _ | _ | _ | _ | _ | _ | _ | _ | _ | _ | _ | _ | _ | _ | _ | _ | _ | R;exact e;exact e;exact e;exact e;exact e;exact e;exact e;exact e;exact e;exact e;exact e;exact e;exact e;exact e;obtain ⟨y,e⟩:=e;by_cases B:M=17;exact ⟨_,(k.2.1 B).2 _ _ e⟩;exact ⟨_,RowS.grow e (k.2.2 (fun f=>Q f.symm) B)⟩;exact e;exact e;obtain ⟨x,e⟩:=e;by_cases z:M=14;exact ⟨_,(k.1 z).2 _ _ e⟩;exact ⟨_,RowS.grow e (k.2.2 z (fun f=>Q f.symm))⟩;exact trivial
 · refine bN ?_;refine sC3 (fun r _ a _ _ _ s _ _ _ _ b=>?_) ?_
   · obtain ⟨g,i,j,d⟩:=a;have E:r (.tmp 4)=.pointer (some ⟨gl,k*8,none⟩):=s 4 kR;go_simp;exact b _ _ (bF dC dC bR) rfl
   refine sC3 (fun r _ a _ _ _ s _ _ _ _ b=>?_) ?_
   · obtain ⟨g,i,j,d⟩:=a;have E:r (.tmp 4)=.pointer (some ⟨gl,k*8,none⟩):=s 4 kR;go_simp;exact b _ _ (bF dC dC bR) rfl
   refine sC3 (fun r _ a _ _ _ s _ _ _ _ b=>?_) ?_
   · obtain ⟨g,i,j,d⟩:=a;have E:r (.tmp 4)=.pointer (some ⟨gl,k*8,none⟩):=s 4 kR;go_simp;exact b _ _ (bF dC dC bR) rfl
   refine sC3 (fun _ _ a _ _ _ _ c _ _ _ b=>?_) ?_
   · obtain ⟨g,i,j,d⟩:=a;have ac:_=_:=c 2 20 kR rfl;go_simp;exact b _ _ (bF dC dC bR) rfl
   refine sC3 (fun _ _ a _ _ _ _ c _ _ _ b=>?_) ?_
   · obtain ⟨g,i,j,d⟩:=a;have ad:_=_:=c 3 21 kR rfl;go_simp;exact b _ _ (bF dC dC bR) rfl
   refine sC3 (fun _ l a _ _ _ _ c _ _ _ b=>?_) ?_
   · obtain ⟨g,i,j,d⟩:=a;have ae:_=_:=c 4 22 kR rfl;have X:l.cell? ⟨gl,k*8+7,none⟩=some (.pointer (some gb)):=d.c7;go_simp;exact b _ _ (bF dC dC bR) rfl
   refine sC3 (fun _ l a _ _ _ _ c _ _ _ b=>?_) ?_
   · obtain ⟨g,i,j,d⟩:=a;have af:_=_:=c 5 23 kR rfl;have L:=g.bk O.out (fun f=>P f);go_simp;refine (sK gb bs l L).mono ?_;rintro f a4 ⟨rfl,rfl⟩;exact b _ _ (bF dC dC bR) (dH U.out)
   refine sC3 (fun r _ a _ _ _ s _ _ _ _ b=>?_) ?_
   · obtain ⟨g,i,j,d⟩:=a;have E:r (.tmp 4)=.pointer (some ⟨gl,k*8,none⟩):=s 4 kR;go_simp;exact b _ _ (bF dC dC bR) rfl
   refine sC3 (fun _ _ a _ _ _ _ c _ _ _ b=>?_) ?_
   · obtain ⟨g,i,j,d⟩:=a;have ah:_=_:=c 7 25 kR rfl;go_simp;exact b _ _ (bF dC dC bR) rfl
   refine sC3 (fun _ _ a _ _ _ _ c _ _ _ b=>?_) ?_
   · obtain ⟨g,i,j,d⟩:=a;have ai:_=_:=c 8 26 kR rfl;go_simp;exact b _ _ (bF dC dC bR) rfl
   refine sC3 (fun _ l a _ _ _ _ c _ _ _ b=>?_) ?_
   · obtain ⟨g,i,j,d⟩:=a;have aj:_=_:=c 9 27 kR rfl;have X:l.cell? ⟨gl,k*8+7,none⟩=some (.pointer (some gb)):=d.c7;go_simp;exact b _ _ (bF dC dC bR) rfl
   refine sC3 (fun _ l a _ _ _ _ c _ _ _ b=>?_) ?_
   · obtain ⟨g,i,j,d⟩:=a;have ak:_=_:=c 10 28 kR rfl;have L:=g.bk O.out (fun f=>P f);go_simp;refine (pQ gb bs l L a0).mono ?_;rintro f a4 ⟨rfl,rfl⟩;exact b _ _ (bF dC dC bR) (dH V.out)
   refine sC3 (fun _ _ a _ _ _ _ c _ _ _ b=>?_) ?_
   · obtain ⟨g,i,j,d⟩:=a;have aa:_=_:=c 0 18 kR rfl;go_simp;exact b _ _ (bF dC dC bR) rfl
   refine sC3 (fun _ _ a _ _ _ _ c _ _ _ b=>?_) ?_
   · obtain ⟨g,i,j,d⟩:=a;have am:_=_:=c 12 30 kR rfl;go_simp;exact b _ _ (bF dC dC bR) rfl
   refine sC3 (fun _ l a _ _ _ _ c _ _ _ b=>?_) ?_
   · obtain ⟨g,i,j,d⟩:=a;have an:_=_:=c 13 31 kR rfl;have ag:_=_:=c 6 24 kR rfl;have a8:l.cell? ⟨gl,k*8+3,none⟩=some (.int .i64 i):=d.c3;have aq:=d.fz (k*8+3);go_simp;exact b (.bool true) _ ⟨fun _=>⟨Keep.setCell (F:=fun t=>t=gl) (Keep.refl _ _) (p:=⟨gl,k*8+3,none⟩) (.inl rfl) _,fun x y u=>u.at3 q⟩,fun f=>absurd f dC,fun f=>absurd rfl f⟩ ⟨j,d.at3 q⟩
   refine sC3 (fun _ _ a _ _ _ _ c _ _ _ b=>?_) ?_
   · obtain ⟨g,i,j,d⟩:=a;have ab:_=_:=c 1 19 kR rfl;go_simp;exact b _ _ (bF dC dC bR) rfl
   refine sC3 (fun _ _ a _ _ _ _ c _ _ _ b=>?_) ?_
   · obtain ⟨g,i,j,d⟩:=a;have ao:_=_:=c 15 32 kR rfl;go_simp;exact b _ _ (bF dC dC bR) rfl
   refine sC3 (fun _ l a _ _ _ _ c _ _ _ b=>?_) ?_
   · obtain ⟨g,i,j,d⟩:=a;have ap:_=_:=c 16 33 kR rfl;have al:_=_:=c 11 29 kR rfl;have a9:l.cell? ⟨gl,k*8+4,none⟩=some (.int .i64 j):=d.c4;have ar:=d.fz (k*8+4);go_simp;exact b (.bool true) _ ⟨fun f=>absurd f dC,fun _=>⟨Keep.setCell (F:=fun t=>t=gl) (Keep.refl _ _) (p:=⟨gl,k*8+4,none⟩) (.inl rfl) _,fun x y u=>u.at4 m⟩,fun _ f=>absurd rfl f⟩ ⟨i,d.at4 m⟩
   exact aP
 · intro r N a c J;obtain ⟨Z,_⟩:=a;obtain ⟨_,a5,z⟩:∃v,N3 gl cl n k xs gb q v N:=J 14 dC;obtain ⟨_,ay,B⟩:∃v,N4 gl cl n k xs gb m v N:=J 17 dC;have Y:RowS gl cl n k xs gb q m N:=(by have a1:=z.c4.symm.trans B.c4;have a2:a5=m:=(by simpa using a1);rw [<-a2];exact z);simp only [zqq];clear c J;go_wp2;exact bodyPost_ret (results_none rfl _ _ _) rfl ⟨rfl,Z,Y⟩
def RowN (gl cl n k:Nat) (xs:List Value) (b:List Value) (w:World):Prop:=∃a,w.ownsRow 0 220 8 (.slice (some gl) n cl) n a/\At8 a k b/\But8 k xs a
def RowN.put {gl cl n k:Nat} {xs b:List Value} {w:World} (d:RowN gl cl n k xs b w) {j:Nat} (c:j < 8) (a:Value):RowN gl cl n k xs (b.set j a) (w.setCell ⟨gl,k*8+j,none⟩ a):=by
 obtain ⟨i,e,f,g⟩:=d;exact ⟨_,(World.ownsRow.stored e (k*8+j) a).1,f.set c _,g.trans (But8.set k i c _)⟩
def RowN.grow {gl cl n k:Nat} {xs a:List Value} {w w':World} (c:RowN gl cl n k xs a w) (b:Below w.heap.size w w'):RowN gl cl n k xs a w':=by
 obtain ⟨g,d,e,f⟩:=c;exact ⟨g,aF d b,e,f⟩
def RowN.drew {gl cl n k:Nat} {xs a:List Value} {w:World} (b:RowN gl cl n k xs a w):RowN gl cl n k xs a w.drew:=b
def aBg {w:World} {o:Obj} {b:TypeId} {a:Array Value} {c:Nat} (d:(w.alloc o).heap.size=c):Bk ((w.alloc o).alloc (.cells a b)).drew c b a:=by
 subst d;exact (Bk.new (w.alloc o) b a).drew
def aBp (gt ga gl cl n k u z e f c q d r:Nat) (xs:List Value) (rt v:Int) (w:World) (ht:TR w gt ga (some ⟨gl,0,none⟩) cl n xs rt v) {L O P M N:Int} (H:At8 xs k (ndL u z L O P M N))
 {Q R S T U C V W:Int} {aa ab:Option Addr} (J:At8 xs u [.int .i64 Q,.int .i64 R,.int .i64 (e:Int),.int .i64 (c:Int),.int .i64 (d:Int),.int .i64 S,.int .i64 T,.pointer aa]) (K:At8 xs z [.int .i64 U,.int .i64 C,.int .i64 (f:Int),.int .i64 (q:Int),.int .i64 (r:Int),.int .i64 V,.int .i64 W,.pointer ab])
 (b1:e<=1000000) (b2:f<=1000000) (aM:c<=1000000) (aN:q<=1000000) (aO:d<=1000000) (aP:r<=1000000):
 Calls prog 235 #[gt,(k:Int)] w fun an w'=>an=.returned (.tuple #[])/\Keep (fun a=>a=gl) w w'/\RowN gl cl n k xs (ndL u z ((max e f+1:Nat):Int) ((c+q:Nat):Int) ((d+r:Nat):Int) c d) w':=by
 have aQ:=ht.c1;obtain ⟨k0,ar,a5,a6,a7,a8,a9,au⟩:=ht.at H;obtain ⟨av,aw,ax,ay,az,aA,aB,aC⟩:=ht.at J;obtain ⟨aD,aE,aG,aH,aI,aJ,aK,aL⟩:=ht.at K;have aY:(k:Int) < (n:Int):=by have:=H.lt ht.len;omega
 have aZ:(u:Int) < (n:Int):=by have:=J.lt ht.len;omega
 have b0:(z:Int) < (n:Int):=by have:=K.lt ht.len;omega
 obtain ⟨aR,s⟩:=iC ht.row;have m:=s.lt;have aX:=ht.blk.lt;have aW:gt≠gl:=Bk.ne ht.blk s dC;have ao:=fun t=>s.frozen t;obtain ⟨am,ag,af⟩:=hqq3 ht H s;clear ht H J K s;go_enter func235,ntmps235;go_upto_region 3 with fail;go_cut [5,6] from 34 (fun x y B=>∃i l,x=.pointer (some ⟨i,0,none⟩)/\y=.pointer (some ⟨l,0,none⟩)/\Bk B i 220 #[.int .i64 Q,.int .i64 R,(e:Int),(c:Int),(d:Int),.int .i64 S,.int .i64 T,.pointer aa]/\Bk B l 220 #[.int .i64 U,.int .i64 C,(f:Int),(q:Int),(r:Int),.int .i64 V,.int .i64 W,.pointer ab]/\Below w.heap.size w B/\w.heap.size<=i/\w.heap.size<=l)
 case first=>
  go_region
  · go_wp2_with fail;go_meet;exact ⟨w.heap.size,w.heap.size+1,rfl,rfl,((Bk.new w _ _).alloc _).drew,aBg (World.size_alloc w _),((bR.alloc nL _).alloc (by rw [World.size_alloc];omega) _).drew,zAs _,Nat.le_succ _⟩
  · go_wp2_with fail;go_meet;exact ⟨w.heap.size+1,w.heap.size,rfl,rfl,aBg (World.size_alloc w _),((Bk.new w _ _).alloc _).drew,((bR.alloc nL _).alloc (by rw [World.size_alloc];omega) _).drew,Nat.le_succ _,zAs _⟩
 case rest=>
 obtain ⟨i,l,rfl,rfl,D,E,b,aT,aU⟩:=hcut;have a1:RowN gl cl n k xs (ndL u z L O P M N) wc:=⟨xs,aF am.out.row b,ag.out,But8.refl _ _⟩;have b3:i≠gl:=oM;have b4:l≠gl:=oM;have aV:gl < wc.heap.size:=zAl m b.size;have aS:∀t,wc.frozen? ⟨gl,t,none⟩=false:=fun t=>(af.out.below b m).frozen t;have ba:wc.cell? ⟨i,2,none⟩=some (.int .i64 (e:Int)):=(D.cell 2).trans rfl;have bb:wc.cell? ⟨i,3,none⟩=some (.int .i64 (c:Int)):=(D.cell 3).trans rfl;have bc:wc.cell? ⟨i,4,none⟩=some (.int .i64 (d:Int)):=(D.cell 4).trans rfl;have bd:wc.cell? ⟨l,2,none⟩=some (.int .i64 (f:Int)):=(E.cell 2).trans rfl;have be:wc.cell? ⟨l,3,none⟩=some (.int .i64 (q:Int)):=(E.cell 3).trans rfl;have bf:wc.cell? ⟨l,4,none⟩=some (.int .i64 (r:Int)):=(E.cell 4).trans rfl;have b5:wc.cell? ⟨gl,k*8+2,none⟩=some (.int .i64 L):=(b.cell (by exact m)).trans a5;have b6:wc.cell? ⟨gl,k*8+3,none⟩=some (.int .i64 O):=(b.cell (by exact m)).trans a6;have b7:wc.cell? ⟨gl,k*8+4,none⟩=some (.int .i64 P):=(b.cell (by exact m)).trans a7;have b8:wc.cell? ⟨gl,k*8+5,none⟩=some (.int .i64 M):=(b.cell (by exact m)).trans a8;have b9:wc.cell? ⟨gl,k*8+6,none⟩=some (.int .i64 N):=(b.cell (by exact m)).trans a9;obtain ⟨aj,ae⟩:=hqq2 a1 b;clear D E a1 b k0 ar a5 a6 a7 a8 a9 au av aw ax ay az aA aB aC aD aE aG aH aI aJ aK aL ao;obtain ⟨g,X⟩:∃g:Nat,max e f+1=g:=⟨_,rfl⟩;have I:=lhd X;clear X;go_upto_region 4 with fail;go_cut [60] from 54 (fun v B=>B=wc.setCell ⟨gl,k*8+2,none⟩ (.int .i64 (g:Int)))
 case first=>
  rcases zBe e f with aq | aq
  · have ap:((f:Nat):Int)+1=(g:Int):=(by have:=I.out;omega);have an:max (e:Int) (f:Int)=(f:Int):=oM;go_wp2_with fail
    all_goals (go_meet;rfl)
  · have ap:((e:Nat):Int)+1=(g:Int):=(by have:=I.out;omega);have an:max (e:Int) (f:Int)=(e:Int):=oM;go_wp2_with fail
    all_goals (go_meet;rfl)
 case rest=>
 subst hcut;have a2:=aj.out.put (j:=2) oM (.int .i64 (g:Int));have Y:Keep (fun a=>a=gl) w (wc.setCell ⟨gl,k*8+2,none⟩ (.int .i64 (g:Int))):=Keep.setCell (F:=fun a=>a=gl) (Keep.of_below ae.out) (p:=⟨gl,k*8+2,none⟩) (.inl rfl) _;obtain ⟨ak,ah⟩:=hqq2 a2 Y;clear a2 Y;go_wp2_with fail
 go_region
 have a3:=(ak.out.put (j:=3) oM (.int .i64 ((c:Int)+q))).put (j:=4) oM (.int .i64 ((d:Int)+r));have Z:=Keep.setCell (F:=fun a=>a=gl) (Keep.setCell (F:=fun a=>a=gl) ah.out (p:=⟨gl,k*8+3,none⟩) (.inl rfl) (.int .i64 ((c:Int)+q))) (p:=⟨gl,k*8+4,none⟩) (.inl rfl) (.int .i64 ((d:Int)+r));obtain ⟨al,ai⟩:=hqq2 a3 Z;clear a3 Z;go_wp2_with fail
 go_region
 have a4:=(al.out.drew.put (j:=5) oM (.int .i64 (c:Int))).put (j:=6) oM (.int .i64 (d:Int));have a0:=Keep.setCell (F:=fun a=>a=gl) (Keep.setCell (F:=fun a=>a=gl) ai.out.drew (p:=⟨gl,k*8+5,none⟩) (.inl rfl) (.int .i64 (c:Int))) (p:=⟨gl,k*8+6,none⟩) (.inl rfl) (.int .i64 (d:Int));obtain ⟨ad,ac⟩:=hqq2 a4.drew a0.drew;clear a4 a0;go_wp2;have C:((max e f+1:Nat):Int)=(g:Int):=by have:=I.out;omega
 refine bodyPost_end (results_none rfl _ _ _) rfl ?_;rw [C,Int.natCast_add,Int.natCast_add];exact ⟨rfl,ac.out,ad.out⟩
namespace Tr
def full_lv:∀ {b:Tr},b.Full->b.lv*32<=b.bits.length
 | lf c,a=>by have:=a.1;simp only [lv,bits];omega
 | nd f g,a=>by have d:=full_lv a.1;have e:=full_lv a.2;simp only [lv,bits,zAi];omega
def Ok.pos {a:Tr} (b:a.Ok):0 < a.bits.length:=by
 cases a with
 | lf e=>exact b.1
 | nd c d=>
   have f:=full_lv b.2;have g:=ht_lv (nd c d);omega
end Tr
def cR:Option Tr->List Bool
 | none=> []
 | some a=>a.bits
def TreeO (w:World) (gt:Nat) (o:Option Tr):Prop:=
 ∃(ga:Nat) (A:Option Addr) (cap n:Nat) (xs:List Value) (rt v:Int),TR w gt ga A cap n xs rt v/\((o=none/\rt=-1)∨∃a:LT,o=some a.er/\a.In w xs/\rt=(a.num:Int)/\a.er.Ok/\a.len<=1100)
def TreeAt (w:World) (gt:Nat) (bs:List Bool):Prop:=∃o,cR o=bs/\TreeO w gt o
section
variable {w w' : World} {gt : Nat} {bs : List Bool} {o : Option Tr}
def TreeO.vis (c:TreeO w gt o) (k:Vis w w'):TreeO w' gt o:=by
 obtain ⟨ga,A,cap,n,xs,rt,v,d,a⟩:=c;obtain ⟨j,e⟩:=d.vis k;refine ⟨ga,A,cap,n,xs,rt,j,e,?_⟩;rcases a with a |⟨i,b,g,f⟩;exact .inl a;exact .inr ⟨i,b,g.vis k,f⟩
def TreeO.same (g:TreeO w gt o) (k:∀c a b,a∈ [205,228,220,240,4]->Bk w c a b->Bk w' c a b):TreeO w' gt o:=by
 obtain ⟨ga,A,cap,n,xs,rt,v,i,d⟩:=g;refine ⟨ga,A,cap,n,xs,rt,v,i.same fun c a b ht=>k c a b (by simp at ht;rcases ht with rfl | rfl <;> decide),?_⟩;rcases d with d |⟨a,f,m,j⟩;exact .inl d;exact .inr ⟨a,f,m.keep (fun _ _ _ e=>e) (fun p _ b l=>k _ _ _ dC l),j⟩
def TreeO.lt (a:TreeO w gt o):gt < w.heap.size:=by
 obtain ⟨ga,A,cap,n,xs,rt,v,b,c⟩:=a;exact b.blk.lt
def TreeO.le (a:TreeO w gt o):(cR o).length<=1100:=by
 obtain ⟨ga,A,cap,n,xs,rt,v,d,⟨rfl,_⟩|⟨g,rfl,f,c,e,b⟩⟩:=a;exact zAp _;exact b
def TreeAt.vis (a:TreeAt w gt bs) (k:Vis w w'):TreeAt w' gt bs:=by
 obtain ⟨o,b,a⟩:=a;exact ⟨o,b,a.vis k⟩
def TreeAt.same (a:TreeAt w gt bs) (k:∀c b d,b∈ [205,228,220,240,4]->Bk w c b d->Bk w' c b d):TreeAt w' gt bs:=by
 obtain ⟨o,e,a⟩:=a;exact ⟨o,e,a.same k⟩
def TreeAt.below (b:TreeAt w gt bs) (k:Below w.heap.size w w'):TreeAt w' gt bs:=b.same fun c e d _ a=>a.below k a.lt
def TreeAt.lt (a:TreeAt w gt bs):gt < w.heap.size:=by
 obtain ⟨o,b,a⟩:=a;exact a.lt
def TreeAt.le (a:TreeAt w gt bs):bs.length<=1100:=by
 obtain ⟨o,rfl,a⟩:=a;exact a.le
def TreeO.visits (a:TreeO w gt o):∃v,w.cell? ⟨gt,3,none⟩=some (.int .i64 v):=by
 obtain ⟨ga,A,cap,n,xs,rt,v,b,c⟩:=a;exact ⟨v,b.c3⟩
def TreeAt.visits (a:TreeAt w gt bs):∃v,w.cell? ⟨gt,3,none⟩=some (.int .i64 v):=by
 obtain ⟨o,b,a⟩:=a;exact a.visits
def TreeO.blk (b:TreeO w gt o):∃a,Bk w gt 205 a/\3 < a.size:=by
 obtain ⟨ga,A,cap,n,xs,rt,v,c,d⟩:=b;exact ⟨_,c.blk,by simp⟩
end
def mI (gt:Nat) (o:Option Tr) (w:World) (g:TreeO w gt o):
 Calls prog 120 #[gt] w fun d w'=>d=.returned (.int .i64 ((cR o).length:Int))/\Below w.heap.size w w':=by
 obtain ⟨ga,A,cap,n,xs,rt,v,a,⟨rfl,rfl⟩|⟨b,rfl,c,rfl,i,j⟩⟩:=g
 · have f:=a.c2;clear a;go_enter func120,ntmps120;go_wp2;go_ret;exact ⟨rfl,Below.refl _ _⟩
 · obtain ⟨gl,z,rfl,l⟩:=a.ex (by have:=c.at.lt a.len;omega);obtain ⟨q,r,s,t,E,e⟩:=b.cel;obtain ⟨_,_,_,B,_⟩:=a.at (show At8 xs b.num [_,_,_,_,_,_,_,_] from e ▸ c.at);have u:=a.c1;have f:=a.c2;have C:(b.num:Int) < (n:Int):=(by have:=c.at.lt a.len;omega);have p:(b.num:Int)≠-1:=oM;have D:((b.num:Int)==-1)=false:=zCa.2 p;generalize b.num=tn at*
   show Calls _ _ _ w fun d w'=>d=.returned (.int .i64 (b.len:Int))/\_;generalize b.len=m at*
   clear c a e l i j;go_enter func120,ntmps120;go_wp2;go_quiet (fail);go_wp2;go_ret;exact ⟨rfl,below_drewN bR _⟩
def xN (gt:Nat) (o:Option Tr) (w:World) (g:TreeO w gt o):
 Calls prog 261 #[gt] w fun d w'=>d=.returned (.int .i64 (((cR o).count true:Nat):Int))/\Below w.heap.size w w':=by
 obtain ⟨ga,A,cap,n,xs,rt,v,a,⟨rfl,rfl⟩|⟨b,rfl,c,rfl,i,j⟩⟩:=g
 · have f:=a.c2;clear a;go_enter func261,ntmps261;go_wp2;go_ret;exact ⟨rfl,Below.refl _ _⟩
 · obtain ⟨gl,z,rfl,l⟩:=a.ex (by have:=c.at.lt a.len;omega);obtain ⟨q,r,s,t,E,e⟩:=b.cel;obtain ⟨_,_,_,_,B,_⟩:=a.at (show At8 xs b.num [_,_,_,_,_,_,_,_] from e ▸ c.at);have u:=a.c1;have f:=a.c2;have C:(b.num:Int) < (n:Int):=(by have:=c.at.lt a.len;omega);have p:(b.num:Int)≠-1:=oM;have D:((b.num:Int)==-1)=false:=zCa.2 p;generalize b.num=tn at*
   show Calls _ _ _ w fun d w'=>d=.returned (.int .i64 (b.on:Int))/\_;generalize b.on=m at*
   clear c a e l i j;go_enter func261,ntmps261;go_wp2;go_quiet (fail);go_wp2;go_ret;exact ⟨rfl,below_drewN bR _⟩
def fM (gt:Nat) (v:Int) (w:World) (b:w.cell? ⟨gt,3,none⟩=some (.int .i64 v)):
 Calls prog 190 #[gt] w fun a w'=>a=.returned (.int .i64 v)/\Below w.heap.size w w':=by
 go_enter func190,ntmps190;go_wp2;go_ret;exact ⟨rfl,Below.refl _ _⟩
def iF (n o:Nat) (a:Bool) (w:World) (c:n<=100000) (d:o<=n):
 Calls prog 237 #[(n:Int),(o:Int),.bool a] w fun b w'=>b=.returned (.int .i64 ((if a then o else n - o:Nat):Int))/\Below w.heap.size w w':=by
 cases a
 · go_enter func237,ntmps237;go_wp2;go_ret;exact ⟨cZ oM,Below.refl _ _⟩
 · go_enter func237,ntmps237;go_wp2;go_ret;exact ⟨cZ (by simp),Below.refl _ _⟩
def oK (a:List Bool):a.count true+a.count false=a.length:=by
 induction a with
 | nil=>rfl
 | cons x a b=>cases x <;> simp <;> omega
def jU (a:List Bool) (b:Bool):(if b then a.count true else a.length - a.count true)=a.count b:=by
 have:=oK a;cases b;simp;omega
 · simp
end Go.Proofs.YtnmapianpjamnaaGreatDoor
