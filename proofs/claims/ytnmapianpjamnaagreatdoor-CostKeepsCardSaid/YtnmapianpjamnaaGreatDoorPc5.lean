/- Lemmas of the walk. Conditions: each its own. -/
import Derived.Test.YtnmapianpjamnaaGreatDoorPc3
import Derived.Test.YtnmapianpjamnaaGreatDoorPc4
import Derived.Test.YtnmapianpjamnaaGreatDoorProg
set_option linter.all false
set_option maxRecDepth 100000
set_option maxHeartbeats 4000000
open Go.Proofs.Tryz
namespace Go.Proofs.YtnmapianpjamnaaGreatDoor
open Go.RowKit
def cK {w:World} {e n j d f:Nat} {c:TypeId} {xs:List Value} (g:w.ownsRow e c j (.slice (some d) n f) n xs):∃b,Bk w d c b:=by
 rcases g.2 with ⟨a,_⟩|⟨l,cap,b,a,_,i,_⟩
 · cases a
 injection a with a _ _;injection a with a;injection a with a _;subst a;exact ⟨b,i⟩
def iZ {w:World} {e:TypeId} {o n d b:Nat} {A:Option Addr} {xs:List Value} {f:TypeId} {cs:Array Value} (m:w.ownsRow 0 e o (.slice A n d) n xs) (a:(Value.slice A n d).ownBlock=some b) (l:Bk w b f cs):f=e:=by
 rcases m.2 with ⟨c,_⟩|⟨i,cap,q,c,_,j,_⟩
 · rw [c] at a;cases a
 rw [c] at a;injection a with a;have g:i=b:=a;subst g;exact (aJ l j).1
def ArenaE.own {w:World} {F:Nat->Prop} {ga:Nat} {tk:List Bool} {fr:List Nat} (q:ArenaE w F ga tk fr):∃d:Nat->Prop,(∀a,d a->F a)/\(∀a c cs,d a->Bk w a c cs->c=228∨c=4∨c=3)/\(∀a,d a->a < w.heap.size)/\ArenaE w d ga tk fr:=by
 obtain ⟨r,l,o,j,m,e,f,g,s,t⟩:=q;refine ⟨fun a=>a=ga∨(Value.slice l tk.length o).ownBlock=some a∨(Value.slice j fr.length m).ownBlock=some a,fun a b=>?_,fun a c cs b i=>?_,fun a b=>?_,.inl rfl,l,o,j,m,e,f,g,fun a b=>.inr (.inl b),fun a b=>.inr (.inr b)⟩;rcases b with rfl | b | b;exact r;exact s a b;exact t a b;rcases b with rfl | b | b;exact .inl (aJ i e).1;exact .inr (.inl (iZ f b i));exact .inr (.inr (iZ g b i));rcases b with rfl | b | b;exact e.lt;exact (f.lt a b).2;exact (g.lt a b).2
structure TR (w:World) (gt ga:Nat) (A:Option Addr) (cap n:Nat) (xs:List Value) (rt v:Int):Prop where
 blk:Bk w gt 205 #[ga,.slice A n cap,.int .i64 rt,.int .i64 v]
 row:w.ownsRow 0 220 8 (.slice A n cap) n xs
section
variable {w w' : World} {F G : Nat -> Prop} {gt ga cap n : Nat} {A : Option Addr} {xs : List Value} {tk : List Bool} {fr : List Nat} {rt v : Int}
def TR.vis (b:TR w gt ga A cap n xs rt v) (k:Vis w w'):∃a,TR w' gt ga A cap n xs rt a:=by
 obtain ⟨a,c⟩:=k.tree b.blk;exact ⟨a,c,k.own b.row dC dC⟩
def TR.same (c:TR w gt ga A cap n xs rt v) (k:∀a b cs,b∈ [205,220]->Bk w a b cs->Bk w' a b cs):TR w' gt ga A cap n xs rt v:=
 ⟨k _ _ _ dC c.blk,aA c.row fun a cs _ d=>k _ _ _ dC d⟩
def TR.below (b:TR w gt ga A cap n xs rt v) (k:Below w.heap.size w w'):TR w' gt ga A cap n xs rt v:=b.same fun c d cs _ a=>a.below k a.lt
def TR.len (a:TR w gt ga A cap n xs rt v):xs.length=n*8:=a.row.1
def TR.ex (c:TR w gt ga A cap n xs rt v) (e:0 < n):∃gl a,A=some ⟨gl,0,none⟩/\Bk w gl 220 a:=by
 obtain ⟨gl,f,b,_,_⟩:=World.ownsRow.form c.row e;injection b with b _ h2;subst b;obtain ⟨a,d⟩:=cK c.row;exact ⟨gl,a,rfl,d⟩
def TR.setv (a:TR w gt ga A cap n xs rt v) (c:Int):TR (w.setCell ⟨gt,3,none⟩ (.int .i64 c)) gt ga A cap n xs rt c:=
 ⟨a.blk.set 3 _,aA a.row fun d cs _ b=>b.far (p:=⟨gt,3,none⟩) (Bk.ne b a.blk dC) _⟩
def TR.setrt (a:TR w gt ga A cap n xs rt v) (c:Int):TR (w.setCell ⟨gt,2,none⟩ (.int .i64 c)) gt ga A cap n xs c v:=
 ⟨a.blk.set 2 _,aA a.row fun d cs _ b=>b.far (p:=⟨gt,2,none⟩) (Bk.ne b a.blk dC) _⟩
def TR.c0 (a:TR w gt ga A cap n xs rt v):w.cell? gt=some (.pointer (some ga)):=(a.blk.cell 0).trans rfl
def TR.c1 (a:TR w gt ga A cap n xs rt v):w.cell? ⟨gt,1,none⟩=some (.slice A n cap):=(a.blk.cell 1).trans rfl
def TR.c2 (a:TR w gt ga A cap n xs rt v):w.cell? ⟨gt,2,none⟩=some (.int .i64 rt):=(a.blk.cell 2).trans rfl
def TR.c3 (a:TR w gt ga A cap n xs rt v):w.cell? ⟨gt,3,none⟩=some (.int .i64 v):=(a.blk.cell 3).trans rfl
def TR.at {gl k:Nat} {c d e f g i j l:Value} (o:TR w gt ga (some ⟨gl,0,none⟩) cap n xs rt v) (m:At8 xs k [c,d,e,f,g,i,j,l]):
 w.cell? ⟨gl,k*8,none⟩=some c/\w.cell? ⟨gl,k*8+1,none⟩=some d/\w.cell? ⟨gl,k*8+2,none⟩=some e/\w.cell? ⟨gl,k*8+3,none⟩=some f/\w.cell? ⟨gl,k*8+4,none⟩=some g/\w.cell? ⟨gl,k*8+5,none⟩=some i/\w.cell? ⟨gl,k*8+6,none⟩=some j/\w.cell? ⟨gl,k*8+7,none⟩=some l:=by
 have r:=m.lt o.len;have a:∀b,b < 8->w.cell? ⟨gl,k*8+b,none⟩= [c,d,e,f,g,i,j,l][b]?:=fun b q=>(World.ownsRow.cellAt o.row (k*8+b) oM).trans (m.2 b q);exact ⟨a 0 oM,a 1 oM,a 2 oM,a 3 oM,a 4 oM,a 5 oM,a 6 oM,a 7 oM⟩
def LT.In.vis {a:LT} (c:a.In w xs) (k:Vis w w'):a.In w' xs:=c.keep (fun _ _ _ b=>b) fun e _ cs d=>k.bk d dC dC
def LT.In.below {b:LT} (d:b.In w xs) (k:Below w.heap.size w w'):b.In w' xs:=d.keep (fun _ _ _ c=>c) fun e _ cs a=>a.below k a.lt
structure TX (w:World) (F:Nat->Prop) (gt ga:Nat) (A:Option Addr) (cap n:Nat) (xs:List Value) (tk:List Bool) (fr:List Nat) (rt v:Int):Prop where
 fg:F gt
 rd:TR w gt ga A cap n xs rt v
 own:OwnF F (.slice A n cap)
 ar:ArenaE w F ga tk fr
 tkn:tk.length=n
 tkv:∀k,k < n->tk[k]?=some (decide (k∉fr))
def TX.vis (a:TX w F gt ga A cap n xs tk fr rt v) (k:Vis w w'):∃b,TX w' F gt ga A cap n xs tk fr rt b:=by
 obtain ⟨b,c⟩:=a.rd.vis k;exact ⟨b,a.fg,c,a.own,a.ar.vis k,a.tkn,a.tkv⟩
def TX.mono (a:TX w F gt ga A cap n xs tk fr rt v) (k:∀b,b < w.heap.size->F b->G b):TX w G gt ga A cap n xs tk fr rt v:=
 ⟨k _ a.rd.blk.lt a.fg,a.rd,fun b c=>k b (a.rd.row.lt b c).2 (a.own b c),a.ar.mono k,a.tkn,a.tkv⟩
def TX.keep (a:TX w F gt ga A cap n xs tk fr rt v) (k:Keep G w w') (d:∀b c cs,c∈ [205,228,220,4,3]->Bk w b c cs->F b->¬G b):TX w' F gt ga A cap n xs tk fr rt v:=
 ⟨a.fg,⟨k.bk a.rd.blk (d _ _ _ dC a.rd.blk a.fg),aA a.rd.row fun b cs f e=>k.bk e (d _ _ _ dC e (a.own b f))⟩,a.own,a.ar.keep k fun b c cs ht=>d b c cs (by simp at ht;rcases ht with rfl | rfl | rfl <;> decide),a.tkn,a.tkv⟩
def TX.below (b:TX w F gt ga A cap n xs tk fr rt v) (k:Below w.heap.size w w'):TX w' F gt ga A cap n xs tk fr rt v:=b.keep (G:=fun _=>False) (Keep.of_below k) fun _ _ _ _ _ _ a=>a
def TX.ar_tree (b:TX w F gt ga A cap n xs tk fr rt v) (d:Nat) (i:Value):ArenaE (w.setCell ⟨gt,d,none⟩ i) F ga tk fr:=
 b.ar.keep (G:=fun a=>a=gt) (Keep.setCell (F:=fun a=>a=gt) (Keep.refl _ _) (p:=⟨gt,d,none⟩) (.inl rfl) _) fun a j cs c g _ e=>by have f:a=gt:=e;subst f;rw [(aJ g b.rd.blk).1] at c;exact absurd c dC
def TX.setv (a:TX w F gt ga A cap n xs tk fr rt v) (b:Int):TX (w.setCell ⟨gt,3,none⟩ (.int .i64 b)) F gt ga A cap n xs tk fr rt b:=⟨a.fg,a.rd.setv b,a.own,a.ar_tree 3 _,a.tkn,a.tkv⟩
def TX.setrt (a:TX w F gt ga A cap n xs tk fr rt v) (b:Int):TX (w.setCell ⟨gt,2,none⟩ (.int .i64 b)) F gt ga A cap n xs tk fr b v:=⟨a.fg,a.rd.setrt b,a.own,a.ar_tree 2 _,a.tkn,a.tkv⟩
def TX.put {gl:Nat} (a:TX w F gt ga (some ⟨gl,0,none⟩) cap n xs tk fr rt v) (c:Nat) (d:Value):TX (w.setCell ⟨gl,c,none⟩ d) F gt ga (some ⟨gl,0,none⟩) cap n (xs.set c d) tk fr rt v:=by
 obtain ⟨l,e⟩:=cK a.rd.row;refine ⟨a.fg,⟨a.rd.blk.far (p:=⟨gl,c,none⟩) (Bk.ne a.rd.blk e dC) _,(World.ownsRow.stored a.rd.row c d).1⟩,a.own,a.ar.keep (G:=fun b=>b=gl) (Keep.setCell (F:=fun b=>b=gl) (Keep.refl _ _) (p:=⟨gl,c,none⟩) (.inl rfl) _) fun b m cs f j _ g=>?_,a.tkn,a.tkv⟩;have i:b=gl:=g;subst i;rw [(aJ j e).1] at f;exact absurd f dC
structure LK (F:Nat->Prop) (bl:List Nat) (w w':World):Prop where
 keep:Keep F w w'
 blk:∀g cs,g∉bl->Bk w g 240 cs->Bk w' g 240 cs
def LK.refl (F:Nat->Prop) (a:List Nat) (w:World):LK F a w w:=⟨Keep.refl _ _,fun _ _ _ b=>b⟩
def LK.trans {a:List Nat} {w1:World} (c:LK F a w w1) (k:LK F a w1 w'):LK F a w w':=⟨c.keep.trans k.keep,fun b cs d e=>k.blk b cs d (c.blk b cs d e)⟩
def LK.mono {b bl':List Nat} (c:LK F b w w') (k:∀a,a < w.heap.size->a∈b->a∈bl'):LK F bl' w w':=⟨c.keep,fun a cs f d=>c.blk a cs (fun e=>f (k a d.lt e)) d⟩
def LK.below {bl:List Nat} (k:Below w.heap.size w w'):LK F bl w w':=⟨Keep.of_below k,fun b cs _ a=>a.below k a.lt⟩
def LK.of {c:List Nat} (k:Keep G w w') (f:∀a,a < w.heap.size->G a->F a) (g:∀a cs,G a->¬Bk w a 240 cs):LK F c w w':=⟨k.mono f,fun e cs _ b=>k.bk b fun d=>g e cs d b⟩
def LK.set {a i:Nat} {d:TypeId} {cs:Array Value} {bl:List Nat} (g:Bk w a d cs) (ht:d≠240) (j:F a) (l:Value):LK F bl w (w.setCell ⟨a,i,none⟩ l):=
 LK.of (G:=fun b=>b=a) (Keep.setCell (F:=fun b=>b=a) (Keep.refl _ _) (p:=⟨a,i,none⟩) (.inl rfl) _) (fun b _ c=>by rw [c];exact j) fun b m c f=>by have e:b=a:=c;subst e;exact ht (aJ g f).1
def LK.one {a:Nat} (k:Keep (fun c=>c=a) w w') (e:F a):LK F [a] w w':=⟨k.mono fun c _ b=>by rw [b];exact e,fun x cs f d=>k.bk d fun b=>f (by simp [show x=a from b])⟩
def ButL (b:List Nat) (xs ys:List Value):Prop:=∀a cs,a∉b->At8 xs a cs->At8 ys a cs
def ButL.refl (b:List Nat) (xs:List Value):ButL b xs xs:=fun _ _ _ a=>a
def ButL.trans {a:List Nat} {ys d:List Value} (g:ButL a xs ys) (f:ButL a ys d):ButL a xs d:=fun c cs b e=>f c cs b (g c cs b e)
def But8.l {k:Nat} {l:List Nat} {ys:List Value} (c:But8 k xs ys) (d:k∈l):ButL l xs ys:=fun f cs e a=>c f cs (fun b=>e (b ▸ d)) a
def LT.In.but {c:LT} {e d:List Nat} {ys:List Value} (i:c.In w xs) (k:ButL e xs ys) (g:LK F d w w') (j:∀b,b∈c.nums->b∉e) (l:∀a,a∈c.blks->a∉d):c.In w' ys:=
 i.keep (fun b q cs f=>k b cs (j b q) f) fun a m cs o=>g.blk a cs (l a m) o
end
def RowS (gl cl n k:Nat) (xs:List Value) (gb:Nat) (x y:Int) (w:World):Prop:=∃ys,w.ownsRow 0 220 8 (.slice (some gl) n cl) n ys/\At8 ys k (gM x y gb)/\But8 k xs ys
section
variable {gl cl n k gb : Nat} {xs : List Value} {x y : Int} {w w' : World}
def RowS.grow (b:RowS gl cl n k xs gb x y w) (a:Below w.heap.size w w'):RowS gl cl n k xs gb x y w':=by
 obtain ⟨ys,c,d,e⟩:=b;exact ⟨ys,aO c a,d,e⟩
def RowS.at3 (b:RowS gl cl n k xs gb x y w) (a:Int):RowS gl cl n k xs gb a y (w.setCell ⟨gl,k*8+3,none⟩ (.int .i64 a)):=by
 obtain ⟨ys,c,d,e⟩:=b;exact ⟨_,(World.ownsRow.stored c (k*8+3) (.int .i64 a)).1,d.set oM _,e.trans (But8.set k ys oM _)⟩
def RowS.at4 (b:RowS gl cl n k xs gb x y w) (a:Int):RowS gl cl n k xs gb x a (w.setCell ⟨gl,k*8+4,none⟩ (.int .i64 a)):=by
 obtain ⟨ys,c,d,e⟩:=b;exact ⟨_,(World.ownsRow.stored c (k*8+4) (.int .i64 a)).1,d.set oM _,e.trans (But8.set k ys oM _)⟩
def RowS.lt (a:RowS gl cl n k xs gb x y w):gl < w.heap.size:=by
 obtain ⟨ys,b,c,d⟩:=a;exact (World.ownsRow.lt b gl rfl).2
def RowS.bk_ne {a:Nat} {b:TypeId} {cs:Array Value} (d:RowS gl cl n k xs gb x y w) (f:Bk w a b cs) (g:220≠b):a≠gl:=by
 obtain ⟨ys,e,i,j⟩:=d;exact fun c=>aR e f g (by rw [c];rfl)
def RowS.cell (d:RowS gl cl n k xs gb x y w) (a:Nat) (e:a < 8):w.cell? ⟨gl,k*8+a,none⟩=(gM x y gb)[a]?:=by
 obtain ⟨ys,b,c,f⟩:=d;have:=c.lt b.1;exact (World.ownsRow.cellAt b (k*8+a) oM).trans (c.2 a e)
def RowS.c3 (a:RowS gl cl n k xs gb x y w):w.cell? ⟨gl,k*8+3,none⟩=some (.int .i64 x):=a.cell 3 oM
def RowS.c4 (a:RowS gl cl n k xs gb x y w):w.cell? ⟨gl,k*8+4,none⟩=some (.int .i64 y):=a.cell 4 oM
def RowS.c7 (a:RowS gl cl n k xs gb x y w):w.cell? ⟨gl,k*8+7,none⟩=some (.pointer (some gb)):=a.cell 7 oM
def RowS.fz (b:RowS gl cl n k xs gb x y w) (a:Nat):w.frozen? ⟨gl,a,none⟩=false:=by
 obtain ⟨ys,c,d,e⟩:=b;exact World.ownsRow.frozenAt c a
end
def aFt (a:World) (gl cl n k:Nat) (xs:List Value) (gb:Nat) (w1:World):Prop:=Keep (fun b=>b=gl) a w1/\∃x y,RowS gl cl n k xs gb x y w1
def aFr (gl cl n k:Nat) (xs:List Value) (gb:Nat) (d e:Int) (b:Nat) (w1 a:World):Prop:=
 (b=14->Keep (fun c=>c=gl) w1 a/\∀x y,RowS gl cl n k xs gb x y w1->RowS gl cl n k xs gb d y a)/\(b=17->Keep (fun c=>c=gl) w1 a/\∀x y,RowS gl cl n k xs gb x y w1->RowS gl cl n k xs gb x e a)/\(b≠14->b≠17->Grow w1 a)
def bX {gl cl n k:Nat} {xs:List Value} {gb:Nat} {d e:Int} {b:Nat} {w1 c:World} (g:b≠14) (i:b≠17) (f:Grow w1 c):aFr gl cl n k xs gb d e b w1 c:=⟨fun a=>absurd a g,fun a=>absurd a i,fun _ _=>f⟩
def aBT {g w1 m:World} {gl cl n k:Nat} {xs:List Value} {gb c:Nat} {o q:Int} (r:aFt g gl cl n k xs gb w1) (f:aFr gl cl n k xs gb o q c w1 m):aFt g gl cl n k xs gb m:=by
 obtain ⟨a,x,y,b⟩:=r;by_cases i:c=14;obtain ⟨d,e⟩:=f.1 i;exact ⟨a.trans d,_,_,e x y b⟩;by_cases j:c=17;obtain ⟨d,e⟩:=f.2.1 j;exact ⟨a.trans d,_,_,e x y b⟩;have l:=f.2.2 i j;exact ⟨a.trans (Keep.of_below l),x,y,b.grow l⟩
def N3 (gl cl n k:Nat) (xs:List Value) (gb:Nat) (a:Int):Value->World->Prop:=fun _ w1=>∃y,RowS gl cl n k xs gb a y w1
def N4 (gl cl n k:Nat) (xs:List Value) (gb:Nat) (a:Int):Value->World->Prop:=fun _ w1=>∃x,RowS gl cl n k xs gb x a w1
def aDn (gt ga gl cl n k gb:Nat) (xs:List Value) (rt v:Int) (q:List Bool) (w:World) (ht:TR w gt ga (some ⟨gl,0,none⟩) cl n xs rt v) {T U:Int} (D:At8 xs k (gM T U gb)) (K:Bk w gb 240 (cC q)) (a8:q.length<=128):
 Calls prog 235 #[gt,(k:Int)] w fun f w'=>f=.returned (.tuple #[])/\Keep (fun t=>t=gl) w w'/\RowS gl cl n k xs gb (q.length:Int) ((q.count true:Nat):Int) w':=by
 obtain ⟨o,H⟩:∃o:Int,(q.length:Int)=o:=⟨_,rfl⟩;obtain ⟨m,I⟩:∃m:Int,((q.count true:Nat):Int)=m:=⟨_,rfl⟩;rw [H,I];obtain ⟨V,W⟩:=hqq2 H I;have C:RowS gl cl n k xs gb T U w:=⟨xs,ht.row,D,But8.refl _ _⟩;have ae:=ht.c1;have af:=(ht.at D).2.2.2.2.2.2.2;have aF:(k:Int) < (n:Int):=by have:=D.lt ht.len;omega
 have aE:=C.lt;have P:=C.bk_ne K dC;obtain ⟨O,X⟩:=hqq2 K C;clear H I ht K C D;go_enter func235,ntmps235;go_wp2;refine wp_region_any kR ?_;refine mC [18,19,20,21,22,23,24,25,26,27,28,29,30,31,32,33] (aFt w gl cl n k xs gb) (aFr gl cl n k xs gb o m) (fun _ _=>True) (Vs [is (.pointer (some ⟨gl,k*8,none⟩)),is (.pointer (some ⟨gl,k*8,none⟩)),is (.pointer (some ⟨gl,k*8,none⟩)),is (.pointer (some ⟨gl,k*8,none⟩)),is (.pointer (some ⟨gl,k*8+7,none⟩)),is gb,is (.int .i64 o),is (.pointer (some ⟨gl,k*8,none⟩)),is (.pointer (some ⟨gl,k*8,none⟩)),is (.pointer (some ⟨gl,k*8+7,none⟩)),is gb,is (.int .i64 m),is (.pointer (some ⟨gl,k*8,none⟩)),is (.pointer (some ⟨gl,k*8+3,none⟩)),N3 gl cl n k xs gb o,is (.pointer (some ⟨gl,k*8,none⟩)),is (.pointer (some ⟨gl,k*8+4,none⟩)),N4 gl cl n k xs gb m]) _ _ rfl kR ⟨⟨rfl,rfl,rfl,zAs _,fun _ _ _=>rfl⟩,_,_,X.out⟩ (fun _=>trivial) (fun M w1 ab u k=>aBT u k) (fun _ _ _ _ _ _ _ _ _=>trivial) ?_ ?_ ?_;intro S M v w1 ab Q aD e aC k;rcases S with _ | _ | _ | _ | _ | _ | _ | _ | _ | _ | _ | _ | _ | _ | _ | _ | _ | _ | S;exact e;exact e;exact e;exact e;exact e;exact e;exact e;exact e;exact e;exact e;exact e;exact e;exact e;exact e;obtain ⟨y,e⟩:=e;by_cases B:M=17;exact ⟨_,(k.2.1 B).2 _ _ e⟩;exact ⟨_,RowS.grow e (k.2.2 (fun f=>Q f.symm) B)⟩;exact e;exact e;obtain ⟨x,e⟩:=e;by_cases z:M=14;exact ⟨_,(k.1 z).2 _ _ e⟩;exact ⟨_,RowS.grow e (k.2.2 z (fun f=>Q f.symm))⟩;exact trivial
 · refine aZ ?_;refine sC3 (fun r _ a _ _ _ s _ _ _ _ b=>?_) ?_
   · obtain ⟨g,i,j,d⟩:=a;have E:r (.tmp 4)=.pointer (some ⟨gl,k*8,none⟩):=s 4 kR;go_simp;exact b _ _ (bX dC dC bR) rfl
   refine sC3 (fun r _ a _ _ _ s _ _ _ _ b=>?_) ?_
   · obtain ⟨g,i,j,d⟩:=a;have E:r (.tmp 4)=.pointer (some ⟨gl,k*8,none⟩):=s 4 kR;go_simp;exact b _ _ (bX dC dC bR) rfl
   refine sC3 (fun r _ a _ _ _ s _ _ _ _ b=>?_) ?_
   · obtain ⟨g,i,j,d⟩:=a;have E:r (.tmp 4)=.pointer (some ⟨gl,k*8,none⟩):=s 4 kR;go_simp;exact b _ _ (bX dC dC bR) rfl
   refine sC3 (fun _ _ a _ _ _ _ c _ _ _ b=>?_) ?_
   · obtain ⟨g,i,j,d⟩:=a;have ak:_=_:=c 2 20 kR rfl;go_simp;exact b _ _ (bX dC dC bR) rfl
   refine sC3 (fun _ _ a _ _ _ _ c _ _ _ b=>?_) ?_
   · obtain ⟨g,i,j,d⟩:=a;have al:_=_:=c 3 21 kR rfl;go_simp;exact b _ _ (bX dC dC bR) rfl
   refine sC3 (fun _ l a _ _ _ _ c _ _ _ b=>?_) ?_
   · obtain ⟨g,i,j,d⟩:=a;have am:_=_:=c 4 22 kR rfl;have Y:l.cell? ⟨gl,k*8+7,none⟩=some (.pointer (some gb)):=d.c7;go_simp;exact b _ _ (bX dC dC bR) rfl
   refine sC3 (fun _ l a _ _ _ _ c _ _ _ b=>?_) ?_
   · obtain ⟨g,i,j,d⟩:=a;have an:_=_:=c 5 23 kR rfl;have L:=g.bk O.out (fun f=>P f);go_simp;refine (gG gb q l L).mono ?_;rintro f ac ⟨rfl,rfl⟩;exact b _ _ (bX dC dC bR) (dF V.out)
   refine sC3 (fun r _ a _ _ _ s _ _ _ _ b=>?_) ?_
   · obtain ⟨g,i,j,d⟩:=a;have E:r (.tmp 4)=.pointer (some ⟨gl,k*8,none⟩):=s 4 kR;go_simp;exact b _ _ (bX dC dC bR) rfl
   refine sC3 (fun _ _ a _ _ _ _ c _ _ _ b=>?_) ?_
   · obtain ⟨g,i,j,d⟩:=a;have ap:_=_:=c 7 25 kR rfl;go_simp;exact b _ _ (bX dC dC bR) rfl
   refine sC3 (fun _ _ a _ _ _ _ c _ _ _ b=>?_) ?_
   · obtain ⟨g,i,j,d⟩:=a;have aq:_=_:=c 8 26 kR rfl;go_simp;exact b _ _ (bX dC dC bR) rfl
   refine sC3 (fun _ l a _ _ _ _ c _ _ _ b=>?_) ?_
   · obtain ⟨g,i,j,d⟩:=a;have ar:_=_:=c 9 27 kR rfl;have Y:l.cell? ⟨gl,k*8+7,none⟩=some (.pointer (some gb)):=d.c7;go_simp;exact b _ _ (bX dC dC bR) rfl
   refine sC3 (fun _ l a _ _ _ _ c _ _ _ b=>?_) ?_
   · obtain ⟨g,i,j,d⟩:=a;have au:_=_:=c 10 28 kR rfl;have L:=g.bk O.out (fun f=>P f);go_simp;refine (sW gb q l L a8).mono ?_;rintro f ac ⟨rfl,rfl⟩;exact b _ _ (bX dC dC bR) (dF W.out)
   refine sC3 (fun _ _ a _ _ _ _ c _ _ _ b=>?_) ?_
   · obtain ⟨g,i,j,d⟩:=a;have ai:_=_:=c 0 18 kR rfl;go_simp;exact b _ _ (bX dC dC bR) rfl
   refine sC3 (fun _ _ a _ _ _ _ c _ _ _ b=>?_) ?_
   · obtain ⟨g,i,j,d⟩:=a;have aw:_=_:=c 12 30 kR rfl;go_simp;exact b _ _ (bX dC dC bR) rfl
   refine sC3 (fun _ l a _ _ _ _ c _ _ _ b=>?_) ?_
   · obtain ⟨g,i,j,d⟩:=a;have ax:_=_:=c 13 31 kR rfl;have ao:_=_:=c 6 24 kR rfl;have ag:l.cell? ⟨gl,k*8+3,none⟩=some (.int .i64 i):=d.c3;have aA:=d.fz (k*8+3);go_simp;exact b (.bool true) _ ⟨fun _=>⟨Keep.setCell (F:=fun t=>t=gl) (Keep.refl _ _) (p:=⟨gl,k*8+3,none⟩) (.inl rfl) _,fun x y u=>u.at3 o⟩,fun f=>absurd f dC,fun f=>absurd rfl f⟩ ⟨j,d.at3 o⟩
   refine sC3 (fun _ _ a _ _ _ _ c _ _ _ b=>?_) ?_
   · obtain ⟨g,i,j,d⟩:=a;have aj:_=_:=c 1 19 kR rfl;go_simp;exact b _ _ (bX dC dC bR) rfl
   refine sC3 (fun _ _ a _ _ _ _ c _ _ _ b=>?_) ?_
   · obtain ⟨g,i,j,d⟩:=a;have ay:_=_:=c 15 32 kR rfl;go_simp;exact b _ _ (bX dC dC bR) rfl
   refine sC3 (fun _ l a _ _ _ _ c _ _ _ b=>?_) ?_
   · obtain ⟨g,i,j,d⟩:=a;have az:_=_:=c 16 33 kR rfl;have av:_=_:=c 11 29 kR rfl;have ah:l.cell? ⟨gl,k*8+4,none⟩=some (.int .i64 j):=d.c4;have aB:=d.fz (k*8+4);go_simp;exact b (.bool true) _ ⟨fun f=>absurd f dC,fun _=>⟨Keep.setCell (F:=fun t=>t=gl) (Keep.refl _ _) (p:=⟨gl,k*8+4,none⟩) (.inl rfl) _,fun x y u=>u.at4 m⟩,fun _ f=>absurd rfl f⟩ ⟨i,d.at4 m⟩
   exact aH
 · intro r N a c J;obtain ⟨a7,_⟩:=a;obtain ⟨_,ad,z⟩:∃v,N3 gl cl n k xs gb o v N:=J 14 dC;obtain ⟨_,aG,B⟩:∃v,N4 gl cl n k xs gb m v N:=J 17 dC;have Z:RowS gl cl n k xs gb o m N:=(by have a9:=z.c4.symm.trans B.c4;have aa:ad=m:=(by simpa using a9);rw [<-aa];exact z);simp only [zqq];clear c J;go_wp2;exact bodyPost_ret (results_none rfl _ _ _) rfl ⟨rfl,a7,Z⟩
def RowN (gl cl n k:Nat) (xs:List Value) (cs:List Value) (w:World):Prop:=∃ys,w.ownsRow 0 220 8 (.slice (some gl) n cl) n ys/\At8 ys k cs/\But8 k xs ys
def RowN.put {gl cl n k:Nat} {xs cs:List Value} {w:World} (c:RowN gl cl n k xs cs w) {j:Nat} (b:j < 8) (a:Value):RowN gl cl n k xs (cs.set j a) (w.setCell ⟨gl,k*8+j,none⟩ a):=by
 obtain ⟨ys,d,e,f⟩:=c;exact ⟨_,(World.ownsRow.stored d (k*8+j) a).1,e.set b _,f.trans (But8.set k ys b _)⟩
def RowN.grow {gl cl n k:Nat} {xs cs:List Value} {w w':World} (b:RowN gl cl n k xs cs w) (a:Below w.heap.size w w'):RowN gl cl n k xs cs w':=by
 obtain ⟨ys,c,d,e⟩:=b;exact ⟨ys,aO c a,d,e⟩
def RowN.drew {gl cl n k:Nat} {xs cs:List Value} {w:World} (a:RowN gl cl n k xs cs w):RowN gl cl n k xs cs w.drew:=a
def aC7 {w:World} {a:Obj} {b:TypeId} {cs:Array Value} {c:Nat} (d:(w.alloc a).heap.size=c):Bk ((w.alloc a).alloc (.cells cs b)).drew c b cs:=by
 subst d;exact (Bk.new (w.alloc a) b cs).drew
def aDm (gt ga gl cl n k t u b c e o f q:Nat) (xs:List Value) (rt v:Int) (w:World) (ht:TR w gt ga (some ⟨gl,0,none⟩) cl n xs rt v) {K N O L M:Int} (E:At8 xs k (ndL t u K N O L M))
 {a0 a1 a5 a6 P B Q S:Int} {ad ae:Option Addr} (I:At8 xs t [.int .i64 a0,.int .i64 a1,.int .i64 (b:Int),.int .i64 (e:Int),.int .i64 (f:Int),.int .i64 a5,.int .i64 a6,.pointer ad]) (J:At8 xs u [.int .i64 P,.int .i64 B,.int .i64 (c:Int),.int .i64 (o:Int),.int .i64 (q:Int),.int .i64 Q,.int .i64 S,.pointer ae])
 (b1:b<=1000000) (b2:c<=1000000) (aQ:e<=1000000) (aR:o<=1000000) (aS:f<=1000000) (aT:q<=1000000):
 Calls prog 235 #[gt,(k:Int)] w fun aq w'=>aq=.returned (.tuple #[])/\Keep (fun a=>a=gl) w w'/\RowN gl cl n k xs (ndL t u ((max b c+1:Nat):Int) ((e+o:Nat):Int) ((f+q:Nat):Int) e f) w':=by
 have aU:=ht.c1;obtain ⟨k0,ax,a8,a9,aa,ab,ac,ay⟩:=ht.at E;obtain ⟨az,aA,aB,aC,aD,aE,aF,aG⟩:=ht.at I;obtain ⟨aH,aI,aJ,aK,aL,aM,aN,aP⟩:=ht.at J;have b4:(k:Int) < (n:Int):=by have:=E.lt ht.len;omega
 have b5:(t:Int) < (n:Int):=by have:=I.lt ht.len;omega
 have b6:(u:Int) < (n:Int):=by have:=J.lt ht.len;omega
 obtain ⟨aV,r⟩:=cK ht.row;have m:=r.lt;have b3:=ht.blk.lt;have b0:gt≠gl:=Bk.ne ht.blk r dC;have ar:=fun s=>r.frozen s;obtain ⟨ap,aj,ai⟩:=hqq3 ht E r;clear ht E I J r;go_enter func235,ntmps235;go_upto_region 3 with fail;go_cut [5,6] from 34 (fun x y z=>∃i l,x=.pointer (some ⟨i,0,none⟩)/\y=.pointer (some ⟨l,0,none⟩)/\Bk z i 220 #[.int .i64 a0,.int .i64 a1,(b:Int),(e:Int),(f:Int),.int .i64 a5,.int .i64 a6,.pointer ad]/\Bk z l 220 #[.int .i64 P,.int .i64 B,(c:Int),(o:Int),(q:Int),.int .i64 Q,.int .i64 S,.pointer ae]/\Below w.heap.size w z/\w.heap.size<=i/\w.heap.size<=l)
 case first=>
  go_region
  · go_wp2_with fail;go_meet;exact ⟨w.heap.size,w.heap.size+1,rfl,rfl,((Bk.new w _ _).alloc _).drew,aC7 (World.size_alloc w _),((bR.alloc nL _).alloc (by rw [World.size_alloc];omega) _).drew,zAs _,Nat.le_succ _⟩
  · go_wp2_with fail;go_meet;exact ⟨w.heap.size+1,w.heap.size,rfl,rfl,aC7 (World.size_alloc w _),((Bk.new w _ _).alloc _).drew,((bR.alloc nL _).alloc (by rw [World.size_alloc];omega) _).drew,Nat.le_succ _,zAs _⟩
 case rest=>
 obtain ⟨i,l,rfl,rfl,C,D,d,aX,aY⟩:=hcut;have X:RowN gl cl n k xs (ndL t u K N O L M) wc:=⟨xs,aO ap.out.row d,aj.out,But8.refl _ _⟩;have b7:i≠gl:=oM;have b8:l≠gl:=oM;have aZ:gl < wc.heap.size:=zAl m d.size;have aW:∀s,wc.frozen? ⟨gl,s,none⟩=false:=fun s=>(ai.out.below d m).frozen s;have be:wc.cell? ⟨i,2,none⟩=some (.int .i64 (b:Int)):=(C.cell 2).trans rfl;have bf:wc.cell? ⟨i,3,none⟩=some (.int .i64 (e:Int)):=(C.cell 3).trans rfl;have bg:wc.cell? ⟨i,4,none⟩=some (.int .i64 (f:Int)):=(C.cell 4).trans rfl;have bh:wc.cell? ⟨l,2,none⟩=some (.int .i64 (c:Int)):=(D.cell 2).trans rfl;have bi:wc.cell? ⟨l,3,none⟩=some (.int .i64 (o:Int)):=(D.cell 3).trans rfl;have bj:wc.cell? ⟨l,4,none⟩=some (.int .i64 (q:Int)):=(D.cell 4).trans rfl;have b9:wc.cell? ⟨gl,k*8+2,none⟩=some (.int .i64 K):=(d.cell (by exact m)).trans a8;have ba:wc.cell? ⟨gl,k*8+3,none⟩=some (.int .i64 N):=(d.cell (by exact m)).trans a9;have bb:wc.cell? ⟨gl,k*8+4,none⟩=some (.int .i64 O):=(d.cell (by exact m)).trans aa;have bc:wc.cell? ⟨gl,k*8+5,none⟩=some (.int .i64 L):=(d.cell (by exact m)).trans ab;have bd:wc.cell? ⟨gl,k*8+6,none⟩=some (.int .i64 M):=(d.cell (by exact m)).trans ac;obtain ⟨am,ah⟩:=hqq2 X d;clear C D X d k0 ax a8 a9 aa ab ac ay az aA aB aC aD aE aF aG aH aI aJ aK aL aM aN aP ar;obtain ⟨g,T⟩:∃g:Nat,max b c+1=g:=⟨_,rfl⟩;have H:=lhd T;clear T;go_upto_region 4 with fail;go_cut [60] from 54 (fun v z=>z=wc.setCell ⟨gl,k*8+2,none⟩ (.int .i64 (g:Int)))
 case first=>
  rcases zBe b c with aw | aw
  · have au:((c:Nat):Int)+1=(g:Int):=(by have:=H.out;omega);have av:max (b:Int) (c:Int)=(c:Int):=oM;go_wp2_with fail
    all_goals (go_meet;rfl)
  · have au:((b:Nat):Int)+1=(g:Int):=(by have:=H.out;omega);have av:max (b:Int) (c:Int)=(b:Int):=oM;go_wp2_with fail
    all_goals (go_meet;rfl)
 case rest=>
 subst hcut;have Y:=am.out.put (j:=2) oM (.int .i64 (g:Int));have U:Keep (fun a=>a=gl) w (wc.setCell ⟨gl,k*8+2,none⟩ (.int .i64 (g:Int))):=Keep.setCell (F:=fun a=>a=gl) (Keep.of_below ah.out) (p:=⟨gl,k*8+2,none⟩) (.inl rfl) _;obtain ⟨an,ak⟩:=hqq2 Y U;clear Y U;go_wp2_with fail
 go_region
 have Z:=(an.out.put (j:=3) oM (.int .i64 ((e:Int)+o))).put (j:=4) oM (.int .i64 ((f:Int)+q));have V:=Keep.setCell (F:=fun a=>a=gl) (Keep.setCell (F:=fun a=>a=gl) ak.out (p:=⟨gl,k*8+3,none⟩) (.inl rfl) (.int .i64 ((e:Int)+o))) (p:=⟨gl,k*8+4,none⟩) (.inl rfl) (.int .i64 ((f:Int)+q));obtain ⟨ao,al⟩:=hqq2 Z V;clear Z V;go_wp2_with fail
 go_region
 have a7:=(ao.out.drew.put (j:=5) oM (.int .i64 (e:Int))).put (j:=6) oM (.int .i64 (f:Int));have W:=Keep.setCell (F:=fun a=>a=gl) (Keep.setCell (F:=fun a=>a=gl) al.out.drew (p:=⟨gl,k*8+5,none⟩) (.inl rfl) (.int .i64 (e:Int))) (p:=⟨gl,k*8+6,none⟩) (.inl rfl) (.int .i64 (f:Int));obtain ⟨ag,af⟩:=hqq2 a7.drew W.drew;clear a7 W;go_wp2;have B:((max b c+1:Nat):Int)=(g:Int):=by have:=H.out;omega
 refine bodyPost_end (results_none rfl _ _ _) rfl ?_;rw [B,Int.natCast_add,Int.natCast_add];exact ⟨rfl,af.out,ag.out⟩
def aBK:(prog.info? 220).map (fun a=>(a.zero,a.size,a.bytes))=some (some (.agg #[.int .i64 0,.int .i64 0,.int .i64 0,.int .i64 0,.int .i64 0,.int .i64 0,.int .i64 0,.pointer none]),8,64):=by kernel_rfl
def qB {w:World} {a c:Nat} {d:TypeId} {cs:Array Value} (b:Bk w a d cs) (e:cs.size=c):Rd w w.heap.size c (some ⟨a,0,none⟩) 1 cs.toList:=by
 refine ⟨by rw [Nat.one_mul,<-e];simp,fun _=>⟨a,0,rfl,b.lt,fun g i f=>?_⟩⟩;rw [zBi,b.cell];simpa using f
def Got (n:Nat) (fr:List Nat) (k b:Nat) (a:List Nat):Prop:=(fr=a++ [k]/\b=n/\k < n)∨(fr= []/\a= []/\k=n/\b=n+1)
section
variable (F : Nat -> Prop) (gt ga : Nat) (A : Option Addr) (cap n : Nat) (xs : List Value) (tk : List Bool) (fr : List Nat) (rt v : Int) (a0 a1 a2 a3 a4 a5 a6 : Int) (p : Option Addr) (w : World) (R : Nat -> World -> Prop)
def aC5 (d:TX w F gt ga A cap n xs tk [] rt v) (aP:∀a,w.heap.size<=a->F a) (aU:n<=100000)
 (aN:∀k b7 ax bc bs ae c1 w1,Got n [] k b7 ax->TX w1 F gt ga bc bs b7 ae c1 ax rt v->At8 ae k [.int .i64 a0,.int .i64 a1,.int .i64 a2,.int .i64 a3,.int .i64 a4,.int .i64 a5,.int .i64 a6,.pointer p]->But8 k xs ae->LK F [] w w1->Calls prog 235 #[gt,(k:Int)] w1 fun b w'=>b=.returned (.tuple #[])/\R k w'):
 Calls prog 231 #[gt,.agg #[.int .i64 a0,.int .i64 a1,.int .i64 a2,.int .i64 a3,.int .i64 a4,.int .i64 a5,.int .i64 a6,.pointer p]] w fun b w'=>∃k,b=.returned (.int .i64 ((k:Nat):Int))/\R k w':=by
 obtain ⟨bX,bJ,bQ,bT,bV⟩:=info_parts aBK;obtain ⟨a7,a8,af,aw,X,b8,b9,ba,bb⟩:=d.ar.2;have Y:=X.alloc (.cells #[.int .i64 a0,.int .i64 a1,.int .i64 a2,.int .i64 a3,.int .i64 a4,.int .i64 a5,.int .i64 a6,.pointer p] 220);have Z:=aO b8 (bR.alloc nL (.cells #[.int .i64 a0,.int .i64 a1,.int .i64 a2,.int .i64 a3,.int .i64 a4,.int .i64 a5,.int .i64 a6,.pointer p] 220));rw [d.tkn] at Y Z;have b2:=jG 0 ga a7 a8 af aw n tk _ Y Z (zAp _) oM;have c8:=d.rd.blk.lt;have c7:=X.lt;have aK:=d.rd.blk.alloc (.cells #[.int .i64 a0,.int .i64 a1,.int .i64 a2,.int .i64 a3,.int .i64 a4,.int .i64 a5,.int .i64 a6,.pointer p] 220);have b1:=aO d.rd.row (bR.alloc nL (.cells #[.int .i64 a0,.int .i64 a1,.int .i64 a2,.int .i64 a3,.int .i64 a4,.int .i64 a5,.int .i64 a6,.pointer p] 220));have cc:gt≠ga:=Bk.ne d.rd.blk X dC;have b5:=Bk.new w 220 #[.int .i64 a0,.int .i64 a1,.int .i64 a2,.int .i64 a3,.int .i64 a4,.int .i64 a5,.int .i64 a6,.pointer p];have bG:=d.rd.c0;have bp:=lhd (fun a (b:(Value.slice A n cap).ownBlock=some a)=>(d.rd.row.lt a b).2);obtain ⟨au,ai,aq,av,ao,ag,ah,t,bq⟩:=hqq9 b2 aK b1 b5 d.own d.fg d.ar.1 d.tkn d.tkv;obtain ⟨bi,ak,bn,ap,bo,bm,bl⟩:=hqq7 aN aP (aO b9 (bR.alloc nL (.cells #[.int .i64 a0,.int .i64 a1,.int .i64 a2,.int .i64 a3,.int .i64 a4,.int .i64 a5,.int .i64 a6,.pointer p] 220))) ba bb Z Y;have aQ:LK F [] w (w.alloc (.cells #[.int .i64 a0,.int .i64 a1,.int .i64 a2,.int .i64 a3,.int .i64 a4,.int .i64 a5,.int .i64 a6,.pointer p] 220)):=LK.below (bR.alloc nL _);have al:=lhd aQ;clear b2 aK b1 b5 aN aP X b8 b9 ba bb Y Z d aQ;go_enter func231,ntmps231;go_wp2_with fail;obtain ⟨j,bI⟩:=eqx w.heap.size;refine au.out.mono ?_;rintro b w1 ⟨rfl,B,cf,aC,ab,b4⟩;clear au;have L:∀a M cs,Bk (w.alloc (.cells #[.int .i64 a0,.int .i64 a1,.int .i64 a2,.int .i64 a3,.int .i64 a4,.int .i64 a5,.int .i64 a6,.pointer p] 220)) a M cs->M≠228->M≠4->¬(a=ga∨(Value.slice a7 n a8).ownBlock=some a):=fun a M cs g u V b=>by rcases b with b | b;subst b;exact u (aJ g bl.out).1;exact V (iZ bm.out b g)
 have S:=B.bk ai.out (L _ _ _ ai.out dC dC);have ac:=aA (w':=w1) aq.out fun a cs _ g=>B.bk g (L _ _ _ g dC dC);have b6:Bk w1 j 220 #[.int .i64 a0,.int .i64 a1,.int .i64 a2,.int .i64 a3,.int .i64 a4,.int .i64 a5,.int .i64 a6,.pointer p]:=by rw [<-bI];exact B.bk av.out (L _ _ _ av.out dC dC)
 have aZ:=aA (w':=w1) bn.out fun a cs _ g=>B.bk g (L _ _ _ g dC dC);have ay:∀a,a < (w.alloc (.cells #[.int .i64 a0,.int .i64 a1,.int .i64 a2,.int .i64 a3,.int .i64 a4,.int .i64 a5,.int .i64 a6,.pointer p] 220)).heap.size->(a=ga∨(Value.slice a7 n a8).ownBlock=some a)->F a:=fun a _ b=>by rcases b with b | b;rw [b];exact ah.out;have:=ap.out a;rw [t.out] at this;exact this b
 have aR:LK F [] w w1:=al.out.trans (LK.of B ay fun a cs b g=>L a _ cs g dC dC b);obtain ⟨bd,bt,ad,_,_⟩:=aM ab;have aD:ArenaE w1 F ga (tk++ [true]) []:=by
  have aa:(tk++ [true]).length=n+1:=by rw [zAi,t.out];rfl
  refine ⟨ah.out,bd,bt,af,aw,?_,?_,aZ,fun a m=>?_,bo.out⟩;rw [aa,<-ad];exact aC;rw [aa,<-ad];exact ab;rw [aa,<-ad] at m;rcases b4 with b |⟨l,b,T⟩;have:=ap.out a;rw [t.out] at this;exact this (b ▸ m);rw [m] at b;injection b with b;subst b;refine ak.out a ?_;rw [World.size_alloc] at T;omega
 have aV:¬(Value.slice A n cap).ownBlock=some gt:=fun b=>absurd (iZ ac b S) dC;have bO:=B.size;rw [World.size_alloc] at bO;have aX:¬(Value.slice A n cap).ownBlock=some j:=fun b=>by
  have:=aq.out.lt j b;have V:=(al.out).keep.size;have c6:j < w.heap.size:=by rcases bp.out j b with bC;exact bC
  omega
 obtain ⟨aj,O,br,am,bg,an,bj⟩:=hqq7 S ac b6 aR aD aV aX;have cd:w1.cell? ⟨gt,1,none⟩=some (.slice A n cap):=(S.cell 1).trans rfl;have c9:=S.lt;clear S ac b6 aR aD aV aX aZ ay aC ab b4 B L bG;go_wp2_with fail;refine wp_region_any kR ?_;refine cF 10 [22,23,24,25,26,27,28,29,30,31] (fun a=>(Value.slice A n cap).ownBlock=some a) 7 [7] (fun N=>N.ownsRow 0 220 8 (.slice A n cap) n xs) (fun v N=>N.ownsRow 0 220 8 v (n+1) (xs++ [.int .i64 a0,.int .i64 a1,.int .i64 a2,.int .i64 a3,.int .i64 a4,.int .i64 a5,.int .i64 a6,.pointer p])/\(v.ownBlock=(Value.slice A n cap).ownBlock∨∃l,v.ownBlock=some l/\w1.heap.size<=l)) [is gt,is gt,is gt,is (.pointer (some ⟨gt,1,none⟩)),is (.slice A n cap),is (.agg #[.int .i64 a0,.int .i64 a1,.int .i64 a2,.int .i64 a3,.int .i64 a4,.int .i64 a5,.int .i64 a6,.pointer p]),qF (fun a=>(Value.slice A n cap).ownBlock=some a) 220 #[.int .i64 a0,.int .i64 a1,.int .i64 a2,.int .i64 a3,.int .i64 a4,.int .i64 a5,.int .i64 a6,.pointer p] fun l=>.slice (some ⟨l,0,none⟩) 1 1,cR,is gt,is (.pointer (some ⟨gt,1,none⟩))] _ _ rfl dC kR kR kR O.out (fun N cg d _ T=>aO d T) (fun _ _ _ ⟨u,V⟩ k=>⟨aO u k,V⟩) tA3 ?_ ?_
 · refine bM ?_;refine pH3 0 (.pointer (some gt)) ?_;refine pH3 0 (.pointer (some gt)) ?_;refine pV3 1 23 ?_;refine pV3 2 24 ?_;refine pL3 3 25 (fun e c=>have c:Keep (fun a=>(Value.slice A n cap).ownBlock=some a) w1 e:=kD c;(((c.bk aj.out an.out).cell 1).trans rfl:e.cell? ⟨gt,1,none⟩=some (.slice A n cap))) ?_;refine sC3 (fun I e c _ _ _ bK _ _ _ _ z=>?_) ?_
   · replace c:Keep (fun a=>(Value.slice A n cap).ownBlock=some a) w1 e:=kD c;have c4:I (.tmp 3)=.pointer (some ⟨j,0,none⟩):=bK 3 kR;have r:=c.bk br.out bj.out;have ci:e.cell? ⟨j,0,none⟩=some (.int .i64 a0):=(r.cell 0).trans rfl;have cj:e.cell? ⟨j,1,none⟩=some (.int .i64 a1):=(r.cell 1).trans rfl;have ck:e.cell? ⟨j,2,none⟩=some (.int .i64 a2):=(r.cell 2).trans rfl;have cm:e.cell? ⟨j,3,none⟩=some (.int .i64 a3):=(r.cell 3).trans rfl;have cn:e.cell? ⟨j,4,none⟩=some (.int .i64 a4):=(r.cell 4).trans rfl;have co:e.cell? ⟨j,5,none⟩=some (.int .i64 a5):=(r.cell 5).trans rfl;have cp:e.cell? ⟨j,6,none⟩=some (.int .i64 a6):=(r.cell 6).trans rfl;have cq:e.cell? ⟨j,7,none⟩=some (.pointer p):=(r.cell 7).trans rfl;go_simp;exact kq z rfl
   refine sC3 (fun _ e c _ _ _ _ q _ _ _ z=>?_) ?_
   · replace c:Keep (fun a=>(Value.slice A n cap).ownBlock=some a) w1 e:=kD c;have c3:_=_:=q 5 27 kR rfl;go_simp;exact z _ _ (aG (bR.alloc nL _)) ⟨_,rfl,Bk.new _ _ _,fun d=>by have:=(O.out.lt _ d).2;have:=c.size;omega⟩
   refine sC3 (fun I e c bD _ _ _ q _ _ bE z=>?_) ?_;replace c:Keep (fun a=>(Value.slice A n cap).ownBlock=some a) w1 e:=kD c;have bL:=bD rfl;have bw:_=_:=q 4 26 kR rfl;have bY:(qF (fun a=>(Value.slice A n cap).ownBlock=some a) 220 #[.int .i64 a0,.int .i64 a1,.int .i64 a2,.int .i64 a3,.int .i64 a4,.int .i64 a5,.int .i64 a6,.pointer p] fun l=>.slice (some ⟨l,0,none⟩) 1 1) (I (.tmp 28)) e:=q 6 28 kR rfl;obtain ⟨bB,bx,bF,cb⟩:=bY;subst bE;have bP:=c.size;refine fY e (.tmp 26) (.tmp 28) _ rfl 0 220 bX _ 8 64 underlying203 bJ bQ bT bV rfl dC (.slice A n cap) n xs bw bL e.heap.size (some ⟨bB,0,none⟩) 1 1 _ bx (qB bF rfl) (by simp [Value.oneCell']) (by unfold maxLen;omega) oM (zAp _) ?_;intro ce C K U Q;refine z _ _ (aW ⟨U.os,U.tape,U.output,U.size,fun k g aU=>U.block k g (fun b=>aU b.symm)⟩) ⟨K,?_⟩;rcases Q with a9 | a9;exact .inl a9;exact .inr ⟨_,a9,bP⟩;refine pV3 0 22 ?_;refine pV3 8 30 ?_;exact aH
 intro I C P c q;replace c:Keep (fun a=>(Value.slice A n cap).ownBlock=some a) w1 C:=kD c;have bZ:(fun v N=>N.ownsRow 0 220 8 v (n+1) (xs++ [.int .i64 a0,.int .i64 a1,.int .i64 a2,.int .i64 a3,.int .i64 a4,.int .i64 a5,.int .i64 a6,.pointer p])/\(v.ownBlock=(Value.slice A n cap).ownBlock∨∃l,v.ownBlock=some l/\w1.heap.size<=l)) (I (.tmp 29)) C:=q 7 29 dC rfl;have bA:I (.tmp 31)=.pointer (some ⟨gt,1,none⟩):=q 9 31 dC rfl;simp only [zqq];rw [bA];clear q;obtain ⟨K,Q⟩:=bZ;obtain ⟨D,H,bz,_,_⟩:=aM K;rw [bz] at K Q⊢;have o:=c.bk aj.out an.out;have c2:C.cell? ⟨gt,1,none⟩=some (.slice A n cap):=(o.cell 1).trans rfl;have c5:=o.frozen 1;have ca:=o.lt;obtain ⟨E,J⟩:=eqx (C.setCell ⟨gt,1,none⟩ (.slice D (n+1) H));have aI:Bk E gt 205 #[ga,.slice D (n+1) H,.int .i64 rt,.int .i64 v]:=by rw [<-J];exact o.set 1 _
 have b0:E.ownsRow 0 220 8 (.slice D (n+1) H) (n+1) (xs++ [.int .i64 a0,.int .i64 a1,.int .i64 a2,.int .i64 a3,.int .i64 a4,.int .i64 a5,.int .i64 a6,.pointer p]):=by rw [<-J];exact aA K fun a cs _ m=>m.far (p:=⟨gt,1,none⟩) (Bk.ne m o dC) _
 have aE:=bg.out.keep c fun a M cs W g _ b=>by have bv:=iZ O.out b g;subst bv;exact absurd W dC
 have aF:ArenaE E F ga (tk++ [true]) []:=by rw [<-J];refine aE.keep (G:=fun a=>a=gt) (Keep.setCell (F:=fun a=>a=gt) (Keep.refl _ _) (p:=⟨gt,1,none⟩) (.inl rfl) _) fun a M cs W g _ b=>?_;have bu:a=gt:=b;subst bu;rw [(aJ g o).1] at W;exact absurd W dC
 have aS:LK F [] w1 C:=LK.of c (fun a _ b=>ao.out a b) fun a cs b g=>absurd (iZ O.out b g) dC;have aT:LK F [] w E:=by rw [<-J];exact (am.out.trans aS).trans (LK.set o dC ag.out _)
 have aY:OwnF F (.slice D (n+1) H):=fun a m=>by rcases Q with b |⟨l,b,T⟩;exact ao.out a (b ▸ m);rw [m] at b;injection b with b;subst b;exact ak.out a (zAk am.out.keep.size T)
 have b3:∀s,s < n+1->(tk++ [true])[s]?=some (decide (s∉([]:List Nat))):=fun s bN=>by
  rcases zBe s n with u | u
  · rw [zAn (by rw [t.out];exact u),bq.out s u]
  obtain rfl:s=n:=oM;rw [zAo (by rw [t.out];omega),t.out,Nat.sub_self];rfl
 have aB:TX E F gt ga D H (n+1) (xs++ [.int .i64 a0,.int .i64 a1,.int .i64 a2,.int .i64 a3,.int .i64 a4,.int .i64 a5,.int .i64 a6,.pointer p]) (tk++ [true]) [] rt v:=⟨ag.out,⟨aI,b0⟩,aY,aF,by rw [zAi,t.out];rfl,b3⟩;have aL:=bi.out n (n+1) [] D H (xs++ [.int .i64 a0,.int .i64 a1,.int .i64 a2,.int .i64 a3,.int .i64 a4,.int .i64 a5,.int .i64 a6,.pointer p]) _ E (.inr ⟨rfl,rfl,rfl,rfl⟩) aB (At8.new O.out.1 rfl) (fun s cs bN d=>d.app _) aT;obtain ⟨bh,bf⟩:=hqq2 aL J;clear o K Q J aI b0 aE aF aS aT aY b3 aB aL;change wpAny prog Region.Mode.any _ _ (1+P) (bS 10 11) _ C;rw [zCp 1 P];refine bH (f:=P) (i:=10) kR ?_;refine bU rfl rfl ?_;generalize z:wpAny prog _ _ _ P _=K5;go_simp;subst z;refine bW kR ?_;rw [bf.out];go_wp2_with fail;refine bh.out.mono ?_;rintro b ch ⟨rfl,az⟩;have be:=lhd az;clear az;go_wp2_with fail;go_ret;exact ⟨n,rfl,be.out⟩
def aC4 (k:Nat) (d:TX w F gt ga A cap n xs tk (fr++ [k]) rt v) (ai:∀b,w.heap.size<=b->F b) (bs:n<=100000) (O:k < n) (al:(fr++ [k]).Nodup) (aP:fr.length < n)
 (ah:∀C aw a9 ay aI Q aW w1,Got n (fr++ [k]) C aw a9->TX w1 F gt ga ay aI aw Q aW a9 rt v->At8 Q C [.int .i64 a0,.int .i64 a1,.int .i64 a2,.int .i64 a3,.int .i64 a4,.int .i64 a5,.int .i64 a6,.pointer p]->But8 C xs Q->LK F [] w w1->Calls prog 235 #[gt,(C:Int)] w1 fun a w'=>a=.returned (.tuple #[])/\R C w'):
 Calls prog 231 #[gt,.agg #[.int .i64 a0,.int .i64 a1,.int .i64 a2,.int .i64 a3,.int .i64 a4,.int .i64 a5,.int .i64 a6,.pointer p]] w fun a w'=>∃k,a=.returned (.int .i64 ((k:Nat):Int))/\R k w':=by
 obtain ⟨gl,b9,rfl,M⟩:=d.rd.ex oM;obtain ⟨s,aL,aa,K,ad⟩:=d.ar.own;have aj:Keep s w (w.alloc (.cells #[.int .i64 a0,.int .i64 a1,.int .i64 a2,.int .i64 a3,.int .i64 a4,.int .i64 a5,.int .i64 a6,.pointer p] 220)):=Keep.of_below (bR.alloc nL _);have u:=ad.keep (G:=fun _=>False) (Keep.of_below ((Below.refl w.heap.size w).alloc nL (.cells #[.int .i64 a0,.int .i64 a1,.int .i64 a2,.int .i64 a3,.int .i64 a4,.int .i64 a5,.int .i64 a6,.pointer p] 220))) (fun _ _ _ _ _ _ t=>t);have ao:=oS s ga k tk fr _ u (by rw [d.tkn];exact O) (by rw [d.tkn];omega) (by rw [d.tkn];exact aP);have ax:∀b r cs,Bk w b r cs->r≠228->r≠4->r≠3->¬s b:=fun b r cs o E aJ aK aO=>by rcases aa b r cs aO o with a | a | a;exact E a;exact aJ a;exact aK a
 have bn:=d.rd.blk.lt;have bi:=M.lt;have aN:=d.rd.c0;have au:=Bk.new w 220 #[.int .i64 a0,.int .i64 a1,.int .i64 a2,.int .i64 a3,.int .i64 a4,.int .i64 a5,.int .i64 a6,.pointer p];have aS:¬s w.heap.size:=fun t=>by have:=K _ t;omega
 have bq:((k:Int)==(n:Int))=false:=by rw [zCb];omega
 have br:(k:Int) < (n:Int):=oM;have ap:tk.length=n:=d.tkn;obtain ⟨l,W,D,aD,aF,U,aC,b8,aE⟩:=hqq9 d ao ax aj au M ah ai al;obtain ⟨S,aM,X⟩:=hqq3 aL K ap;clear ao ax aj au ah ai al aa K ad u d M ap;go_enter func231,ntmps231;go_wp2_with fail;obtain ⟨f,aR⟩:=eqx w.heap.size;refine W.out.mono ?_;rintro a w1 ⟨rfl,u,N⟩;clear W;have z:Keep s w w1:=aD.out.trans N;have I:=z.bk l.out.rd.blk (D.out _ _ _ l.out.rd.blk dC dC dC);have an:=aA (w':=w1) l.out.rd.row fun b cs _ o=>z.bk o (D.out _ _ _ o dC dC dC);have e:Bk w1 f 220 #[.int .i64 a0,.int .i64 a1,.int .i64 a2,.int .i64 a3,.int .i64 a4,.int .i64 a5,.int .i64 a6,.pointer p]:=by rw [<-aR];exact N.bk aF.out aS
 have c:=z.bk U.out (D.out _ _ _ U.out dC dC dC);have B:LK F [] w w1:=LK.of z (fun b _ a=>S.out b a) fun b cs a o=>by rcases zBe b w.heap.size with L | L;exact D.out b _ cs o dC dC dC a;exact absurd (aM.out b a) oM
 have aq:∀q,q < n->(tk.set k true)[q]?=some (decide (q∉fr)):=fun q am=>by
  have aT:k∉fr:=by have E:=aE.out;rw [List.nodup_append] at E;exact fun aV=>E.2.2 k aV k (by simp) rfl
  by_cases a:q=k
  · subst a;rw [List.getElem?_set_self (by rw [X.out];exact am)];simp [aT]
  · rw [List.getElem?_set_ne (fun x=>a x.symm),l.out.tkv q am];simp [a]
 have m:TX w1 F gt ga (some ⟨gl,0,none⟩) cap n xs (tk.set k true) fr rt v:=⟨l.out.fg,⟨I,an⟩,l.out.own,u.mono fun b _ t=>S.out b t,by rw [zAt];exact X.out,aq⟩;have aU:w1.cell? ⟨gt,1,none⟩=some (.slice (some gl) n cap):=(I.cell 1).trans rfl;have bo:=I.lt;have bj:=c.lt;have bp:=e.lt;have aY:w1.cell? ⟨f,0,none⟩=some (.int .i64 a0):=(e.cell 0).trans rfl;have aZ:w1.cell? ⟨f,1,none⟩=some (.int .i64 a1):=(e.cell 1).trans rfl;have b0:w1.cell? ⟨f,2,none⟩=some (.int .i64 a2):=(e.cell 2).trans rfl;have b3:w1.cell? ⟨f,3,none⟩=some (.int .i64 a3):=(e.cell 3).trans rfl;have b4:w1.cell? ⟨f,4,none⟩=some (.int .i64 a4):=(e.cell 4).trans rfl;have b5:w1.cell? ⟨f,5,none⟩=some (.int .i64 a5):=(e.cell 5).trans rfl;have b6:w1.cell? ⟨f,6,none⟩=some (.int .i64 a6):=(e.cell 6).trans rfl;have b7:w1.cell? ⟨f,7,none⟩=some (.pointer p):=(e.cell 7).trans rfl;obtain ⟨T,J,V⟩:=hqq3 m c B;clear m c B I an e z N u aq aN;go_wp2_with fail
 go_still_tail 7,kR
 change wpList _ _ _ _ _ w1.drew;have H:Below w1.heap.size w1 w1.drew:=bR.drew;have m:=T.out.below H;have c:=J.out.below H J.out.lt;have B:=V.out.trans (LK.below (F:=F) (bl:= []) H);clear T J V H aU aY aZ b0 b3 b4 b5 b6 b7;generalize w1.drew=w2 at*
 have bm:=c.lt;obtain ⟨bt,bu,bv,bw,bx,bz,bA,bB,P⟩:=At8.ex m.rd.len O;obtain ⟨bD,bE,bF,bG,bH,bI,bJ,bK⟩:=m.rd.at P;have ba:=c.frozen (k*8);have bb:=c.frozen (k*8+1);have bc:=c.frozen (k*8+2);have bd:=c.frozen (k*8+3);have be:=c.frozen (k*8+4);have bf:=c.frozen (k*8+5);have bg:=c.frozen (k*8+6);have bh:=c.frozen (k*8+7);have ac:=(((((((m.put (k*8) (.int .i64 a0)).put (k*8+1) (.int .i64 a1)).put (k*8+2) (.int .i64 a2)).put (k*8+3) (.int .i64 a3)).put (k*8+4) (.int .i64 a4)).put (k*8+5) (.int .i64 a5)).put (k*8+6) (.int .i64 a6)).put (k*8+7) (.pointer p);have ae:=(((((((P.set (j:=0) oM (.int .i64 a0)).set (j:=1) oM (.int .i64 a1)).set (j:=2) oM (.int .i64 a2)).set (j:=3) oM (.int .i64 a3)).set (j:=4) oM (.int .i64 a4)).set (j:=5) oM (.int .i64 a5)).set (j:=6) oM (.int .i64 a6)).set (j:=7) oM (.pointer p);have af:=(((((((But8.set k xs (j:=0) oM (.int .i64 a0)).trans (But8.set k _ (j:=1) oM (.int .i64 a1))).trans (But8.set k _ (j:=2) oM (.int .i64 a2))).trans (But8.set k _ (j:=3) oM (.int .i64 a3))).trans (But8.set k _ (j:=4) oM (.int .i64 a4))).trans (But8.set k _ (j:=5) oM (.int .i64 a5))).trans (But8.set k _ (j:=6) oM (.int .i64 a6))).trans (But8.set k _ (j:=7) oM (.pointer p));have ak:LK F [] w ((((((((w2.setCell ⟨gl,k*8,none⟩ (.int .i64 a0)).setCell ⟨gl,k*8+1,none⟩ (.int .i64 a1)).setCell ⟨gl,k*8+2,none⟩ (.int .i64 a2)).setCell ⟨gl,k*8+3,none⟩ (.int .i64 a3)).setCell ⟨gl,k*8+4,none⟩ (.int .i64 a4)).setCell ⟨gl,k*8+5,none⟩ (.int .i64 a5)).setCell ⟨gl,k*8+6,none⟩ (.int .i64 a6)).setCell ⟨gl,k*8+7,none⟩ (.pointer p)):=by have aQ:F gl:=OwnF.at l.out.own;have g:=fun (aG:World) (cs:Array Value) (av:Nat) (aX:Value) (L:Bk aG gl 220 cs)=>LK.set (F:=F) (bl:= []) (i:=av) L dC aQ aX;have b1:=c.set (k*8) (.int .i64 a0);have b2:=b1.set (k*8+1) (.int .i64 a1);have Y:=b2.set (k*8+2) (.int .i64 a2);have Z:=Y.set (k*8+3) (.int .i64 a3);have a7:=Z.set (k*8+4) (.int .i64 a4);have a8:=a7.set (k*8+5) (.int .i64 a5);have aH:=a8.set (k*8+6) (.int .i64 a6);exact (((((((B.trans (g _ _ _ _ c)).trans (g _ _ _ _ b1)).trans (g _ _ _ _ b2)).trans (g _ _ _ _ Y)).trans (g _ _ _ _ Z)).trans (g _ _ _ _ a7)).trans (g _ _ _ _ a8)).trans (g _ _ _ _ aH)
 have ag:=aC.out k n fr _ _ _ _ _ (.inl ⟨rfl,rfl,O⟩) ac ae af ak;have aB:=lhd ag;clear ag m ac ae af ak B c P;go_wp2_with fail;refine aB.out.mono ?_;rintro a bC ⟨rfl,ab⟩;have az:=lhd ab;clear ab;go_wp2_with fail;go_ret;exact ⟨k,rfl,az.out⟩
end
def TS (w:World) (F:Nat->Prop) (gt n:Nat) (xs:List Value) (fr:List Nat) (rt v:Int):Prop:=∃ga A cap tk,TX w F gt ga A cap n xs tk fr rt v
section
variable {w w' : World} {F G : Nat -> Prop} {gt ga cap n : Nat} {A : Option Addr} {xs ys : List Value} {tk : List Bool} {fr : List Nat} {rt v : Int}
def TX.row_new {gl:Nat} (a:TX w F gt ga (some ⟨gl,0,none⟩) cap n xs tk fr rt v) (k:Keep (fun b=>b=gl) w w') (i:w'.ownsRow 0 220 8 (.slice (some gl) n cap) n ys):TX w' F gt ga (some ⟨gl,0,none⟩) cap n ys tk fr rt v:=by
 obtain ⟨j,c⟩:=cK a.rd.row;refine ⟨a.fg,⟨k.bk a.rd.blk (Bk.ne a.rd.blk c dC),i⟩,a.own,a.ar.keep k fun b l cs d g _ e=>?_,a.tkn,a.tkv⟩;have f:b=gl:=e;subst f;rw [(aJ g c).1] at d;exact absurd d dC
def TX.lk {gl:Nat} (c:TX w F gt ga (some ⟨gl,0,none⟩) cap n xs tk fr rt v) (k:Keep (fun a=>a=gl) w w'):LK F [] w w':=by
 obtain ⟨g,e⟩:=cK c.rd.row;refine LK.of k (fun a _ b=>by rw [b];exact OwnF.at c.own) fun a cs b f=>?_;have d:a=gl:=b;subst d;exact absurd (aJ f e).1 dC
def TS.setv (a:TS w F gt n xs fr rt v) (b:Int):TS (w.setCell ⟨gt,3,none⟩ (.int .i64 b)) F gt n xs fr rt b:=by
 obtain ⟨ga,A,cap,tk,a⟩:=a;exact ⟨ga,A,cap,tk,a.setv b⟩
def TS.lkv (a:TS w F gt n xs fr rt v) (c:Nat) (b:Value):LK F [] w (w.setCell ⟨gt,c,none⟩ b):=by
 obtain ⟨ga,A,cap,tk,a⟩:=a;exact LK.set a.rd.blk dC a.fg b
def TS.below (a:TS w F gt n xs fr rt v) (k:Below w.heap.size w w'):TS w' F gt n xs fr rt v:=by
 obtain ⟨ga,A,cap,tk,a⟩:=a;exact ⟨ga,A,cap,tk,a.below k⟩
def TS.len (a:TS w F gt n xs fr rt v):xs.length=n*8:=by
 obtain ⟨ga,A,cap,tk,a⟩:=a;exact a.rd.len
def TS.lt (a:TS w F gt n xs fr rt v):gt < w.heap.size:=by
 obtain ⟨ga,A,cap,tk,a⟩:=a;exact a.rd.blk.lt
def TS.blk {b:Nat} {cs:Array Value} (c:TS w F gt n xs fr rt v) (g:Bk w b 240 cs) (k:Keep (fun a=>a=b) w w'):TS w' F gt n xs fr rt v:=by
 obtain ⟨ga,A,cap,tk,c⟩:=c;refine ⟨ga,A,cap,tk,c.keep k fun a l j d i _ e=>?_⟩;have f:a=b:=e;subst f;rw [(aJ i g).1] at d;exact absurd d dC
def TS.blk2 {e f:Nat} {cs i:Array Value} (d:TS w F gt n xs fr rt v) (j:Bk w e 240 cs) (l:Bk w f 240 i) (k:Keep (fun c=>c=e∨c=f) w w'):TS w' F gt n xs fr rt v:=by
 obtain ⟨ga,A,cap,tk,d⟩:=d;refine ⟨ga,A,cap,tk,d.keep k fun c o m b g _ a=>?_⟩;rcases a with a | a;subst a;rw [(aJ g j).1] at b;exact absurd b dC;subst a;rw [(aJ g l).1] at b;exact absurd b dC
end
def KT (gt:Nat) (w w':World):Prop:=∀cs,Bk w gt 205 cs->Bk w' gt 205 cs
def KT.trans {gt:Nat} {w w1 w':World} (a:KT gt w w1) (k:KT gt w1 w'):KT gt w w':=fun cs b=>k cs (a cs b)
def KT.below {gt:Nat} {w w':World} (k:Below w.heap.size w w'):KT gt w w':=fun cs a=>a.below k a.lt
def KT.keep {gt gl:Nat} {w w':World} {c:Array Value} (k:Keep (fun b=>b=gl) w w') (d:Bk w gl 220 c):KT gt w w':=fun cs a=>k.bk a (Bk.ne a d dC)
def aFs (F:Nat->Prop) (gt n k:Nat) (xs:List Value) (fr:List Nat) (rt v:Int) (cs:List Value) (w w':World):Prop:=∃a,TS w' F gt n a fr rt v/\At8 a k cs/\But8 k xs a/\LK F [] w w'/\KT gt w w'
def gU (F:Nat->Prop) (gt n k gb:Nat) (xs:List Value) (fr:List Nat) (rt v:Int) (b:List Bool) (w:World) (a:TS w F gt n xs fr rt v) {x0 y0:Int} (e:At8 xs k (gM x0 y0 gb)) (f:Bk w gb 240 (cC b)) (i:b.length<=128):
 Calls prog 235 #[gt,(k:Int)] w fun d w'=>d=.returned (.tuple #[])/\aFs F gt n k xs fr rt v (gM (b.length:Int) ((b.count true:Nat):Int) gb) w w':=by
 obtain ⟨ga,A,cap,tk,a⟩:=a;obtain ⟨gl,o,rfl,g⟩:=a.rd.ex (by have:=e.lt a.rd.len;omega);refine (aDn gt ga gl cap n k gb xs rt v b w a.rd e f i).mono ?_;rintro d w' ⟨rfl,c,ys,j,l,m⟩;exact ⟨rfl,ys,⟨ga,_,cap,tk,a.row_new c j⟩,l,m,a.lk c,KT.keep c g⟩
def fT (F:Nat->Prop) (gt n k f j d e b g c i:Nat) (xs:List Value) (fr:List Nat) (rt v:Int) (w:World) (a:TS w F gt n xs fr rt v) {H L M J K:Int} (o:At8 xs k (ndL f j H L M J K))
 {a0 a1 a5 a6 B C D E:Int} {N O:Option Addr} (q:At8 xs f (oB a0 a1 d b c a5 a6 N)) (r:At8 xs j (oB B C e g i D E O))
 (b1:d<=1000000) (b2:e<=1000000) (s:b<=1000000) (t:g<=1000000) (u:c<=1000000) (z:i<=1000000):
 Calls prog 235 #[gt,(k:Int)] w fun m w'=>m=.returned (.tuple #[])/\aFs F gt n k xs fr rt v (ndL f j ((max d e+1:Nat):Int) ((b+g:Nat):Int) ((c+i:Nat):Int) b c) w w':=by
 obtain ⟨ga,A,cap,tk,a⟩:=a;obtain ⟨gl,T,rfl,I⟩:=a.rd.ex (by have:=o.lt a.rd.len;omega);refine (aDm gt ga gl cap n k f j d e b g c i xs rt v w a.rd o q r b1 b2 s t u z).mono ?_;rintro m w' ⟨rfl,l,ys,P,Q,S⟩;exact ⟨rfl,ys,⟨ga,_,cap,tk,a.row_new l P⟩,Q,S,a.lk l,KT.keep l I⟩
def wX (n:Nat) (fr:List Nat):Prop:=fr.Nodup/\(∀k,k∈fr->k < n)/\(fr≠ []->fr.length<=n)
def aAZ (F:Nat->Prop) (gt n:Nat) (xs:List Value) (fr:List Nat) (rt v:Int) (cs:List Value) (w:World) (k:Nat) (w':World):Prop:=∃c a b,Got n fr k c b/\TS w' F gt c a b rt v/\At8 a k cs/\But8 k xs a/\LK F [] w w'
section
variable (F : Nat -> Prop) (gt n : Nat) (xs : List Value) (fr : List Nat) (rt v : Int) (a0 a1 a2 a3 a4 a5 a6 : Int) (p : Option Addr) (w : World) (cs : List Value)
def zF (e:TS w F gt n xs fr rt v) (s:∀l,w.heap.size<=l->F l) (u:n<=100000) (i:wX n fr)
 (C:∀k d b c w1,Got n fr k d b->TS w1 F gt d c b rt v->At8 c k [.int .i64 a0,.int .i64 a1,.int .i64 a2,.int .i64 a3,.int .i64 a4,.int .i64 a5,.int .i64 a6,.pointer p]->But8 k xs c->LK F [] w w1->
  Calls prog 235 #[gt,(k:Int)] w1 fun a w'=>a=.returned (.tuple #[])/\aFs F gt d k c b rt v cs w1 w'):
 Calls prog 231 #[gt,.agg #[.int .i64 a0,.int .i64 a1,.int .i64 a2,.int .i64 a3,.int .i64 a4,.int .i64 a5,.int .i64 a6,.pointer p]] w fun a w'=>∃k,a=.returned (.int .i64 ((k:Nat):Int))/\aAZ F gt n xs fr rt v cs w k w':=by
 obtain ⟨ga,A,cap,tk,e⟩:=e
 have r:∀k d b f g c j w1,Got n fr k d b->TX w1 F gt ga f g d c j b rt v->At8 c k [.int .i64 a0,.int .i64 a1,.int .i64 a2,.int .i64 a3,.int .i64 a4,.int .i64 a5,.int .i64 a6,.pointer p]->But8 k xs c->LK F [] w w1->
  Calls prog 235 #[gt,(k:Int)] w1 fun a w'=>a=.returned (.tuple #[])/\aAZ F gt n xs fr rt v cs w k w':=fun k d b f g c j w1 m z B o q=>by
  refine (C k d b c w1 m ⟨ga,f,g,j,z⟩ B o q).mono ?_;rintro a w' ⟨rfl,ys,D,E,H,I,_⟩;exact ⟨rfl,d,ys,b,m,D,E,o.trans H,q.trans I⟩
 rcases List.eq_nil_or_concat fr with a |⟨b,k,a⟩;subst a;exact aC5 F gt ga A cap n xs tk rt v a0 a1 a2 a3 a4 a5 a6 p w _ e s u r;rw [List.concat_eq_append] at a;subst a;have t:=i.2.2 (by simp);rw [zAi] at t;exact aC4 F gt ga A cap n xs tk b rt v a0 a1 a2 a3 a4 a5 a6 p w _ k e s u (i.2.1 k (by simp)) i.1 (by simp only [zCf,List.length_nil] at t;omega) r
end
def rP (F:Nat->Prop) (gt n gb:Nat) (xs:List Value) (fr:List Nat) (rt v:Int) (a:List Bool) (w:World) (i:TS w F gt n xs fr rt v) (l:∀b,w.heap.size<=b->F b) (o:n<=100000) (q:wX n fr) (j:Bk w gb 240 (cC a)) (m:a.length<=128):
 Calls prog 192 #[gt,gb] w fun c w'=>∃k,c=.returned (.int .i64 ((k:Nat):Int))/\aAZ F gt n xs fr rt v (gM (a.length:Int) ((a.count true:Nat):Int) gb) w k w':=by
 go_enter func192,ntmps192;go_wp2_with fail;refine (zF F gt n xs fr rt v (-1) (-1) 0 0 0 0 0 (some ⟨gb,0,none⟩) w _ i l o q fun k s d t w1 u e f z g=>gU F gt s k gb t d rt v a w1 e f (g.blk gb _ (by simp) j) m).mono ?_;rintro c w1 ⟨k,rfl,r⟩;go_wp2_with fail;go_ret;exact ⟨k,rfl,r⟩
def zE (F:Nat->Prop) (gt n a b i j c m d o:Nat) (xs:List Value) (fr:List Nat) (rt v:Int) (w:World) (B:TS w F gt n xs fr rt v) (S:∀t,w.heap.size<=t->F t) (U:n<=100000) (V:wX n fr) (T:a∉fr) (X:b∉fr)
 {a0 a1 a5 a6 L M N O:Int} {Z a7:Option Addr} (r:At8 xs a (oB a0 a1 i c d a5 a6 Z)) (s:At8 xs b (oB L M j m o N O a7))
 (b1:i<=1000000) (b2:j<=1000000) (H:c<=1000000) (I:m<=1000000) (J:d<=1000000) (K:o<=1000000):
 Calls prog 221 #[gt,(a:Int),(b:Int)] w fun e w'=>∃k,e=.returned (.int .i64 ((k:Nat):Int))/\aAZ F gt n xs fr rt v (ndL a b ((max i j+1:Nat):Int) ((c+m:Nat):Int) ((d+o:Nat):Int) c d) w k w':=by
 have Y:=B.len;have D:∀k l f q cs,Got n fr k l f->q∉fr->At8 xs q cs->q≠k:=fun k l f q cs P C E e=>by rcases P with ⟨g,_,_⟩|⟨_,_,u,_⟩;rw [g] at C;exact C (by simp [e]);have:=E.lt Y;omega
 go_enter func221,ntmps221;go_wp2_with fail;refine (zF F gt n xs fr rt v a b 0 0 0 0 0 none w _ B S U V fun k l f a8 w1 g Q u z a9=>fT F gt l k a b i j c m d o a8 f rt v w1 Q u (z _ _ (D _ _ _ _ _ g T r) r) (z _ _ (D _ _ _ _ _ g X s) s) b1 b2 H I J K).mono ?_;rintro e w1 ⟨k,rfl,W⟩;go_wp2_with fail;go_ret;exact ⟨k,rfl,W⟩
end Go.Proofs.YtnmapianpjamnaaGreatDoor
