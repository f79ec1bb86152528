/- Lemmas of the walk. Conditions: each its own. -/
import Derived.Test.YtcfpmjbojoidoaaGreatDoorPd5
import Derived.Test.YtcfpmjbojoidoaaGreatDoorPd6
import Derived.Test.YtcfpmjbojoidoaaGreatDoorRows
import Derived.Test.YtcfpmjbojoidoaaGreatDoorProg
import Derived.Test.YtcfpmjbojoidoaaGreatDoorSht
import Derived.Test.YtcfpmjbojoidoaaGreatDoorShd
set_option linter.all false
set_option maxRecDepth 100000
set_option maxHeartbeats 4000000
open Go.Proofs.Tryz
namespace Go.Proofs.YtcfpmjbojoidoaaGreatDoor
open Go.RowKit
def zS:List (String×DataW Unit):= [("math/bits.deBruijn64tab",Rows.laid_math_bits_deBruijn64tab)]
def aJt:prog.globalNamed "math/bits.deBruijn64tab" =some 7:=by kernel_rfl
def aJy:(prog.globals[7]?).map (·.type)=some 289:=by kernel_rfl
def aEL:(Rows.laid_math_bits_deBruijn64tab:DataW Unit)=Lib.tabData .u8 (Lib.deBruijn64tab.map fun a:Nat=>(a:Int)):=rfl
def zR {b:World} (a:laidMetH prog zS b):TabW b:=by
 rw [MakeChecks.laidMetH_plain _ _ _ kR] at a;unfold zS at a;rw [aEL] at a;have d:=Lib.tabIs_of_head aJt aJy underlying289 underlying5 kR kR a;intro c e;have:=d.cell aJt c (by rw [zBc];exact e);rw [this,zAb,zAf,zAb];cases Lib.deBruijn64tab[c]? <;> rfl
def dX:List (String×DataW Unit):= [("math/bits.deBruijn32tab",Rows.laid_math_bits_deBruijn32tab),("math/bits.deBruijn64tab",Rows.laid_math_bits_deBruijn64tab),("internal/strconv.uint64pow10",Rows.laid_internal_strconv_uint64pow10),("unicode/utf8.acceptRanges",Rows.laid_unicode_utf8_acceptRanges),("strconv.ErrRange",Rows.laid_strconv_ErrRange),("strconv.ErrSyntax",Rows.laid_strconv_ErrSyntax),("unicode/utf8.first",Rows.laid_unicode_utf8_first)]
def aJz:(prog.globals[1]?).map (·.type)=some 219:=by kernel_rfl
def aE9:(Rows.laid_internal_strconv_uint64pow10:DataW Unit)=Lib.tabData .u64 Lib.pow10Tab:=rfl
def aBK (w:World) (a:w.ShapedOpen prog):∃b,w.cell? ⟨0,0,none⟩=some (.int .i64 b):=
 cell_of_shapedOpen_int (t:=3) (zero:=#[.int .i64 0]) a (of_decide_eq_true kR) kR rfl kR kR underlying3
def aB1 {a:World} {b e:Nat} {f:Value} (d:a.cell? ⟨b,e,none⟩=some f):b < a.heap.size:=by
 rcases zBe b a.heap.size with c | c;exact c
 · rw [World.cell?,Array.getElem?_eq_none c] at d;cases d
def oX {b:World} (c:laidMetH prog dX b) (l:b.ShapedOpen prog):TabD b:=by
 have d:=c.filter fun a=>a.1== "math/bits.deBruijn64tab";have i:(dX.filter fun a=>a.1== "math/bits.deBruijn64tab")=zS:=by kernel_rfl
 rw [i] at d;have e:=c.filter fun a=>a.1== "internal/strconv.uint64pow10";have j:(dX.filter fun a=>a.1== "internal/strconv.uint64pow10")= [("internal/strconv.uint64pow10",Rows.laid_internal_strconv_uint64pow10)]:=by kernel_rfl
 rw [j,MakeChecks.laidMetH_plain _ _ _ kR,aE9] at e;have g:=Lib.tabIs_of_head aI8 aJz underlying219 underlying159 kR kR e;obtain ⟨m,f⟩:=aBK b l;refine ⟨zR d,g,⟨m,f⟩,aB1 f,?_⟩;have k:=g.cell aI8 0 dC;exact aB1 k
def aBX (b:Os) (a:Array Value):laidMetH prog dX ((World.laidAll prog b dX).forCall (fun _ _=>0) ⟨#[],a, []⟩).memory:=by
 rw [MakeChecks.laidMetH_plain _ _ _ kR];exact laidMet_laidAll _ kR kR
section
variable {H : Type} {enc : TypeId × Value -> H}
def iL {p:Assume} {C:Checked} {n:Os} {i:FuncId} {c:Func} {f:ChangeSpec} {r:List PathCond} {e u v q:Bool} {X:World->Array Value->Prop}
 (B:∀(w w':World) (b:Array Value),w.heap=w'.heap->X w b->X w' b)
 (own:ownKnob C.prog.godebug=none) (R:n.Started) (Q:C.prog.inits.idxOf? i=none) (E:C.prog.funcs[i]?=some c)
 (S:∃(w:World) (d:Tape) (a:Input),w.os=n/\(w.forCall d a).Shaped C.prog/\a.vars= []/\Input.okWide C.prog (w.forCall d a) .any w.heap.size i a/\
  ((f.pre enc C.prog c r e (w.forCall d a).memory a.args/\X (w.forCall d a).memory a.args)/\sizedMet enc C.prog c (OpenSpec.ofChange f) e (w.forCall d a).memory a.args)/\p.holds C.prog (lone (Frame.enter C.prog i a.args .normal) [] (w.forCall d a)))
 (z:∀(g:World) (y:Nat) (b:Array Value) (l m:List (DataW H)) (k:List MemPlace),
  (∀(x:Nat) t j,c.params[x]?=some t->b[x]?=some j->Value.okWide C.prog g .any y t j)->
  DataW.Whole enc C.prog c.params.toList f.vars e g b.toList l m k->X g b->g.ShapedOpen C.prog->
  Calls C.prog i b g fun s o=>∃j,s=.returned j/\f.post enc C.prog c e u v q g b j o):
 ReturnsInHanded p C n i .any (fun w b=>(f.pre enc C.prog c r e w b/\X w b)/\sizedMet enc C.prog c (OpenSpec.ofChange f) e w b) (f.post enc C.prog c e u v q):=by
 refine returnsInHanded_of_calls own R Q S ?_;intro w d a _ M _ J L _;obtain ⟨_,_,_,A,I,_,_,_,_,N⟩:=J;obtain rfl:A=c:=Option.some.inj (I.symm.trans E);obtain ⟨⟨⟨l,m,k,O,_⟩,P⟩,_⟩:=L;refine (z (w.forCall d a) w.heap.size a.args l m k N (DataW.Whole.of_heap (w':=w.forCall d a) (by rfl) O) (B _ _ _ (by rfl) P) M).mono fun s o ⟨j,D,K⟩=>?_;subst D;exact ChangeSpec.post_blind K
end
def TreeE (w:World) (F:Nat->Prop) (gt:Nat) (bs:List Bool):Prop:=
 F gt/\∃(a:Nat) (d:Int),
   (bs= []/\F a/\Bk w gt 261 #[a,.slice none 0 0,.int .i64 (-1),.int .i64 d]/\Bk w a 150 #[.slice none 0 0,.slice none 0 0,.int .i64 268435456])∨
   (bs= []/\∃b c f,F b/\Bk w gt 261 #[a,.slice (some ⟨b,0,none⟩) 1 c,.int .i64 (-1),.int .i64 d]/\w.ownsRow 0 271 8 (.slice (some ⟨b,0,none⟩) 1 c) 1 f/\ArenaE w F a [false] [0])∨
   (bs≠ []/\bs.length<=128/\∃b c e,F b/\F e/\LeafV w 0 gt a b c e 0 d bs/\ArenaE w F a [true] [])
section
variable {w w' : World} {F G : Nat -> Prop} {gt : Nat} {bs : List Bool}
def TreeE.at (l:TreeE w F gt bs):TreeAt w gt bs:=by
 obtain ⟨m,c,e,⟨a,d,b,i⟩|⟨a,g,f,o,d,b,i,j⟩|⟨a,d,g,f,k,b,i,j,n⟩⟩:=l;exact ⟨c,e,.inl ⟨a,_,b⟩⟩;exact ⟨c,e,.inl ⟨a,_,b⟩⟩;exact ⟨c,e,.inr ⟨a,d,g,f,k,j⟩⟩
def TreeE.le (g:TreeE w F gt bs):bs.length<=128:=by
 obtain ⟨l,j,o,⟨a,b,c,d⟩|⟨a,f,e,n,b,c,d,i⟩|⟨a,b,f,e,k,c,d,i,m⟩⟩:=g
 · rw [a];simp
 · rw [a];simp
 exact b
def TreeE.vis (o:TreeE w F gt bs) (a:Vis w w'):TreeE w' F gt bs:=by
 obtain ⟨k,i,s,⟨b,c,d,e⟩|⟨b,j,g,r,c,d,e,m⟩|⟨b,c,j,g,n,d,e,m,q⟩⟩:=o;obtain ⟨f,l⟩:=a.tree d;exact ⟨k,i,f,.inl ⟨b,c,l,a.bk e dC dC⟩⟩;obtain ⟨f,l⟩:=a.tree d;exact ⟨k,i,f,.inr (.inl ⟨b,j,g,r,c,l,a.own e dC dC,m.vis a⟩)⟩;obtain ⟨f,p⟩:=m.vis a;exact ⟨k,i,f,.inr (.inr ⟨b,c,j,g,n,d,e,p,q.vis a⟩)⟩
def TreeE.mono (o:TreeE w F gt bs) (a:∀g,g < w.heap.size->F g->G g):TreeE w G gt bs:=by
 obtain ⟨l,j,m,⟨e,f,b,c⟩|⟨e,k,i,q,f,b,c,d⟩|⟨e,f,k,i,n,b,c,d,p⟩⟩:=o;exact ⟨a _ b.lt l,j,m,.inl ⟨e,a _ c.lt f,b,c⟩⟩;exact ⟨a _ b.lt l,j,m,.inr (.inl ⟨e,k,i,q,a _ (c.lt _ rfl).2 f,b,c,d.mono a⟩)⟩;exact ⟨a _ d.tree.lt l,j,m,.inr (.inr ⟨e,f,k,i,n,a _ d.row.lt.2 b,a _ d.blk.lt c,d,p.mono a⟩)⟩
def TreeE.keep (u:TreeE w F gt bs) (c:Keep G w w') (b:∀a l e,l∈ [261,150,271,292,4,3]->Bk w a l e->F a->¬G a):TreeE w' F gt bs:=by
 obtain ⟨k,q,s,⟨m,f,d,g⟩|⟨m,r,p,x,f,d,g,i⟩|⟨m,f,r,p,t,d,g,i,v⟩⟩:=u;exact ⟨k,q,s,.inl ⟨m,f,c.bk d (b _ _ _ dC d k),c.bk g (b _ _ _ dC g f)⟩⟩;exact ⟨k,q,s,.inr (.inl ⟨m,r,p,x,f,c.bk d (b _ _ _ dC d k),aA g (fun a e j n=>c.bk n (b _ _ _ dC n (by injection j with j;rw [<-j];exact f))),i.keep c fun a l e o=>b a l e (by simp at o;rcases o with rfl | rfl | rfl <;> decide)⟩)⟩;exact ⟨k,q,s,.inr (.inr ⟨m,f,r,p,t,d,g,⟨c.bk i.tree (b _ _ _ dC i.tree k),aA i.row (fun a e j n=>c.bk n (b _ _ _ dC n (by injection j with j;rw [<-j];exact d))),c.bk i.blk (b _ _ _ dC i.blk g)⟩,v.keep c fun a l e o=>b a l e (by simp at o;rcases o with rfl | rfl | rfl <;> decide)⟩)⟩
def TreeE.below (b:TreeE w F gt bs) (c:Below w.heap.size w w'):TreeE w' F gt bs:=b.keep (G:=fun _=>False) (Keep.of_below c) fun _ _ _ _ _ _ a=>a
end
def TreeB.own {w:World} {f gt:Nat} {bs:List Bool} (r:TreeB w f gt bs):TreeE w (fun b=>f<=b) gt bs:=by
 obtain ⟨g,l,j,k,⟨c,d,a⟩|⟨c,d,q,o,p,t,a⟩⟩:=r;exact ⟨j,g,l,.inl ⟨c,k,d,a⟩⟩
 · obtain ⟨m,n,s,i⟩:=a.arena;refine ⟨j,g,l,.inr (.inr ⟨c,d,q,o,p,a.row.lt.1,t,a.toV,k,m,n,none,0,s,bV i.own (zAp _),World.ownsRow_nil _ _ _ _,fun b e=>(i.own.lt b e).1,fun b e=>by cases e⟩)⟩
def LeafV.set_visits {w:World} {gt c e b d:Nat} {g j:Int} {bs:List Bool} (a:LeafV w 0 gt c e b d g j bs) (i:Int):LeafV (w.setCell ⟨gt,3,none⟩ (.int .i64 i)) 0 gt c e b d g i bs:=
 ⟨a.tree.set 3 _,aA a.row fun k l _ f=>f.far (p:=⟨gt,3,none⟩) (Bk.ne f a.tree dC) _,a.blk.far (p:=⟨gt,3,none⟩) (Bk.ne a.blk a.tree dC) _⟩
def LeafV.set_root {w:World} {gt c e b d:Nat} {j i:Int} {bs:List Bool} (a:LeafV w 0 gt c e b d j i bs) (g:Int):LeafV (w.setCell ⟨gt,2,none⟩ (.int .i64 g)) 0 gt c e b d g i bs:=
 ⟨a.tree.set 2 _,aA a.row fun k l _ f=>f.far (p:=⟨gt,2,none⟩) (Bk.ne f a.tree dC) _,a.blk.far (p:=⟨gt,2,none⟩) (Bk.ne a.blk a.tree dC) _⟩
def LeafV.below {w w':World} {B gt d f c e:Nat} {g i:Int} {bs:List Bool} (a:LeafV w B gt d f c e g i bs) (b:Below w.heap.size w w'):LeafV w' B gt d f c e g i bs:=
 ⟨a.tree.below b a.tree.lt,aQ a.row b,a.blk.below b a.blk.lt⟩
def aBP (gt n d m b f:Nat) (i:Int) (a:Bool) (bs:List Bool) (w:World) (c:LeafV w 0 gt n d m b 0 i bs) (I:bs.length<=127) (t:f<=bs.length):
 Calls prog 279 #[gt,.int .i64 0,(f:Int),.bool a] w fun e w'=>e=.returned (.int .i64 0)/\(∃a7,LeafV w' 0 gt n d m b 0 a7 (aM bs f a))/\Keep (fun a=>a=gt∨a=d∨a=b) w w':=by
 obtain ⟨ac,ad,ae,af,ah,ai,aj,a2,a3,ak,al,am⟩:=c.cells;have ar:=c.row.lt.2;have au:=c.tree.lt;have aq:=c.blk.lt;have a6:gt≠d:=c.row.bk_ne c.tree dC;have a4:b≠d:=c.row.bk_ne c.blk dC;have a5:gt≠b:=Bk.ne c.tree c.blk dC;have an:=c.tree.frozen 3;have J:(aM bs f a).length<=128:=by rw [fG _ _ t];omega
 obtain ⟨l,v⟩:=eqx bs.length;obtain ⟨q,K⟩:=eqx (bs.count true);have r:=(c.set_visits (wrap64 (i+1))).below (bR.alloc nL (.cells #[.int .i64 (-1),.int .i64 (-1),.int .i64 0,(l:Int),(q:Int),.int .i64 0,.int .i64 0,b] 271));have u:Keep (fun a=>a=gt∨a=d∨a=b) w ((w.setCell ⟨gt,3,none⟩ (.int .i64 (wrap64 (i+1)))).alloc (.cells #[.int .i64 (-1),.int .i64 (-1),.int .i64 0,(l:Int),(q:Int),.int .i64 0,.int .i64 0,b] 271)):=
  (Keep.setCell (F:=fun a=>a=gt∨a=d∨a=b) (Keep.refl _ _) (p:=⟨gt,3,none⟩) (.inl (.inl rfl)) _).alloc _
 have g:=Bk.new (w.setCell ⟨gt,3,none⟩ (.int .i64 (wrap64 (i+1)))) 271 #[.int .i64 (-1),.int .i64 (-1),.int .i64 0,(l:Int),(q:Int),.int .i64 0,.int .i64 0,b];rw [v] at a2;rw [K] at a3;obtain ⟨z,s⟩:=eqx ((w.setCell ⟨gt,3,none⟩ (.int .i64 (wrap64 (i+1)))).alloc (.cells #[.int .i64 (-1),.int .i64 (-1),.int .i64 0,(l:Int),(q:Int),.int .i64 0,.int .i64 0,b] 271));rw [s] at r u g;have N:(w.setCell ⟨gt,3,none⟩ (.int .i64 (wrap64 (i+1)))).heap.size=w.heap.size:=by simp [World.setCell]
 rw [N] at g;have a9:z.cell? ⟨w.heap.size,7,none⟩=some (.pointer (some b)):=(g.cell 7).trans rfl;have ap:=g.lt;have ao:((l:Int)==128)=false:=by rw [zCb];omega
 obtain ⟨j,V,ab,T,a0,Y,U,Z⟩:=hqq8 r u g s v I t J;clear c r u g s v K N I t J;go_enter func279,ntmps279;go_wp2_with fail;rw [T.out];refine (rC b bs z j.out.blk).mono ?_;rintro e av ⟨rfl,rfl⟩;rw [a0.out];go_wp2_with fail;refine (tE b bs f a _ j.out.blk Y.out U.out).mono ?_;rintro e Q ⟨rfl,B,k⟩;have O:=k.bk j.out.tree a5;have L:=aA j.out.row (w':=Q) fun R ag _ A=>k.bk A (fun e=>Bk.ne A j.out.blk dC e);have D:=V.out.trans (k.mono (G:=fun a=>a=gt∨a=d∨a=b) fun R _ e=>.inr (.inr e));obtain ⟨x,aa,y,a1,W⟩:=hqq5 B k O L D;clear B k O L D a9;go_wp2_with fail;refine (qB gt n d m b 0 0 _ (aM bs f a) Q y.out a1.out x.out Z.out).mono ?_;rintro e a8 ⟨rfl,o,M⟩;have P:=o.bk y.out a6;have C:=o.bk x.out a4;have E:=W.out.trans (o.mono (G:=fun a=>a=gt∨a=d∨a=b) fun R _ e=>.inr (.inl e));obtain ⟨S,X⟩:=hqq2 (show LeafV a8 0 gt n d m b 0 _ (aM bs f a) from ⟨P,M,C⟩) E;clear P C E o M;go_wp2_with fail;go_ret;exact ⟨rfl,⟨_,S.out⟩,X.out⟩
def aI9 {a:List Value} (k:a.length=8):∃b c d e f g i j,a= [b,c,d,e,f,g,i,j]:=by
 match a,k with
 | [b,c,d,e,f,g,i,j],_=>exact ⟨b,c,d,e,f,g,i,j,rfl⟩
def eT {w:World} {f e k d g:Nat} {c:TypeId} {l:List Value} (i:w.ownsRow f c k (.slice (some d) e g) e l):∃b,Bk w d c b:=by
 rcases i.2 with ⟨a,_⟩|⟨n,m,b,a,_,j,_⟩
 · cases a
 injection a with a _ _;injection a with a;injection a with a _;subst a;exact ⟨b,j⟩
def ArenaE.own {w:World} {F:Nat->Prop} {n:Nat} {r:List Bool} {l:List Nat} (C:ArenaE w F n r l):∃f:Nat->Prop,(∀b,f b->F b)/\(∀b c d,f b->Bk w b c d->c=150∨c=4∨c=3)/\(∀b,f b->b < w.heap.size)/\ArenaE w f n r l:=by
 obtain ⟨D,t,v,s,u,o,p,q,E,I⟩:=C;have x:∀ {k:TypeId} {g j b:Nat} {i:Option Addr} {y:List Value} {c:TypeId} {d:Array Value},w.ownsRow 0 k 1 (.slice i g j) g y->(Value.slice i g j).ownBlock=some b->Bk w b c d->c=k:=fun {k g j b i y c d} J a e=>by
  rcases J.2 with ⟨m,_⟩|⟨A,K,L,m,_,B,_⟩
  · rw [m] at a;cases a
  rw [m] at a;injection a with a;have z:A=b:=a;subst z;exact (aK e B).1
 refine ⟨fun b=>b=n∨(Value.slice t r.length v).ownBlock=some b∨(Value.slice s l.length u).ownBlock=some b,fun b a=>?_,fun b c d a e=>?_,fun b a=>?_,.inl rfl,t,v,s,u,o,p,q,fun b a=>.inr (.inl a),fun b a=>.inr (.inr a)⟩;rcases a with rfl | a | a;exact D;exact E b a;exact I b a;rcases a with rfl | a | a;exact .inl (aK e o).1;exact .inr (.inl (x p a e));exact .inr (.inr (x q a e));rcases a with rfl | a | a;exact o.lt;exact (p.lt b a).2;exact (q.lt b a).2
def aDh (F:Nat->Prop) (gt j a g f:Nat) (J:Int) (T:List Value) (bs:List Bool) (w:World) (A:Bk w gt 261 #[j,.slice (some a) 1 g,.int .i64 (-1),.int .i64 J]) (S:w.ownsRow 0 271 8 (.slice (some a) 1 g) 1 T) (C:ArenaE w F j [false] [0]) (D:Bk w f 292 (gK bs)) (aL:bs.length<=128) (a4:F a):
 Calls prog 283 #[gt,.agg #[.int .i64 (-1),.int .i64 (-1),.int .i64 0,.int .i64 0,.int .i64 0,.int .i64 0,.int .i64 0,f]] w fun d w'=>d=.returned (.int .i64 0)/\Keep F w w'/\LeafV w' 0 gt j a g f (-1) J bs/\ArenaE w' F j [true] []:=by
 obtain ⟨s,a3,a5,M,C⟩:=C.own;obtain ⟨bc,v⟩:=eT S;have br:=A.lt;have bp:=D.lt;have bq:=v.lt;have Q:gt≠a:=Bk.ne A v dC;have ac:f≠a:=Bk.ne D v dC;have aO:w.cell? gt=some (.pointer (some j)):=(A.cell 0).trans rfl;have al:∀b n q,Bk w b n q->n≠150->n≠4->n≠3->¬s b:=fun b n q l aC aD aE P=>by rcases a5 b n q P l with d | d | d;exact aC d;exact aD d;exact aE d
 have u:=C.keep (G:=fun _=>False) (Keep.of_below (bR.alloc nL (.cells #[.int .i64 (-1),.int .i64 (-1),.int .i64 0,.int .i64 0,.int .i64 0,.int .i64 0,.int .i64 0,f] 271))) (fun _ _ _ _ _ _ o=>o);obtain ⟨Z,U,V,ay,K,ba,b9⟩:=hqq7 A u D S al v M;have aI:¬s w.heap.size:=fun o=>by have:=M _ o;omega
 clear A C D S al u a5 v M;go_enter func283,ntmps283;go_wp2_with fail;refine (sY s j 0 [false] [] _ U.out (by simp) (by simp) (by simp)).mono ?_;rintro d w1 ⟨rfl,u,R⟩;have ak:Bk w1 w.heap.size 271 #[.int .i64 (-1),.int .i64 (-1),.int .i64 0,.int .i64 0,.int .i64 0,.int .i64 0,.int .i64 0,f]:=by have t:=Bk.new w 271 #[.int .i64 (-1),.int .i64 (-1),.int .i64 0,.int .i64 0,.int .i64 0,.int .i64 0,.int .i64 0,f];exact R.bk t aI
 have z:Keep s w w1:=(Keep.of_below ((Below.refl w.heap.size w).alloc nL _)).trans R;have E:=z.bk Z.out (K.out _ _ _ Z.out dC dC dC);have a9:=z.bk V.out (K.out _ _ _ V.out dC dC dC);have af:=aA (w':=w1) ay.out fun b q _ l=>z.bk l (K.out _ _ _ l dC dC dC);have aJ:w.heap.size≠a:=fun d=>by omega
 have aP:w1.cell? ⟨gt,1,none⟩=some (.slice (some a) 1 g):=(E.cell 1).trans rfl;have bt:=E.lt;obtain ⟨ap,az,ax,a0,au,X⟩:=hqq6 (show ArenaE w1 s j [true] [] from u) ak z E a9 af;clear u R ak z E a9 af aO U;go_wp2_with fail;refine wp_region_any kR ?_;refine bX [32,33,34,35,36,37,38] (fun b=>b=a) 7 [7] (fun r=>r.ownsRow 0 271 8 (.slice (some a) 1 g) 1 T) (fun _ r=>RowS 0 a g f 0 0 r) [is gt,is gt,is (.pointer (some ⟨gt,1,none⟩)),is (.slice (some a) 1 g),is (.int .i64 0),is (.agg #[.int .i64 (-1),.int .i64 (-1),.int .i64 0,.int .i64 0,.int .i64 0,.int .i64 0,.int .i64 0,f]),is a,dF] _ _ rfl kR kR (X.out) (fun w1 r t _ aG=>aQ t aG) (fun _ _ _ t aN=>RowS.grow t aN) tA1 ?_ ?_
 · refine aR ?_;refine pH3 0 (.pointer (some gt)) ?_;refine pV3 0 32 ?_;refine pV3 1 33 ?_;refine pL3 2 34 (fun c e=>have e:Keep (fun b=>b=a) w1 c:=kD e;(((e.bk a0.out Q).cell 1).trans rfl:c.cell? ⟨gt,1,none⟩=some (.slice (some a) 1 g))) ?_;refine pH3 5 (.int .i64 0) ?_;refine sC3 (fun a2 c e _ _ _ aM _ _ _ _ N=>?_) ?_
   · replace e:Keep (fun b=>b=a) w1 c:=kD e;have bd:a2 (.tmp 3)=.pointer (some w.heap.size):=aM 3 kR;have m:=e.bk az.out aJ;have b1:c.cell? w.heap.size=some (.int .i64 (-1)):=(m.cell 0).trans rfl;have b2:c.cell? ⟨w.heap.size,1,none⟩=some (.int .i64 (-1)):=(m.cell 1).trans rfl;have b3:c.cell? ⟨w.heap.size,2,none⟩=some (.int .i64 0):=(m.cell 2).trans rfl;have b4:c.cell? ⟨w.heap.size,3,none⟩=some (.int .i64 0):=(m.cell 3).trans rfl;have b5:c.cell? ⟨w.heap.size,4,none⟩=some (.int .i64 0):=(m.cell 4).trans rfl;have b6:c.cell? ⟨w.heap.size,5,none⟩=some (.int .i64 0):=(m.cell 5).trans rfl;have b7:c.cell? ⟨w.heap.size,6,none⟩=some (.int .i64 0):=(m.cell 6).trans rfl;have b8:c.cell? ⟨w.heap.size,7,none⟩=some (.pointer (some f)):=(m.cell 7).trans rfl;go_simp;exact kq N rfl
   refine pW3 3 35 4 36 ?_;refine sC3 (fun _ c _ aF _ _ _ I _ _ _ N=>?_) ?_
   · have i:=aF rfl;have bf:_=_:=I 6 38 kR rfl;have be:_=_:=I 5 37 kR rfl;obtain ⟨aS,aT,aU,aV,aW,aX,aY,aZ,rfl⟩:=aI9 (show T.length=8 from i.1);have b1:c.cell? a=some aS:=(World.ownsRow.cellAt i 0 oM).trans rfl;have b2:c.cell? ⟨a,1,none⟩=some aT:=(World.ownsRow.cellAt i 1 oM).trans rfl;have b3:c.cell? ⟨a,2,none⟩=some aU:=(World.ownsRow.cellAt i 2 oM).trans rfl;have b4:c.cell? ⟨a,3,none⟩=some aV:=(World.ownsRow.cellAt i 3 oM).trans rfl;have b5:c.cell? ⟨a,4,none⟩=some aW:=(World.ownsRow.cellAt i 4 oM).trans rfl;have b6:c.cell? ⟨a,5,none⟩=some aX:=(World.ownsRow.cellAt i 5 oM).trans rfl;have b7:c.cell? ⟨a,6,none⟩=some aY:=(World.ownsRow.cellAt i 6 oM).trans rfl;have b8:c.cell? ⟨a,7,none⟩=some aZ:=(World.ownsRow.cellAt i 7 oM).trans rfl;obtain ⟨bb,k⟩:=eT i;have bg:=k.frozen 0;have bh:=k.frozen 1;have bi:=k.frozen 2;have bj:=k.frozen 3;have bl:=k.frozen 4;have bm:=k.frozen 5;have bn:=k.frozen 6;have bo:=k.frozen 7;go_simp;refine N (.bool true) _ (bC ?_) ?_;exact Keep.setCell (F:=fun b=>b=a) (Keep.setCell (F:=fun b=>b=a) (Keep.setCell (F:=fun b=>b=a) (Keep.setCell (F:=fun b=>b=a) (Keep.setCell (F:=fun b=>b=a) (Keep.setCell (F:=fun b=>b=a) (Keep.setCell (F:=fun b=>b=a) (Keep.setCell (F:=fun b=>b=a) (Keep.refl _ _) (p:=a) (.inl rfl) _) (p:=⟨a,1,none⟩) (.inl rfl) _) (p:=⟨a,2,none⟩) (.inl rfl) _) (p:=⟨a,3,none⟩) (.inl rfl) _) (p:=⟨a,4,none⟩) (.inl rfl) _) (p:=⟨a,5,none⟩) (.inl rfl) _) (p:=⟨a,6,none⟩) (.inl rfl) _) (p:=⟨a,7,none⟩) (.inl rfl) _;exact (World.ownsRow.stored (World.ownsRow.stored (World.ownsRow.stored (World.ownsRow.stored (World.ownsRow.stored (World.ownsRow.stored (World.ownsRow.stored (World.ownsRow.stored i 0 _).1 1 _).1 2 _).1 3 _).1 4 _).1 5 _).1 6 _).1 7 _).1
   exact aH
 · intro a2 B e I a8;replace e:Keep (fun b=>b=a) w1 B:=kD e;obtain ⟨bu,am⟩:∃b0,(fun _ r=>RowS 0 a g f 0 0 r) b0 B:=a8 7 dC;simp only [zqq];clear I a8;have ag:RowS 0 a g f 0 0 B:=am;have ai:=e.bk a0.out Q;have aa:=e.bk au.out ac;have a6:=ap.out.keep e fun b n q x l P=>fun d=>by have L:b=a:=d;subst L;obtain ⟨aB,O⟩:=eT X.out;rw [(aK l O).1] at x;exact absurd x dC
   have ad:Keep F w B:=(ax.out.mono fun b _ o=>a3 b o).trans (e.mono fun b _ d=>by rw [d];exact a4);obtain ⟨Y,a1,W,aq,av⟩:=hqq5 ag ai aa a6 ad;clear am ag ai aa a6 ad e aP;go_wp2_with fail;refine (qB gt j a g f 0 (-1) J bs B a1.out Y.out W.out aL).mono ?_;rintro d an ⟨rfl,y,ah⟩;have aj:=y.bk a1.out Q;have ab:=y.bk W.out ac;have a7:=aq.out.keep y fun b n q x l P=>fun d=>by have L:b=a:=d;subst L;obtain ⟨aB,O⟩:=eT Y.out;rw [(aK l O).1] at x;exact absurd x dC
   have ae:Keep F w an:=av.out.trans (y.mono fun b _ d=>by rw [d];exact a4);have ao:=lhd (show LeafV an 0 gt j a g f (-1) J bs from ⟨aj,ah,ab⟩);have ar:=lhd (a7.mono (G:=F) fun b _ o=>a3 b o);have aw:=lhd ae;clear aj ab a7 ae y ah;go_wp2_with fail;go_ret;exact ⟨rfl,aw.out,ao.out,ar.out⟩
def aDo (F:Nat->Prop) (gt a b c d:Nat) (e:Int) (g:List Value) (bs:List Bool) (w:World) (q:Bk w gt 261 #[a,.slice (some b) 1 c,.int .i64 (-1),.int .i64 e]) (p:w.ownsRow 0 271 8 (.slice (some b) 1 c) 1 g) (l:ArenaE w F a [false] [0]) (m:Bk w d 292 (gK bs)) (o:bs.length<=128) (k:F b):
 Calls prog 272 #[gt,d] w fun f w'=>f=.returned (.int .i64 0)/\Keep F w w'/\LeafV w' 0 gt a b c d (-1) e bs/\ArenaE w' F a [true] []:=by
 go_enter func272,ntmps272;go_wp2_with fail;refine (aDh F gt a b c d e g bs w q p l m o k).mono ?_;rintro f w1 ⟨rfl,n,i,j⟩;go_wp2_with fail;go_ret;exact ⟨rfl,n,i,j⟩
def TreeE.set_visits {w:World} {F:Nat->Prop} {gt:Nat} {bs:List Bool} (a:TreeE w F gt bs) (b:Int):TreeE (w.setCell ⟨gt,3,none⟩ (.int .i64 b)) F gt bs:=by
 have g:=a;obtain ⟨l,j,n,⟨d,_,c,_⟩|⟨d,f,e,m,_,c,_,_⟩|⟨d,_,f,e,k,_,_,i,_⟩⟩:=g;exact a.vis (Vis.set_tree c b);exact a.vis (Vis.set_tree c b);exact a.vis (Vis.set_tree i.tree b)
def aAp (gt c ar:Nat) (B:Int) (g:Bool) (F:Nat->Prop) (w:World) (j:F gt) (M:F c) (r:Bk w gt 261 #[c,.slice none 0 0,.int .i64 (-1),.int .i64 B]) (O:Bk w c 150 #[.slice none 0 0,.slice none 0 0,.int .i64 268435456]):
 Calls prog 259 #[gt,.int .i64 0,.bool g] w fun b w'=>b=.returned (.int .i64 0)/\TreeE w' (Gw F w.heap.size) gt [g]/\Keep F w w':=by
 have a0:=fT gt [] w ⟨c,B,.inl ⟨rfl,_,r⟩⟩;have ah:=r.lt;obtain ⟨ab,D⟩:=hqq2 r O;clear r O;go_enter func259,ntmps259;go_wp2_with fail;refine a0.mono ?_;rintro b w1 ⟨rfl,m⟩;clear a0;have d:=ab.out.below m ah;have t:=D.out.below m D.out.lt;have aj:gt≠c:=Bk.ne d t dC;have an:=d.lt;have J:w1.cell? ⟨gt,2,none⟩=some (.int .i64 (-1)):=(d.cell 2).trans rfl;have K:w1.cell? ⟨gt,3,none⟩=some (.int .i64 B):=(d.cell 3).trans rfl;have L:=d.frozen 3;have y:=d.set 3 (.int .i64 0);have u:=t.far (p:=⟨gt,3,none⟩) (fun b=>aj b.symm) (.int .i64 0);have o:Keep F w (w1.setCell ⟨gt,3,none⟩ (.int .i64 0)):=Keep.setCell (F:=F) (Keep.of_below m) (p:=⟨gt,3,none⟩) (.inl j) _;obtain ⟨f,l⟩:=eqx (w1.setCell ⟨gt,3,none⟩ (.int .i64 0));have a1:w1.heap.size=f.heap.size:=by rw [<-l];simp [World.setCell]
 rw [l] at y u o;have aq:=o.size;have aa:=lhd a1;clear a1;obtain ⟨a4,I,E,a8⟩:=hqq4 l y u o;clear m d t l y u o;go_wp2_with fail;rw [a4.out];clear J K L;refine (lN (some ⟨w1.heap.size,0,none⟩) 1 1 _ [g] (f.alloc (.cells #[.bool g] 4)) (Rd.made' f 4 1 1 #[.bool g] w1.heap.size rfl aa.out) nL dC).mono ?_;rintro b C ⟨rfl,v,T⟩;rw [World.size_alloc] at v;have n:Below f.heap.size f C:=(bR.alloc nL _).trans (T.mono (by simp));have z:=I.out.below n I.out.lt;have P:=E.out.below n E.out.lt;have V:Keep F w C:=a8.out.trans (Keep.of_below n);obtain ⟨ac,a5,a7,s⟩:=hqq4 z P v V;have ao:=z.lt;clear T n z P v V;rw [World.size_alloc];go_wp2_with fail;refine (uZ gt c (f.heap.size+1) 0 [g] C ac.out a5.out a7.out (by simp)).mono ?_;rintro b e ⟨rfl,W,ag,ae,q⟩;have i:=q.toV;have al:=i.tree.frozen 2;have J:e.cell? ⟨gt,2,none⟩=some (.int .i64 (-1)):=(i.tree.cell 2).trans rfl;have ap:=i.tree.lt;have k:=i.set_root 0;have L:=k.tree.frozen 3;have K:(e.setCell ⟨gt,2,none⟩ (.int .i64 0)).cell? ⟨gt,3,none⟩=some (.int .i64 0):=(k.tree.cell 3).trans rfl;have N:=k.set_visits 1;obtain ⟨a2,ad,Q,x⟩:=q.arena;have am:=q.row.lt;have X:Keep F w e:=s.out.trans' W fun a _ b=>by rcases b with rfl | rfl;exact M;exact j
 have Y:Keep F w ((e.setCell ⟨gt,2,none⟩ (.int .i64 0)).setCell ⟨gt,3,none⟩ (.int .i64 1)):=Keep.setCell (F:=F) (Keep.setCell (F:=F) X (p:=⟨gt,2,none⟩) (.inl j) _) (p:=⟨gt,3,none⟩) (.inl j) _;have R:ArenaE e (Gw F w.heap.size) c [true] []:=⟨.inl M,a2,ad,none,0,Q,bV x.own (zAp _),World.ownsRow_nil _ _ _ _,fun a A=>.inr (by have:=(x.own.lt a A).1;have:=s.out.size;omega),fun a A=>by cases A⟩;have Z:Keep (fun a=>a=gt) e ((e.setCell ⟨gt,2,none⟩ (.int .i64 0)).setCell ⟨gt,3,none⟩ (.int .i64 1)):=Keep.setCell (F:=fun a=>a=gt) (Keep.setCell (F:=fun a=>a=gt) (Keep.refl _ _) (p:=⟨gt,2,none⟩) (.inl rfl) _) (p:=⟨gt,3,none⟩) (.inl rfl) _;have S:=R.keep Z fun a au ak U ai _=>fun b=>by have af:a=gt:=b;subst af;rw [(aK ai i.tree).1] at U;exact absurd U dC
 obtain ⟨a3,a9,a6⟩:=hqq3 N Y S;clear i k N q Q x X Y R Z S W;go_wp2_with fail;go_ret;exact ⟨rfl,⟨.inl j,c,1,.inr (.inr ⟨by simp,by simp,ag,ae,_,.inr (by have:=s.out.size;omega),.inr oM,a3.out,a6.out⟩)⟩,a9.out⟩
def aAq (gt j k q:Nat) (D:Int) (e:Bool) (a5:List Value) (F:Nat->Prop) (w:World) (r:F gt) (N:F k) (v:Bk w gt 261 #[j,.slice (some k) 1 q,.int .i64 (-1),.int .i64 D]) (a1:w.ownsRow 0 271 8 (.slice (some k) 1 q) 1 a5) (P:ArenaE w F j [false] [0]):
 Calls prog 259 #[gt,.int .i64 0,.bool e] w fun b w'=>b=.returned (.int .i64 0)/\TreeE w' (Gw F w.heap.size) gt [e]/\Keep F w w':=by
 have a0:=fT gt [] w ⟨j,D,.inl ⟨rfl,_,v⟩⟩;have am:=v.lt;obtain ⟨ak,a8,ag⟩:=hqq3 v P a1;clear v P a1;go_enter func259,ntmps259;go_wp2_with fail;refine a0.mono ?_;rintro b w1 ⟨rfl,l⟩;clear a0;have c:=ak.out.below l am;have Q:=a8.out.keep (G:=fun _=>False) (Keep.of_below l) (fun _ _ _ _ _ _ i=>i);have a2:=aQ ag.out l;have ap:=c.lt;have J:w1.cell? ⟨gt,2,none⟩=some (.int .i64 (-1)):=(c.cell 2).trans rfl;have K:w1.cell? ⟨gt,3,none⟩=some (.int .i64 D):=(c.cell 3).trans rfl;have M:=c.frozen 3;have B:=c.set 3 (.int .i64 0);have Z:Keep (fun a=>a=gt) w1 (w1.setCell ⟨gt,3,none⟩ (.int .i64 0)):=Keep.setCell (F:=fun a=>a=gt) (Keep.refl _ _) (p:=⟨gt,3,none⟩) (.inl rfl) _;have y:=Q.keep Z fun a an L n g _=>fun b=>by have x:a=gt:=b;subst x;rw [(aK g c).1] at n;exact absurd n dC
 have A:=aA (w':=w1.setCell ⟨gt,3,none⟩ (.int .i64 0)) a2 fun a L _ g=>g.far (p:=⟨gt,3,none⟩) (Bk.ne g c dC) _;have u:Keep F w (w1.setCell ⟨gt,3,none⟩ (.int .i64 0)):=Keep.setCell (F:=F) (Keep.of_below l) (p:=⟨gt,3,none⟩) (.inl r) _;obtain ⟨d,t⟩:=eqx (w1.setCell ⟨gt,3,none⟩ (.int .i64 0));have a4:w1.heap.size=d.heap.size:=by rw [<-t];simp [World.setCell]
 rw [t] at B y u A;have au:=u.size;have aj:=lhd a4;clear a4;obtain ⟨a7,I,a9,ah,ad⟩:=hqq5 t B y A u;clear l c Q a2 t B y u A Z;go_wp2_with fail;rw [a7.out];clear J K M;refine (lN (some ⟨w1.heap.size,0,none⟩) 1 1 _ [e] (d.alloc (.cells #[.bool e] 4)) (Rd.made' d 4 1 1 #[.bool e] w1.heap.size rfl aj.out) nL dC).mono ?_;rintro b E ⟨rfl,z,U⟩;rw [World.size_alloc] at z;have m:Below d.heap.size d E:=(bR.alloc nL _).trans (U.mono (by simp));have C:=I.out.below m I.out.lt;have R:=a9.out.keep (G:=fun _=>False) (Keep.of_below m) (fun _ _ _ _ _ _ i=>i);have a3:=aQ ah.out m;have V:Keep F w E:=ad.out.trans (Keep.of_below m);obtain ⟨al,aa,ac,ai,ae⟩:=hqq5 C R z a3 V;have aq:=C.lt;clear U m C R z V a3;rw [World.size_alloc];go_wp2_with fail;refine (aDo F gt j k q (d.heap.size+1) 0 a5 [e] E al.out ai.out aa.out ac.out (by simp) N).mono ?_;rintro b o ⟨rfl,W,f,S⟩;have ao:=f.tree.frozen 2;have J:o.cell? ⟨gt,2,none⟩=some (.int .i64 (-1)):=(f.tree.cell 2).trans rfl;have ar:=f.tree.lt;have s:=f.set_root 0;have M:=s.tree.frozen 3;have K:(o.setCell ⟨gt,2,none⟩ (.int .i64 0)).cell? ⟨gt,3,none⟩=some (.int .i64 0):=(s.tree.cell 3).trans rfl;have O:=s.set_visits 1;have X:Keep F w ((o.setCell ⟨gt,2,none⟩ (.int .i64 0)).setCell ⟨gt,3,none⟩ (.int .i64 1)):=Keep.setCell (F:=F) (Keep.setCell (F:=F) (ae.out.trans W) (p:=⟨gt,2,none⟩) (.inl r) _) (p:=⟨gt,3,none⟩) (.inl r) _;have Y:Keep (fun a=>a=gt) o ((o.setCell ⟨gt,2,none⟩ (.int .i64 0)).setCell ⟨gt,3,none⟩ (.int .i64 1)):=Keep.setCell (F:=fun a=>a=gt) (Keep.setCell (F:=fun a=>a=gt) (Keep.refl _ _) (p:=⟨gt,2,none⟩) (.inl rfl) _) (p:=⟨gt,3,none⟩) (.inl rfl) _;have T:=(S.keep Y fun a an L n g _=>fun b=>by
  have x:a=gt:=b;subst x;rw [(aK g f.tree).1] at n;exact absurd n dC).mono (G:=Gw F w.heap.size) fun a _ i=>.inl i
 obtain ⟨a6,af,ab⟩:=hqq3 O X T;clear f s O S X Y T W;go_wp2_with fail;go_ret;exact ⟨rfl,⟨.inl r,j,1,.inr (.inr ⟨by simp,by simp,k,q,_,.inl N,.inr oM,a6.out,ab.out⟩)⟩,af.out⟩
def aBO (gt i k q j f:Nat) (C:Int) (o:Bool) (bs:List Bool) (F:Nat->Prop) (w:World) (s:F gt) (L:F k) (K:F j) (r:LeafV w 0 gt i k q j 0 C bs) (N:ArenaE w F i [true] []) (T:bs.length<=127) (d:f<=bs.length) (a9:bs≠ []):
 Calls prog 259 #[gt,(f:Int),.bool o] w fun a w'=>a=.returned (.int .i64 0)/\TreeE w' F gt (aM bs f o)/\Keep F w w':=by
 have B:=fT gt bs w ⟨i,C,.inr ⟨a9,by omega,k,q,j,r⟩⟩;obtain ⟨aa,V⟩:=eqx bs.length;rw [V] at B;have ai:¬((f:Int) > (aa:Int)):=oM;have ah:decide ((f:Int) < 0)=false:=by simp
 have ae:=r.tree.lt;obtain ⟨H,Z,E,D⟩:=hqq4 r N T d;clear r N V T d;go_enter func259,ntmps259;go_wp2_with fail;refine B.mono ?_;rintro a w1 ⟨rfl,t⟩;clear B;have e:=H.out.below t;have O:=Z.out.keep (G:=fun _=>False) (Keep.of_below t) (fun _ _ _ _ _ _ a6=>a6);have af:=e.tree.lt;have I:w1.cell? ⟨gt,2,none⟩=some (.int .i64 0):=(e.tree.cell 2).trans rfl;have a5:w1.cell? ⟨gt,3,none⟩=some (.int .i64 C):=(e.tree.cell 3).trans rfl;have a7:=e.tree.frozen 3;have l:Keep (fun b=>b=gt) w1 (w1.setCell ⟨gt,3,none⟩ (.int .i64 0)):=Keep.setCell (F:=fun b=>b=gt) (Keep.refl _ _) (p:=⟨gt,3,none⟩) (.inl rfl) _;have y:=O.keep l fun b W J c d _=>fun a=>by have u:b=gt:=a;subst u;rw [(aK d e.tree).1] at c;exact absurd c dC
 have v:=e.set_visits 0;have z:Keep F w (w1.setCell ⟨gt,3,none⟩ (.int .i64 0)):=Keep.setCell (F:=F) (Keep.of_below t) (p:=⟨gt,3,none⟩) (.inl s) _;obtain ⟨a4,x⟩:=eqx (w1.setCell ⟨gt,3,none⟩ (.int .i64 0));rw [x] at v y z;obtain ⟨Y,n,a0,a2⟩:=hqq4 x v y z;clear t e O x v y z l;go_wp2_with fail;rw [Y.out];clear I a5 a7;refine (aBP gt i k q j f 0 o bs a4 n.out E.out D.out).mono ?_;rintro a m ⟨rfl,⟨ab,g⟩,A⟩;have ad:=g.tree.frozen 2;have I:m.cell? ⟨gt,2,none⟩=some (.int .i64 0):=(g.tree.cell 2).trans rfl;have ag:=g.tree.lt;have M:=g.set_root 0;have P:=a0.out.keep A fun b W J c d _=>fun a=>by rcases a with a | a | a;subst a;rw [(aK d n.out.tree).1] at c;exact absurd c dC;subst a;obtain ⟨ac,a8⟩:=eT n.out.row;rw [(aK d a8).1] at c;exact absurd c dC;subst a;rw [(aK d n.out.blk).1] at c;exact absurd c dC
 have l:Keep (fun b=>b=gt) m (m.setCell ⟨gt,2,none⟩ (.int .i64 0)):=Keep.setCell (F:=fun b=>b=gt) (Keep.refl _ _) (p:=⟨gt,2,none⟩) (.inl rfl) _;have Q:=P.keep l fun b W J c d _=>fun a=>by have u:b=gt:=a;subst u;rw [(aK d g.tree).1] at c;exact absurd c dC
 have R:Keep F w m:=a2.out.trans (A.mono fun b _ a=>by
  rcases a with rfl | rfl | rfl;exact s;exact L
  · exact K)
 have S:Keep F w (m.setCell ⟨gt,2,none⟩ (.int .i64 0)):=Keep.setCell (F:=F) R (p:=⟨gt,2,none⟩) (.inl s) _;obtain ⟨X,a1,a3⟩:=hqq3 M Q S;clear g M P Q A R S l;go_wp2_with fail;go_ret;have U:(aM bs f o).length=bs.length+1:=fG _ _ D.out;refine ⟨rfl,⟨s,i,ab,.inr (.inr ⟨fun a=>?_,?_,k,q,j,L,K,X.out,a1.out⟩)⟩,a3.out⟩
 · rw [a] at U;simp at U
 have:=E.out;omega
def vZ (F:Nat->Prop) (gt a:Nat) (b:Bool) (bs:List Bool) (w:World) (t:TreeE w F gt bs) (x:bs.length<=127) (l:a<=bs.length):
 Calls prog 259 #[gt,(a:Int),.bool b] w fun n w'=>n=.returned (.int .i64 0)/\TreeE w' (Gw F w.heap.size) gt (aM bs a b)/\Keep F w w':=by
 obtain ⟨j,g,m,⟨rfl,e,c,d⟩|⟨rfl,i,f,y,e,c,d,k⟩|⟨u,e,i,f,s,c,d,k,v⟩⟩:=t;obtain rfl:a=0:=(by simpa using l);exact aAp gt g 0 m b F w j e c d;obtain rfl:a=0:=(by simpa using l);exact aAq gt g i f m b y F w j e c d k;refine (aBO gt g i f s a m b bs F w j c d k v x l u).mono ?_;rintro n w' ⟨o,p,q⟩;exact ⟨o,p.mono fun z _ r=>.inl r,q⟩
def aFu (gt m d l b f:Nat) (i:Int) (bs:List Bool) (w:World) (c:LeafV w 0 gt m d l b 0 i bs) (E:bs.length<=128) (t:f < bs.length):
 Calls prog 277 #[gt,.int .i64 0,(f:Int)] w fun e w'=>e=.returned (.tuple #[.int .i64 0,.bool (bs.getD f false)])/\(∃a6,LeafV w' 0 gt m d l b 0 a6 (aD bs f))/\Keep (fun a=>a=gt∨a=d∨a=b) w w':=by
 obtain ⟨ac,ad,ae,af,ah,ai,aj,a1,a2,ak,al,am⟩:=c.cells;have aq:=c.row.lt.2;have ar:=c.tree.lt;have ap:=c.blk.lt;have a5:gt≠d:=c.row.bk_ne c.tree dC;have a3:b≠d:=c.row.bk_ne c.blk dC;have a4:gt≠b:=Bk.ne c.tree c.blk dC;have an:=c.tree.frozen 3;have I:(aD bs f).length<=128:=by have:=cQ bs t;omega
 obtain ⟨o,v⟩:=eqx bs.length;obtain ⟨q,J⟩:=eqx (bs.count true);have r:=(c.set_visits (wrap64 (i+1))).below (bR.alloc nL (.cells #[.int .i64 (-1),.int .i64 (-1),.int .i64 0,(o:Int),(q:Int),.int .i64 0,.int .i64 0,b] 271));have u:Keep (fun a=>a=gt∨a=d∨a=b) w ((w.setCell ⟨gt,3,none⟩ (.int .i64 (wrap64 (i+1)))).alloc (.cells #[.int .i64 (-1),.int .i64 (-1),.int .i64 0,(o:Int),(q:Int),.int .i64 0,.int .i64 0,b] 271)):=
  (Keep.setCell (F:=fun a=>a=gt∨a=d∨a=b) (Keep.refl _ _) (p:=⟨gt,3,none⟩) (.inl (.inl rfl)) _).alloc _
 have g:=Bk.new (w.setCell ⟨gt,3,none⟩ (.int .i64 (wrap64 (i+1)))) 271 #[.int .i64 (-1),.int .i64 (-1),.int .i64 0,(o:Int),(q:Int),.int .i64 0,.int .i64 0,b];rw [v] at a1;rw [J] at a2;obtain ⟨a0,s⟩:=eqx ((w.setCell ⟨gt,3,none⟩ (.int .i64 (wrap64 (i+1)))).alloc (.cells #[.int .i64 (-1),.int .i64 (-1),.int .i64 0,(o:Int),(q:Int),.int .i64 0,.int .i64 0,b] 271));rw [s] at r u g;have M:(w.setCell ⟨gt,3,none⟩ (.int .i64 (wrap64 (i+1)))).heap.size=w.heap.size:=by simp [World.setCell]
 rw [M] at g;have a8:a0.cell? ⟨w.heap.size,7,none⟩=some (.pointer (some b)):=(g.cell 7).trans rfl;have ao:=g.lt;obtain ⟨k,U,ab,S,aa,X,T,Y⟩:=hqq8 r u g s v E t I;clear c r u g s v J M E t I;go_enter func277,ntmps277;go_wp2_with fail;rw [S.out];refine (tF b bs f _ k.out.blk X.out T.out).mono ?_;rintro e P ⟨rfl,A,j⟩;have N:=j.bk k.out.tree a4;have K:=aA k.out.row (w':=P) fun Q ag _ z=>j.bk z (fun e=>Bk.ne z k.out.blk dC e);have C:=U.out.trans (j.mono (G:=fun a=>a=gt∨a=d∨a=b) fun Q _ e=>.inr (.inr e));obtain ⟨x,a9,y,Z,V⟩:=hqq5 A j N K C;clear A j N K C a8;go_wp2_with fail;refine (qB gt m d l b 0 0 _ (aD bs f) P y.out Z.out x.out Y.out).mono ?_;rintro e a7 ⟨rfl,n,L⟩;have O:=n.bk y.out a5;have B:=n.bk x.out a3;have D:=V.out.trans (n.mono (G:=fun a=>a=gt∨a=d∨a=b) fun Q _ e=>.inr (.inl e));obtain ⟨R,W⟩:=hqq2 (show LeafV a7 0 gt m d l b 0 _ (aD bs f) from ⟨O,L,B⟩) D;clear O B D n L;go_wp2_with fail;go_ret2;exact ⟨rfl,⟨_,R.out⟩,W.out⟩
def wH (F:Nat->Prop) (gt k:Nat) (bs:List Bool) (w:World) (E:TreeE w F gt bs) (b:k < bs.length):
 Calls prog 255 #[gt,(k:Int)] w fun a w'=>a=.returned (.tuple #[.bool (bs.getD k false),.int .i64 0])/\TreeE w' (Gw F w.heap.size) gt (aD bs k)/\Keep F w w':=by
 have af:=sW gt bs k w E.at b;have r:=E.1;obtain ⟨be,aW⟩:=eqx bs.length;obtain ⟨a1,ac⟩:=eqx ((aD bs k).length);obtain ⟨b0,R⟩:=eqx (bs.getD k false);rw [R];have au:=lhd R;clear R;obtain ⟨H,B,A⟩:=hqq3 E b ac;clear E b ac aW;go_enter func255,ntmps255;go_wp2_with fail;refine af.mono ?_;rintro a w1 ⟨rfl,U⟩;clear af;have I:=H.out.vis U.1;have ag:Keep F w w1:=U.2.mono fun c _ a=>by rw [a];exact r
 obtain ⟨_,D,aZ,⟨q,_,_,_⟩|⟨q,o,C,bd,_,_,_,_⟩|⟨aX,aj,o,C,a3,O,a5,J,v⟩⟩:=I
 · have:=B.out;rw [q] at this;simp at this
 · have:=B.out;rw [q] at this;simp at this
 have a0:w1.cell? ⟨gt,2,none⟩=some (.int .i64 0):=(J.tree.cell 2).trans rfl;have b7:=J.tree.lt;obtain ⟨y,ap,aw,Z⟩:=hqq4 J v ag aj;clear J v ag U aj aX;go_wp2_with fail;refine (aFu gt D o C a3 k aZ bs w1 y.out Z.out B.out).mono ?_;rintro a m ⟨rfl,⟨bf,j⟩,S⟩;rw [au.out];have a8:=ap.out.keep S fun c g i d b _=>fun a=>by rcases a with a | a | a;subst a;rw [(aK b y.out.tree).1] at d;exact absurd d dC;subst a;obtain ⟨b2,aS⟩:=eT y.out.row;rw [(aK b aS).1] at d;exact absurd d dC;subst a;rw [(aK b y.out.blk).1] at d;exact absurd d dC
 have ah:Keep F w m:=aw.out.trans (S.mono fun c _ a=>by
  rcases a with rfl | rfl | rfl;exact r;exact O
  · exact a5)
 have s:=j.set_root 0;have x:Keep (fun c=>c=gt) m (m.setCell ⟨gt,2,none⟩ (.int .i64 0)):=Keep.setCell (F:=fun c=>c=gt) (Keep.refl _ _) (p:=⟨gt,2,none⟩) (.inl rfl) _;have P:=a8.keep x fun c g i d b _=>fun a=>by have u:c=gt:=a;subst u;rw [(aK b j.tree).1] at d;exact absurd d dC
 have L:Keep F w (m.setCell ⟨gt,2,none⟩ (.int .i64 0)):=Keep.setCell (F:=F) ah (p:=⟨gt,2,none⟩) (.inl r) _;have aP:=j.tree.frozen 2;obtain ⟨aC,aE,a0,aG,aH,aI,aJ,a2,aL,aM,aN,aO⟩:=j.cells;rw [A.out] at a2;have b8:=j.tree.lt;have b6:=j.row.lt.2;have bb:gt≠o:=j.row.bk_ne j.tree dC;obtain ⟨l,K⟩:=eqx (m.setCell ⟨gt,2,none⟩ (.int .i64 0));rw [K] at s P L;have am:m.heap.size=l.heap.size:=by rw [<-K];simp [World.setCell]
 have b9:=s.tree.lt;have aQ:=s.tree.frozen 2;have aF:l.cell? ⟨gt,2,none⟩=some (.int .i64 0):=(s.tree.cell 2).trans rfl;obtain ⟨W,az,z,X,Y⟩:=hqq5 K am s P L;have bc:=L.size;clear j a8 ah S s P L x K am aH aI aJ aL aM aN aO aG;rcases zBa a1 with ad | ad
 · subst ad;have aY:aD bs k= []:=zBk A.out;obtain ⟨V,a4,a6,b4,v⟩:=X.out.own;have ae:Bk (l.alloc (.cells #[.int .i64 0] 3)) m.heap.size 3 #[.int .i64 0]:=(by rw [az.out];exact Bk.new l _ _);have a9:=v.keep (G:=fun _=>False) (Keep.of_below (bR.alloc nL (.cells #[.int .i64 0] 3))) (fun _ _ _ _ _ _ e=>e);have a7:=z.out.below (bR.alloc nL (.cells #[.int .i64 0] 3));obtain ⟨av,aq,N,ao⟩:=hqq4 ae a9 a7 a6;clear ae a9 v a7 a6;go_wp2_with fail;rw [W.out];refine (aCB V D m.heap.size 0 [true] [] _ aq.out (by simp) av.out (by simp)).mono ?_;rintro a t ⟨rfl,aa,M⟩;have T:∀f g i,Bk (l.alloc (.cells #[.int .i64 0] 3)) f g i->g≠150->g≠4->g≠3->f < l.heap.size->¬V f:=fun f g i b I q aR aV aT=>by have aU:Bk l f g i:=(by have:=(Below.heap_alloc l (.cells #[.int .i64 0] 3) f aV);exact this.symm.trans b);rcases ao.out f g i aT aU with a | a | a;exact I a;exact q a;exact aR a
   have n:=M.bk N.out.tree (T _ _ _ N.out.tree dC dC dC z.out.tree.lt)
   have ak:=aA (w':=t) N.out.row fun f i Q b=>M.bk b (T _ _ _ b dC dC dC (by
    injection Q with Q;have u:o=f:=Q;rw [<-u];exact z.out.row.lt.2))
   have b1:t.cell? ⟨gt,2,none⟩=some (.int .i64 0):=(n.cell 2).trans rfl;have b3:=n.frozen 2;have ba:=n.lt;have an:=n.set 2 (.int .i64 (-1));have al:=aA (w':=t.setCell ⟨gt,2,none⟩ (.int .i64 (-1))) ak fun f i _ b=>b.far (p:=⟨gt,2,none⟩) (Bk.ne b n dC) _;have x:Keep (fun c=>c=gt) t (t.setCell ⟨gt,2,none⟩ (.int .i64 (-1))):=Keep.setCell (F:=fun c=>c=gt) (Keep.refl _ _) (p:=⟨gt,2,none⟩) (.inl rfl) _;have ab:=(aa.keep x fun c g i d b _=>fun a=>by
    have u:c=gt:=a;subst u;rw [(aK b n).1] at d
    exact absurd d dC).mono (G:=Gw F w.heap.size) fun c _ e=>by
        rcases e with e | e;exact .inl (a4 c e);simp at e;exact .inr oM
   have ai:Keep F w (t.setCell ⟨gt,2,none⟩ (.int .i64 (-1))):=Keep.setCell (F:=F) ((Y.out.alloc _).trans (M.mono fun c _ e=>a4 c e)) (p:=⟨gt,2,none⟩) (.inl r) _;obtain ⟨aB,ay,ar,ax⟩:=hqq4 an al ab ai;clear n ak an al x aa ab M ai T aC aE a0 a2 aF aQ aP;go_wp2_with fail;go_ret2;rw [aY];exact ⟨rfl,⟨.inl r,D,_,.inr (.inl ⟨rfl,o,C,_,.inl O,aB.out,ay.out,ar.out⟩)⟩,ax.out⟩
 · have b5:((a1:Int)==0)=false:=(by rw [zCb];omega);go_wp2_with fail;rw [W.out];go_ret2;refine ⟨rfl,⟨.inl r,D,_,.inr (.inr ⟨fun a=>?_,?_,o,C,a3,.inl O,.inl a5,z.out,X.out.mono fun c _ e=>.inl e⟩)⟩,Y.out⟩;have:=A.out;rw [a] at this;simp at this;omega;have:=A.out;have I:=cQ bs B.out;have q:=Z.out;omega
def Gw.gw {F:Nat->Prop} {c d:Nat} (e:c<=d):∀b,Gw (Gw F c) d b->Gw F c b:=fun b a=>by
 rcases a with a | a;exact a;exact .inr oM
def aCA (gt gk d:Nat) (r s:Int) (F:Nat->Prop) (bs:List Bool) (b:Nat) (c:Bool) (w:World) (l:TreeE w F gt bs) (f:Bk w gk 3 #[(b:Int)]) (e:Bk w d 4 #[.bool c]) (q:bs.length<=127) (p:b<=bs.length):
 Calls prog 258 #[.agg #[gt,.int .i64 r,.int .i64 s],gk,d] w fun g w'=>g=.returned (.tuple #[])/\TreeE w' (Gw F w.heap.size) gt (aM bs b c)/\Keep F w w':=by
 have t:w.cell? gk=some (.int .i64 (b:Int)):=(f.cell 0).trans rfl;have u:w.cell? d=some (.bool c):=(e.cell 0).trans rfl;have v:=f.lt;have x:=e.lt;have o:=lhd l;clear l f e;go_enter func258,ntmps258;go_wp2_with fail;refine (vZ F gt b c bs _ (o.out.below (bR.alloc nL _)) q p).mono ?_;rintro g w1 ⟨rfl,i,j⟩;have k:Keep F w w1:=(Keep.of_below (bR.alloc nL _)).trans j;have m:=lhd (i.mono (G:=Gw F w.heap.size) fun y _ a=>by
  rcases a with a | a;exact .inl a
  · simp at a;exact .inr oM)
 have n:=lhd k;clear i j k;go_wp2_with fail;go_end0;exact ⟨rfl,m.out,n.out⟩
def aCE (gt gk b:Nat) (y z:Int) (e:Value) (F:Nat->Prop) (bs:List Bool) (a:Nat) (w:World) (o:TreeE w F gt bs) (i:Bk w gk 3 #[(a:Int)]) (j:Bk w b 4 #[e]) (x:¬F b) (n:a < bs.length):
 Calls prog 254 #[.agg #[gt,.int .i64 y,.int .i64 z],gk,b] w fun k w'=>k=.returned (.tuple #[])/\∃w1,TreeE w1 (Gw F w.heap.size) gt (aD bs a)/\Keep F w w1/\Bk w1 b 4 #[e]/\w'=w1.setCell b (.bool (bs.getD a false)):=by
 have B:w.cell? gk=some (.int .i64 (a:Int)):=(i.cell 0).trans rfl;have I:=i.lt;have J:=j.lt;obtain ⟨A,g⟩:=eqx (bs.getD a false);rw [g];obtain ⟨r,v,t,s⟩:=hqq4 g o j n;clear o i j g n;go_enter func254,ntmps254;go_wp2_with fail;refine (wH F gt a bs _ (v.out.below (bR.alloc nL _)) s.out).mono ?_;rintro k w1 ⟨rfl,l,m⟩;rw [r.out];have f:Keep F w w1:=(Keep.of_below (bR.alloc nL _)).trans m;have d:=f.bk t.out x;have C:w1.cell? b=some e:=(d.cell 0).trans rfl;have D:=d.frozen 0;have E:=d.lt;have p:=lhd (l.mono (G:=Gw F w.heap.size) fun e _ c=>by
  rcases c with c | c;exact .inl c
  · simp at c;exact .inr oM)
 obtain ⟨q,u⟩:=hqq2 f d;clear l m f d;go_wp2_with fail;go_end0;exact ⟨rfl,w1,p.out,q.out,u.out,rfl⟩
def oV {w:World} {gt a:Nat} {bs:List Bool} {c:Array Value} (d:TreeAt w gt bs) (b:Bk w a 201 c):gt≠a:=by
 rintro rfl;obtain ⟨g,i,⟨_,_,e⟩|⟨_,_,_,_,_,f⟩⟩:=d;exact absurd (aK e b).1 dC;exact absurd (aK f.tree b).1 dC
def aFU (a gt gk E:Nat) (n:Nat->Value) (o e B v:Int) (F:Nat->Prop) (bs:List Bool) (l:Nat) (b:Bool) (w:World) (L:Bk w a 201 (wcells n o e)) (a0:TreeE w F gt bs) (ai:¬F a) (T:∀d,F d->d < w.heap.size) (x:Bk w gk 3 #[(l:Int)]) (W:Bk w E 4 #[.bool b]) (ao:bs.length<=127) (an:l<=bs.length):
 Calls prog 199 #[a,.agg #[gt,.int .i64 B,.int .i64 v],.func (.func 258) #[] #[gk,E]] w fun j w'=>j=.returned (.tuple #[])/\
  TreeE w' (Gw F w.heap.size) gt (aM bs l b)/\Keep (fun d=>F d∨d=a) w w'/\∃aq,Bk w' a 201 (wcells n o aq):=by
 obtain ⟨a5,J⟩:=eqx (Obj.cells #[gt,.int .i64 B,.int .i64 v] 206);have U:=(Below.refl w.heap.size w).alloc nL a5;have K:=Bk.new w 206 #[gt,.int .i64 B,.int .i64 v];rw [J] at K;have aC:=L.lt;obtain ⟨P,N,M,Q,D,O,aa,a7⟩:=hqq8 a0 x W L U K J T;clear a0 x W L U K J T;go_enter func199,ntmps199;go_wp2_with fail;rw [aa.out];refine (aCA gt gk E B v F bs l b _ (P.out.below D.out) (N.out.alloc _) (M.out.alloc _) ao an).mono ?_;rintro j r ⟨rfl,a1,y⟩;have A:=y.bk (Q.out.alloc a5) ai;have z:=y.bk O.out (fun f=>by have:=a7.out _ f;omega);have Z:Keep F w r:=(Keep.of_below D.out).trans y;have u:TreeE r (Gw F w.heap.size) gt (aM bs l b):=a1.mono fun d _ f=>by rcases f with f | f;exact .inl f;simp at f;exact .inr oM
 obtain ⟨m,a3⟩:=u.at.visits;have ap:=u.at.lt;have aB:=z.lt;have al:=Bk.ne A z dC;have am:=oV u.at A;obtain ⟨R,ab,a9,ad,ae⟩:=hqq5 A z Z u a3;clear A z Z u a3 a1 y D P N M Q O;go_wp2_with fail;refine wp_region_any kR ?_;refine bX [9,10,11,12,13,14,15,16,17,18] (fun b=>b=a) 10 [3,10] (fun q=>Bk q a 201 (wcells n o e)) (fun _ q=>Bk q a 201 (wcells n o (IntKind.i64.wrap (e+m)))) [is a,is a,is (.pointer (some ⟨a,10,none⟩)),is (.int .i64 e),is w.heap.size,is gt,is (.int .i64 m),is (.int .i64 (IntKind.i64.wrap (e+m))),is a,is (.pointer (some ⟨a,10,none⟩)),dF] _ _ rfl kR kR (R.out) (fun q aF k _ ak=>Bk.below k ak k.lt) (fun _ _ _ k l=>Bk.below k l k.lt) tA1 ?_ ?_
 · refine aR ?_;refine pH3 0 (.pointer (some a)) ?_;refine pV3 0 9 ?_;refine pV3 1 10 ?_;refine sC3 (fun _ g _ I _ _ _ i _ _ _ s=>?_) ?_
   · have t:=I rfl;have av:_=_:=i 2 11 kR rfl;have ag:g.cell? ⟨a,10,none⟩=some (.int .i64 e):=(t.cell 10).trans (aZ _ _ _).2.2.2.2.2.2.2.2.2.2;go_simp;exact kq s rfl
   refine pH3 4 (.pointer (some w.heap.size)) ?_;refine pL3 4 13 (fun g c=>have c:Keep (fun b=>b=a) r g:=kD c;(((c.bk ab.out (fun k=>al (show w.heap.size=a from k).symm)).cell 0).trans rfl:g.cell? w.heap.size=some (.pointer (some gt)))) ?_;refine sC3 (fun _ g c _ _ _ _ i _ _ _ s=>?_) ?_
   · replace c:Keep (fun b=>b=a) r g:=kD c;have aw:_=_:=i 5 14 kR rfl;go_simp;refine (eW gt m g ((c.cell ap am).trans ae.out)).mono ?_;rintro j aG ⟨rfl,aj⟩;exact s _ _ (aL aj) rfl
   refine pW3 3 12 6 15 ?_;refine pV3 0 9 ?_;refine pV3 8 17 ?_;refine sC3 (fun _ g _ I _ _ _ i _ _ _ s=>?_) ?_
   · have t:=I rfl;have ay:_=_:=i 9 18 kR rfl;have ax:_=_:=i 7 16 kR rfl;have ag:g.cell? ⟨a,10,none⟩=some (.int .i64 e):=(t.cell 10).trans (aZ _ _ _).2.2.2.2.2.2.2.2.2.2;have aA:=t.frozen 10;go_simp;refine s (.bool true) _ (bC (Keep.setCell (F:=fun b=>b=a) (Keep.refl _ _) (p:=⟨a,10,none⟩) (.inl rfl) _)) ?_;have S:=t.set 10 (.int .i64 (IntKind.i64.wrap (e+m)));rw [cF] at S;exact S
   exact aH
 · intro az C c i V;replace c:Keep (fun b=>b=a) r C:=kD c;obtain ⟨aE,a6⟩:∃ar,(fun _ q=>Bk q a 201 (wcells n o (IntKind.i64.wrap (e+m)))) ar C:=V 10 dC;simp only [zqq];clear i V;have a4:Bk C a 201 (wcells n o (IntKind.i64.wrap (e+m))):=a6;have a2:=ad.out.keep c fun d aD au X x _=>fun j=>by have ah:d=a:=j;subst ah;rw [(aK x R.out).1] at X;exact absurd X dC
   have Y:Keep (fun d=>F d∨d=a) w C:=(a9.out.mono fun d _ f=>.inl f).trans (c.mono fun d _ j=>.inr j);obtain ⟨af,ac,a8⟩:=hqq3 a4 a2 Y;clear a6 a4 a2 Y c;go_wp2_with fail;go_end0;exact ⟨rfl,ac.out,a8.out,_,af.out⟩
def aFW (a gt gk b:Nat) (s:Nat->Value) (v k I m:Int) (c:Value) (F:Nat->Prop) (bs:List Bool) (j:Nat) (w:World) (E:Bk w a 201 (wcells s v k)) (a9:TreeE w F gt bs) (aC:¬F a) (aB:¬F b) (a0:∀c,F c->c < w.heap.size) (y:Bk w gk 3 #[(j:Int)]) (D:Bk w b 4 #[c]) (aG:∀e,F e->e≠b) (a6:j < bs.length):
 Calls prog 199 #[a,.agg #[gt,.int .i64 I,.int .i64 m],.func (.func 254) #[] #[gk,b]] w fun i w'=>i=.returned (.tuple #[])/\
  TreeE w' (Gw F w.heap.size) gt (aD bs j)/\Keep (fun c=>F c∨c=a∨c=b) w w'/\Bk w' b 4 #[.bool (bs.getD j false)]/\∃aP,Bk w' a 201 (wcells s v aP):=by
 obtain ⟨t,N⟩:=eqx (bs.getD j false);rw [N];have ak:=lhd N;clear N;obtain ⟨ah,Q⟩:=eqx (Obj.cells #[gt,.int .i64 I,.int .i64 m] 206);have a2:=(Below.refl w.heap.size w).alloc nL ah;have R:=Bk.new w 206 #[gt,.int .i64 I,.int .i64 m];rw [Q] at R;have b0:=E.lt;have b1:=D.lt;have ag:=Bk.ne D E dC;obtain ⟨V,S,T,W,K,U,aq,aj,an⟩:=hqq9 a9 y D E a2 R Q a0 a6;clear a9 y D E a2 R Q a0 a6;go_enter func199,ntmps199;go_wp2_with fail;rw [aq.out];refine (aCE gt gk b I m c F bs j _ (V.out.below K.out) (S.out.alloc _) (T.out.alloc _) aB an.out).mono ?_;rintro i r ⟨rfl,w1,aa,C,a7,rfl⟩;rw [ak.out];have ae:=C.bk (W.out.alloc ah) aC;have B:=ae.far (p:=b) (fun g=>ag g.symm) (.bool t);have A:=(C.bk U.out (fun d=>by have:=aj.out _ d;omega)).far (p:=b) (fun g=>absurd (show w.heap.size=b from g) oM) (.bool t);have P:=a7.set 0 (.bool t);have O:Keep (fun e=>F e∨e=b) w (w1.setCell b (.bool t)):=Keep.setCell (F:=fun e=>F e∨e=b) (((Keep.of_below K.out).trans C).mono fun e _ d=>.inl d) (p:=b) (.inl (.inr rfl)) _;have ac:TreeE w1 (Gw F w.heap.size) gt (aD bs j):=aa.mono fun c _ d=>by rcases d with d | d;exact .inl d;simp at d;exact .inr oM
 have u:TreeE (w1.setCell b (.bool t)) (Gw F w.heap.size) gt (aD bs j):=ac.keep (G:=fun e=>e=b) (Keep.setCell (F:=fun e=>e=b) (Keep.refl _ _) (p:=b) (.inl rfl) _) fun e aO aA _ y d=>fun i=>by rcases d with d | d;exact aG e d i;have Y:e=b:=i;omega
 obtain ⟨L,a1⟩:=eqx (w1.setCell b (.bool t));rw [a1] at B A P O u⊢;obtain ⟨q,ad⟩:=u.at.visits;have aM:=u.at.lt;have aY:=A.lt;have aI:=Bk.ne B A dC;have aJ:=oV u.at B;obtain ⟨X,ar,ao,am,av,aw⟩:=hqq6 B A P O u ad;clear B A P O u ad aa C K V S T W U a1 ac ae a7;go_wp2_with fail;refine wp_region_any kR ?_;refine bX [9,10,11,12,13,14,15,16,17,18] (fun l=>l=a) 10 [3,10] (fun r=>Bk r a 201 (wcells s v k)) (fun _ r=>Bk r a 201 (wcells s v (IntKind.i64.wrap (k+q)))) [is a,is a,is (.pointer (some ⟨a,10,none⟩)),is (.int .i64 k),is w.heap.size,is gt,is (.int .i64 q),is (.int .i64 (IntKind.i64.wrap (k+q))),is a,is (.pointer (some ⟨a,10,none⟩)),dF] _ _ rfl kR kR (X.out) (fun r b3 g _ aF=>Bk.below g aF g.lt) (fun _ _ _ g j=>Bk.below g j g.lt) tA1 ?_ ?_
 · refine aR ?_;refine pH3 0 (.pointer (some a)) ?_;refine pV3 0 9 ?_;refine pV3 1 10 ?_;refine sC3 (fun _ n _ M _ _ _ o _ _ _ x=>?_) ?_
   · have z:=M rfl;have aS:_=_:=o 2 11 kR rfl;have az:n.cell? ⟨a,10,none⟩=some (.int .i64 k):=(z.cell 10).trans (aZ _ _ _).2.2.2.2.2.2.2.2.2.2;go_simp;exact kq x rfl
   refine pH3 4 (.pointer (some w.heap.size)) ?_;refine pL3 4 13 (fun n f=>have f:Keep (fun l=>l=a) L n:=kD f;(((f.bk ar.out (fun g=>aI (show w.heap.size=a from g).symm)).cell 0).trans rfl:n.cell? w.heap.size=some (.pointer (some gt)))) ?_;refine sC3 (fun _ n f _ _ _ _ o _ _ _ x=>?_) ?_
   · replace f:Keep (fun l=>l=a) L n:=kD f;have aT:_=_:=o 5 14 kR rfl;go_simp;refine (eW gt q n ((f.cell aM aJ).trans aw.out)).mono ?_;rintro i b4 ⟨rfl,aE⟩;exact x _ _ (aL aE) rfl
   refine pW3 3 12 6 15 ?_;refine pV3 0 9 ?_;refine pV3 8 17 ?_;refine sC3 (fun _ n _ M _ _ _ o _ _ _ x=>?_) ?_
   · have z:=M rfl;have aV:_=_:=o 9 18 kR rfl;have aU:_=_:=o 7 16 kR rfl;have az:n.cell? ⟨a,10,none⟩=some (.int .i64 k):=(z.cell 10).trans (aZ _ _ _).2.2.2.2.2.2.2.2.2.2;have aX:=z.frozen 10;go_simp;refine x (.bool true) _ (bC (Keep.setCell (F:=fun l=>l=a) (Keep.refl _ _) (p:=⟨a,10,none⟩) (.inl rfl) _)) ?_;have Z:=z.set 10 (.int .i64 (IntKind.i64.wrap (k+q)));rw [cF] at Z;exact Z
   exact aH
 · intro aW J f o a3;replace f:Keep (fun l=>l=a) L J:=kD f;obtain ⟨b2,ai⟩:∃aQ,(fun _ r=>Bk r a 201 (wcells s v (IntKind.i64.wrap (k+q)))) aQ J:=a3 10 dC;simp only [zqq];clear o a3;have af:Bk J a 201 (wcells s v (IntKind.i64.wrap (k+q))):=ai;have ab:=av.out.keep f fun c aO aA a4 y _=>fun i=>by have Y:c=a:=i;subst Y;rw [(aK y X.out).1] at a4;exact absurd a4 dC
   have a8:=f.bk ao.out ag;have a5:Keep (fun c=>F c∨c=a∨c=b) w J:=(am.out.mono (G:=fun c=>F c∨c=a∨c=b) fun c _ d=>by
    rcases d with d | d;exact .inl d
    · exact .inr (.inr d)).trans (f.mono fun c _ i=>.inr (.inl i))
   obtain ⟨ax,au,ap,al⟩:=hqq4 af ab a8 a5;clear ai af ab a5 f a8;go_wp2_with fail;go_end0;exact ⟨rfl,au.out,al.out,ap.out,_,ax.out⟩
@[irreducible] def cntL (ay:List Nat):List Value:=(List.range 257).map fun aN=>.int .i64 ((ay.count aN:Nat):Int)
def aAz (b:List Nat) {a:Nat} (c:a < 257):(cntL b)[a]?=some (.int .i64 ((b.count a:Nat):Int)):=by
 unfold cntL;rw [zAf,zCj c];rfl
def aB0 (a:List Nat):(cntL a).length=257:=by unfold cntL;simp
def aG7 {w:World} {gt:Nat} {a:List Nat} (e:Bk w gt 209 (tcells a)):(loadCells ⟨gt,0,none⟩ 257).run prog w=.ok (cntL a).toArray w:=by
 have:=run_loadCells_list (P:=prog) w ⟨gt,0,none⟩ (cntL a) (fun b g d=>by
  have f:(⟨gt,0,none⟩:Addr).add b=⟨gt,b,none⟩:=by unfold Addr.add;split <;> simp_all
  have c:b < 257:=by rw [<-aB0 a];exact (zAc.1 d).1
  rw [f,e.cell b,dI a c,<-aAz a c,d])
 rw [aB0] at this;exact this
def xB {i:Oper} {b:Act} {w:World} {j:Act->World->Prop} {m:Exit->Act->World->Prop} (a:TypeId) (l:Operand) (q:i.op=.load a l)
 (c:Addr) (u:b.eval l=.pointer (some c)) (d:Array Value) (g:Nat) (e:TypeDesc)
 (s:prog.underlying a=some e) (x:(match e with | .struct _ | .array _ _=>true | _=>false)=true) (k:(prog.info? a).map (·.size)=some g)
 (p:(loadCells c g).run prog w=.ok d w) (n:j (b.put i.dst (.agg d)) w):i.wp prog b w j m:=by
 have t:(loadVar a c).run prog w=.ok (.agg d) w:=by
  cases f:prog.info? a with
  | none=>simp [f] at k
  | some v=>
    have r:v.size=g:=(by simpa [f] using k);have o:(isAgg a).run prog w=.ok true w:=(by unfold isAgg;rw [Sem.run_bind,run_underlying s w];cases e <;> simp_all);simp [loadVar,Sem.run_bind,o,sizeOf,typeInfo,f,r,p]
 unfold Oper.wp execOp;simp only [q,u,Instr.loadAt,Instr.sureAddr,Sem.run_bind,Sem.run_pure,Result.andThen_ok,t];exact n
def aI5 (b:List Nat) (a:Nat) (c:a < 257) (w:World):(Instr.index 207 (.agg (cntL b).toArray) (.int .i64 (a:Int))).run prog w=.ok (.int .i64 ((b.count a:Nat):Int)) w:=by
 have j:(cntL b).toArray[a]?=some (.int .i64 ((b.count a:Nat):Int)):=by rw [zCw];exact aAz b c
 have d:(0:Int)<=(a:Int)/\(a:Int) < ((257:Nat):Int):=oM;have g:=underlying207;have i:=underlying3;have f:=aAz b c;have e:(isAgg 3).run prog w=.ok false w:=by unfold isAgg;rw [Sem.run_bind,run_underlying i w];rfl
 simp [Instr.index,asIntOf,Sem.run_bind,run_underlying g w,d,Tryz.sizeOf3,c,part,e,f]
def wJ (gt:Nat) (b:List Nat) (c d:Nat) (w:World) (m:Bk w gt 209 (tcells b)) (Y:d < 257) (j:b.countP (fun a=>decide (a < d))<=c) (g:c < b.countP (fun a=>decide (a < d))+b.count d) (X:b.length<=1000):
 Calls prog 151 #[gt,(c:Int)] w fun M w'=>M=.returned (.int .i64 (d:Int))/\Below w.heap.size w w':=by
 have D:=aG7 m;have H:=lhd m;clear m;have V:decide ((c:Int) < 0)=false:=by simp
 go_enter func151,ntmps151;go_wp2_with fail;refine xB 207 (.tmp 15) rfl ⟨gt,0,none⟩ rfl (cntL b).toArray 257 _ underlying207 rfl kR D ?_;have v:=fun a=>sT b a;have C:∀a,a < d->b.countP (fun e=>decide (e < a))+b.count a<=b.countP (fun e=>decide (e < d)):=fun a S=>by rw [<-v a];exact List.countP_mono_left fun e _ m=>by simp at m⊢;omega
 obtain ⟨A,J,I,z⟩:=hqq4 v C j g;clear v C j g D;have W:c<=1000:=by
  have g:=z.out;have n:b.countP (fun a=>decide (a < d))+b.count d<=b.length:=by rw [<-A.out d];exact zBh
  omega
 simp only [Act.put,List.setIfInBounds_toArray,List.set_cons_zero,List.set_cons_succ];go_wp2_with fail;go_loopw [1,17] (fun i y wr=>∃a:Nat,a<=d/\y=.int .i64 (a:Int)/\i=.int .i64 ((c - b.countP (fun e=>decide (e < a)):Nat):Int)/\wr=w) (fun _ y _=>257 -(intOf y).toNat)
 case atStart=>exact ⟨0,by omega,rfl,by simp,rfl⟩
 case round=>
  obtain ⟨a,S,rfl,rfl,rfl⟩:=hrel;have R:=aI5 b a oM;have j:=I.out;have g:=z.out;have n:=A.out a;have k:=J.out a;obtain ⟨f,s⟩:∃f,b.countP (fun e=>decide (e < d))=f:=⟨_,rfl⟩;obtain ⟨i,l⟩:∃f,b.countP (fun e=>decide (e < a))=f:=⟨_,rfl⟩;obtain ⟨E,t⟩:∃f,b.countP (fun e=>decide (e < a+1))=f:=⟨_,rfl⟩;obtain ⟨q,o⟩:=eqx (b.count a);rw [s] at j g k;rw [l] at n k;rw [t,o] at n;rw [o] at k R;by_cases T:a < d
  · have Q:=k T;have r:¬c - i < q:=oM;have N:decide (c - i < q)=false:=zBy r;have B:IntKind.i64.wrap (((c - i:Nat):Int) -(q:Int))=((c - E:Nat):Int):=(by rw [IntKind.wrap_i64];omega);have O:a < 257:=oM;have P:(a:Int) < 257:=oM;rw [l];obtain ⟨u,p⟩:=eqx (c - i);obtain ⟨U,x⟩:∃u,c - E=u:=⟨_,rfl⟩;rw [p] at r N B⊢;rw [x] at B;obtain ⟨K,L⟩:=hqq2 x t;clear j g n k Q s l t o p x;go_wp2_with fail;go_roundw
    case rel=>exact ⟨a+1,by omega,by go_num,by rw [L.out,K.out],by first | rfl | trivial⟩
    case measure=>simp [intOf];omega
  · obtain rfl:a=d:=oM;rw [l];obtain rfl:f=i:=(by rw [<-s,<-l]);rw [o] at g;have r:c - f < q:=oM;have O:a < 257:=oM;have P:(a:Int) < 257:=oM;obtain ⟨u,p⟩:=eqx (c - f);rw [p] at r⊢;clear j g n k s l t o p;go_wp2_with fail;go_ret;exact ⟨rfl,Below.refl _ _⟩
end Go.Proofs.YtcfpmjbojoidoaaGreatDoor
