/- Lemmas of the walk. Conditions: each its own. -/
import Derived.Test.YtecdldbdednahaaGreatDoorPu0
import Derived.Test.YtecdldbdednahaaGreatDoorProg
import Derived.Test.YtecdldbdednahaaGreatDoorShl
set_option linter.all false
set_option maxRecDepth 100000
set_option maxHeartbeats 4000000
open Go.Proofs.Tryz
namespace Go.Proofs.YtecdldbdednahaaGreatDoor
section
open Go.RowKit
def LeafV.cells {w B c ga a g i j k f} (e:LeafV w B c ga a g i j k f):
 w.cell? c=some (.pointer (some ga))/\w.cell? ⟨c,1,none⟩=some (.slice (some a) 1 g)/\w.cell? ⟨c,2,none⟩=some (.int .i64 j)/\w.cell? ⟨c,3,none⟩=some (.int .i64 k)/\
 w.cell? a=some (.int .i64 (-1))/\w.cell? ⟨a,1,none⟩=some (.int .i64 (-1))/\w.cell? ⟨a,2,none⟩=some (.int .i64 0)/\w.cell? ⟨a,3,none⟩=some (.int .i64 (f.length:Int))/\w.cell? ⟨a,4,none⟩=some (.int .i64 ((f.count true:Nat):Int))/\w.cell? ⟨a,5,none⟩=some (.int .i64 0)/\w.cell? ⟨a,6,none⟩=some (.int .i64 0)/\w.cell? ⟨a,7,none⟩=some (.pointer (some i)):=by
 have b:=fun p o=>ki e.row p o;exact ⟨(e.tree.cell 0).trans rfl,(e.tree.cell 1).trans rfl,(e.tree.cell 2).trans rfl,(e.tree.cell 3).trans rfl,(b 0 oM).trans rfl,(b 1 oM).trans rfl,(b 2 oM).trans rfl,(b 3 oM).trans rfl,(b 4 oM).trans rfl,(b 5 oM).trans rfl,(b 6 oM).trans rfl,(b 7 oM).trans rfl⟩
def eZ (a c w) (i:TreeAt w a c):
 Calls prog 194 #[a] w fun g w'=>g=.returned (.int .i64 (c.length:Int))/\Below w.heap.size w w':=by
 obtain ⟨ga,F,⟨rfl,vl,b⟩|⟨E,b,D,p,A,e⟩⟩:=i
 · have f:w.cell? ⟨a,2,none⟩=some (.int .i64 (-1)):=(b.cell 2).trans rfl;clear b;go_enter func194,ntmps194;go_wp2;go_ret;exact ⟨rfl,kh _ _⟩
 · obtain ⟨j,k,f,o,q,r,s,u,v,x,y,z⟩:=e.cells;clear e;go_enter func194,ntmps194;go_wp2;go_quiet (fail);go_wp2;go_ret;exact ⟨rfl,⟨rfl,rfl,rfl,zAs _,fun _ _=>rfl⟩⟩
def TreeAt.visits {w b e} (f:TreeAt w b e):∃a,w.cell? ⟨b,3,none⟩=some (.int .i64 a):=by
 obtain ⟨ga,a,⟨rfl,vl,c⟩|⟨o,c,k,i,j,g⟩⟩:=f;exact ⟨a,(c.cell 3).trans rfl⟩;exact ⟨a,g.cells.2.2.2.1⟩
def fZ (a:Nat) (b:Int) (w) (e:w.cell? ⟨a,3,none⟩=some (.int .i64 b)):
 Calls prog 207 #[a] w fun c w'=>c=.returned (.int .i64 b)/\Below w.heap.size w w':=by
 go_enter func207,ntmps207;go_wp2;go_ret;exact ⟨rfl,kh _ _⟩
def xP (n a:Nat) (b w) (e:n<=128) (f:a<=n):
 Calls prog 218 #[(n:Int),(a:Int),.bool b] w fun c w'=>c=.returned (.int .i64 ((if b then a else n - a:Nat):Int))/\Below w.heap.size w w':=by
 cases b
 · go_enter func218,ntmps218;go_wp2;go_ret;exact ⟨fR oM,kh _ _⟩
 · go_enter func218,ntmps218;go_wp2;go_ret;exact ⟨fR (by simp),kh _ _⟩
def qU (l:List Bool):l.count true+l.count false=l.length:=by
 induction l with
 | nil=>rfl
 | cons a l b=>cases a <;> simp <;> omega
def aBD (f b a c w) (i:TreeAt w f b) (V:a<=b.length):
 Calls prog 211 #[f,(a:Int),.bool c] w fun s w'=>s=.returned (.int .i64 (((b.take a).count c:Nat):Int))/\VisK (fun c=>c=f) w w':=by
 have T:b.length<=128:=by
  obtain ⟨ga,D,⟨rfl,vl,g⟩|⟨j,g,N⟩⟩:=i
  · simp
  exact g
 have ad:∃r,Bk w f 226 r/\3 < r.size:=by obtain ⟨ga,D,⟨rfl,vl,g⟩|⟨j,g,M,a6,v,N⟩⟩:=i;exact ⟨_,g,by simp⟩;exact ⟨_,N.tree,by simp⟩
 obtain ⟨r,o,a8⟩:=ad;have z:=VisK.set_tree o 0;have Y:=i.vis z.1;have ax:=o.lt;have K:w.cell? ⟨f,3,none⟩=some r[3]:=by rw [o.cell 3];simp [a8]
 have L:=o.frozen 3;have aC:max (a:Int) 0=(a:Int):=oM;have aD:min (a:Int) (b.length:Int)=(a:Int):=oM;obtain ⟨F,I,a4,J⟩:=hqq4 z i T Y;obtain ⟨aj,O⟩:=eqx b.length;obtain ⟨a3,p⟩:=hqq2 O V;clear i T z Y o O V;go_enter func211,ntmps211;go_wp2_with fail;clear K L;refine (eZ f b _ J.out).mono ?_;rintro s af ⟨rfl,k⟩;have A:=F.out.below k;have Z:=I.out.vis A.1;obtain ⟨G,a5⟩:=hqq2 A Z;clear A Z F J k I;rcases zBa a with W | W
 · subst W;go_wp2_with fail;go_ret;exact ⟨rfl,G.out⟩
 · have aA:¬((a:Int)=0):=oM;obtain ⟨ga,D,⟨x,_,_⟩|⟨x,k,M,a6,v,e⟩⟩:=a5.out;have j:=p.out;rw [x] at j;simp at j;omega;obtain ⟨ak,al,am,K,an,ao,ap,aq,ar,au,av,aw⟩:=e.cells;have aB:=e.row.lt;have ay:=e.tree.lt;have az:f≠M:=e.row.bk_ne e.tree dC;have L:=e.tree.frozen 3;obtain ⟨q,a2⟩:=hqq2 e k;clear e k x;go_wp2_with fail;go_loopw [1,7,8] (fun ag ah ai wr=>ag=.int .i64 (a:Int)/\ah=.int .i64 0/\ai=.int .i64 0/\wr=af) (fun _ _ _ _=>0)
   case atStart=>exact ⟨rfl,rfl,rfl,rfl⟩
   case round=>obtain ⟨rfl,rfl,rfl,rfl⟩:=hrel;go_wp2_with fail;have aa:=Bk.ne q.out.blk q.out.tree dC;have a0:=(VisK.set_tree q.out.tree (wrap64 (D+1))).alloc (.cells #[(-1:Int),(-1:Int),o0,(b.length:Int),.int .i64 ((b.count true:Nat):Int),o0,o0,v] 229);refine (aAp v b a _ ((q.out.blk.far aa _).alloc _) a2.out (by rw [a3.out] at*;exact p.out)).mono ?_;rintro s aF ⟨rfl,S⟩;have a1:=(G.out.trans a0).below S;obtain ⟨u,y⟩:=eqx (List.count true (List.take a b));have ac:u<=a:=(by rw [<-y];exact zAk zBv (by rw [zAj];omega));have U:(if c then u else a - u)=(b.take a).count c:=(by have j:=qU (b.take a);have g:(b.take a).length=a:=(by rw [zAj];have:=p.out;omega);cases c;simp;omega;simp;omega);rw [y];obtain ⟨E,H⟩:=hqq2 U a1;have ab:a<=128:=zAk p.out a4.out;clear y U a0 S a1;go_wp2_with fail;refine (xP a u c _ ab ac).mono ?_;rintro s aG ⟨rfl,a7⟩;rw [E.out];have ae:=H.out.below a7;have a9:(b.take a).count c<=128:=zAk zBv (by rw [zAj];omega);obtain ⟨aE,X⟩:=eqx (List.count c (List.take a b));rw [X] at a9⊢;clear E H;go_wp2_with fail;go_ret;exact ⟨fR (by rw [X] <;> omega),ae⟩
def lM (w:World) (B:Nat) (a:TypeId) (b:Nat):w.ownsRow B a b (.slice none 0 0) 0 []:=kj _ _ _ _
def aDk (s m v B c w) (y:Rd w B 1 s m (c.map Value.bool)) (a3:B<=w.heap.size) (M:m<=128) (a6:m<=v):
 Calls prog 196 #[.slice s m v] w fun a w'=>∃H,a=.returned (.pointer (some ⟨H,0,none⟩))/\TreeB w' w.heap.size H c/\Below w.heap.size w w':=by
 have L:c.length=m:=by simpa using y.1
 obtain ⟨W,u⟩:=hqq2 y L;clear y L;go_enter func196,ntmps196;go_wp2_with fail;refine (tK _).mono ?_;rintro a w1 ⟨rfl,J,x⟩;obtain ⟨A,E⟩:=hqq2 J x;have j:=x.size;clear J x;rcases zBa m with I | I
 · subst I;have a8:c= []:=zBk u.out;go_wp2_with fail;go_ret;have a5:=E.out.alloc j (.cells #[w.heap.size,(),(-1:Int),o0] 226);exact ⟨_,rfl,⟨_,0,j,zAs _,.inl ⟨a8,ke _ _ _,A.out.alloc _⟩⟩,a5⟩
 · have af:((m:Int)+128 - 1)/ 128=1:=oM;have a7:c≠ []:=(by intro a;have:=u.out;rw [a] at this;simp at this;omega);have p:=E.out.alloc j (.cells #[w.heap.size,(),(-1:Int),o0] 226);have S:=ke w1 226 #[w.heap.size,(),(-1:Int),o0];have K:=A.out.alloc (.cells #[w.heap.size,(),(-1:Int),o0] 226);have N:=((W.out.mono a3).below p).mono p.size;obtain ⟨z,T⟩:=eqx (w1.alloc (.cells #[w.heap.size,(),(-1:Int),o0] 226));obtain ⟨G,D,F,o⟩:=hqq4 S K N p;clear S K N p;go_wp2_with fail;rw [T] at G D F o;clear T;refine (aGW w1.heap.size w.heap.size 0 s m v z.heap.size c z G.out D.out F.out nL M a6).mono ?_;rintro a k ⟨rfl,q,a0,Y,Z,i,ae⟩;have aa:=i.tree.lt;have ac:=i.tree.frozen 2;have ab:k.cell? ⟨w1.heap.size,2,none⟩=some (.int .i64 (-1)):=(i.tree.cell 2).trans rfl;obtain ⟨f,V⟩:=hqq2 i q;clear i q;go_wp2_with fail;go_ret;have r:∀b t g,t≠226->Bk k b t g->Bk (k.setCell ⟨w1.heap.size,2,none⟩ (.int .i64 0)) b t g:=fun b t g a9 e=>e.far (Bk.ne e f.out.tree a9) _;obtain ⟨U,X,a1,a2⟩:=f.out.arena;have q:Below w.heap.size z k:=V.out.to_below o.out.size (fun b ad a=>by rcases a with a | a <;> omega);have a4:Below w.heap.size w k:=o.out.trans q;have O:=o.out.size;refine ⟨_,rfl,⟨_,0,j,zAs _,.inr ⟨a7,by rw [u.out];exact M,a0,Y,Z,by omega,f.out.tree.set 2 _,bN (aA f.out.row fun b g _ e=>r _ _ _ dC e) O,r _ _ _ dC f.out.blk,U,X,r _ _ _ dC a1,(oX a2 fun b g e=>r _ _ _ dC e).mono O⟩⟩,?_⟩;exact a4.setCell j _
def sv (a:Nat):Value:=.int .i64 (a:Int)
def bG (b a:Nat):Nat:=b / 2 ^(9 - a)
def hQ (b a:Nat):Bool:=decide (b / 2 ^(8 - a)% 2=1)
def fO (a:Nat) (w) (f:a < 257):
 Calls prog 113 #[(a:Int)] w fun b w'=>b=.returned (.bool true)/\Below w.heap.size w w':=by
 have c:(0:Int)<=(a:Int):=oM;have e:(a:Int) < 257:=oM;go_enter func113,ntmps113;go_wp2;go_ret;exact ⟨rfl,kh _ _⟩
def aC4 (b a:Nat):(b:Int)/ 2 ^ a=((b / 2 ^ a:Nat):Int):=by push_cast;rfl
def aLV (a:Nat) (c:a < 257):bits .and .i64 (a:Int) 1=((a % 2:Nat):Int):=by
 have b:=(bits_nat .i64 10 dC (fun n e b=>by rw [wI0];omega) a 1 oM oM).1;rw [show ((1:Nat):Int)=1 from rfl] at b;rw [b,Nat.and_one_is_mod]
def lK (b a:Nat) (w) (f:b < 257) (j:a<=9):
 Calls prog 171 #[(b:Int),(a:Int)] w fun c w'=>c=.returned (.int .i64 ((bG b a:Nat):Int))/\Below w.heap.size w w':=by
 have g:¬((a:Int) < 0):=oM;have i:¬((a:Int) > 9):=oM;go_enter func171,ntmps171;go_wp2_with fail;refine (fO b _ f).mono ?_;rintro c w1 ⟨rfl,e⟩;go_wp2_with fail;go_ret;exact ⟨fR (aC4 _ _),e⟩
def nB (b a:Nat) (w) (g:b < 257) (s:a < 9):
 Calls prog 174 #[(b:Int),(a:Int)] w fun e w'=>e=.returned (.bool (hQ b a))/\Below w.heap.size w w':=by
 have q:¬((a:Int) < 0):=oM;have r:¬((a:Int)>=9):=oM;go_enter func174,ntmps174;go_wp2_with fail;refine (fO b _ g).mono ?_;rintro e w1 ⟨rfl,o⟩;go_wp2_with fail;go_ret;refine ⟨bH ?_,o⟩;have p:b / 2 ^(8 - a) < 257:=Nat.lt_of_le_of_lt (Nat.div_le_self _ _) g;rw [aC4,aLV _ p];unfold hQ;generalize b / 2 ^(8 - a)% 2=j;by_cases f:j=1;subst f;rfl
 · have k:((j:Int)==1)=false:=(by simp;omega);rw [k];simp [f]
@[irreducible] def tcells (c:List Nat):Array Value:=Array.ofFn (n:=258) fun i=>.int .i64 (((if i.val < 257 then c.count i.val else c.length):Nat):Int)
def dZ (b) {a} (c:a < 257):(tcells b)[a]?=some (.int .i64 ((b.count a:Nat):Int)):=by
 unfold tcells;rw [Array.getElem?_ofFn,dif_pos oM,zBx c]
def iV (a):(tcells a)[257]?=some (.int .i64 ((a.length:Nat):Int)):=by
 unfold tcells;rw [Array.getElem?_ofFn,dif_pos oM];rfl
def eW (a):(tcells a).size=258:=by unfold tcells;simp
def qG (c b) (j:c.size=258) (g:∀e,e < 257->c[e]?=some (.int .i64 ((b.count e:Nat):Int))) (i:c[257]?=some (.int .i64 ((b.length:Nat):Int))):c=tcells b:=by
 apply Array.ext_getElem?;intro f;rcases zBe f 257 with a | a
 · rw [g f a,dZ b a]
 · rcases Nat.eq_or_lt_of_le a with a | a
   · rw [<-a,i,iV]
   · rw [Array.getElem?_eq_none oM,Array.getElem?_eq_none (by rw [eW];omega)]
def aD5 (b a) (g:a < 257):((tcells b).setIfInBounds a (.int .i64 (((b.count a+1:Nat)):Int))).setIfInBounds 257 (.int .i64 ((b.length+1:Nat):Int))=tcells (b++ [a]):=by
 apply qG
 · simp [eW]
 · intro e f;rw [zCe oM];by_cases c:a=e
   · subst c;rw [Array.getElem?_setIfInBounds_self_of_lt (by rw [eW];omega)];simp
   rw [zCe c,dZ b f];have: [a].count e=0:=(by simp [c]);rw [zCc,this];rfl
 · rw [Array.getElem?_setIfInBounds_self_of_lt (by simp [eW])];simp
def vA (e:Nat) (b) (a:Nat) (w) (g:Bk w e 196 (tcells b)) (j:a < 257):
 Calls prog 191 #[e,(a:Int)] w fun f w'=>f=.returned (.int .i64 ((b.count a:Nat):Int))/\Below w.heap.size w w':=by
 have c:=lhd g;clear g;go_enter func191,ntmps191;go_wp2_with fail;refine (fO a _ j).mono ?_;rintro f w1 ⟨rfl,i⟩;have k:w1.cell? ⟨e,a,none⟩=some (.int .i64 ((b.count a:Nat):Int)):=((c.out.below i c.out.lt).cell a).trans (dZ b j);have o:¬((a:Int) < 0):=oM;have p:((a:Int) < 257):=oM;clear c;go_wp2_with fail;go_ret;exact ⟨rfl,i⟩
def uV (c:List Nat) (b:Nat):c.countP (fun a=>decide (a < b+1))=c.countP (fun a=>decide (a < b))+c.count b:=by
 induction c with
 | nil=>rfl
 | cons a l i=>
   rw [zBn,zBn,List.count_cons,i];by_cases g:a < b;have e:a < b+1:=oM;have f:a≠b:=oM;simp [g,e,f];omega
   · by_cases e:a=b;subst e;simp;omega
     · have f:¬a < b+1:=oM;simp [g,e,f]
def kV (i:Nat) (c) (b:Nat) (w) (r:Bk w i 196 (tcells c)) (H:b < 257) (A:c.length<=1000):
 Calls prog 175 #[i,(b:Int)] w fun q w'=>q=.returned (.int .i64 ((c.countP (fun e=>decide (e < b)):Nat):Int))/\Below w.heap.size w w':=by
 have p:=lhd r;clear r;have I:max (b:Int) 0=(b:Int):=oM;have J:min (b:Int) 257=(b:Int):=oM;go_enter func175,ntmps175;go_wp2_with fail;go_loopw [5,10] (fun E o wr=>∃a:Nat,a<=b/\o=.int .i64 a/\E=.int .i64 ((c.countP (fun e=>decide (e < a)):Nat):Int)/\Below w.heap.size w wr) (fun _ o _=>b -(intOf o).toNat)
 case atStart=>exact ⟨0,by omega,rfl,by simp,kh _ _⟩
 case round=>
  obtain ⟨a,F,rfl,rfl,f⟩:=hrel;have D:=f.size;by_cases G:a < b
  · go_wp2_with fail;refine (vA i c a wr (p.out.below f p.out.lt) oM).mono ?_;rintro q w1 ⟨rfl,x⟩;have y:=f.trans (x.mono D);have g:=uV c a;have s:c.countP (fun e=>decide (e < a+1))<=1000:=zAk zBh A;obtain ⟨u,j⟩:∃u,c.countP (fun e=>decide (e < a))=u:=⟨_,rfl⟩;obtain ⟨K,k⟩:=eqx (c.count a);rw [g] at s;rw [j,k] at g s;rw [k]
    try rw [j]
    have v:=lhd g;clear g j k;go_wp2_with fail;go_roundw
    case rel=>exact ⟨a+1,by omega,by go_num,by rw [v.out];exact cO oM,y⟩
    case measure=>simp [intOf];omega
  · have z:a=b:=oM;subst z;go_wp2_with fail;go_ret;exact ⟨rfl,f⟩
def sR (a:Nat) (c) (b:Nat) (w) (g:Bk w a 196 (tcells c)) (q:b < 257) (L:c.length<=1000):
 Calls prog 157 #[a,(b:Int),(1:Int)] w fun J w'=>J=.returned (.int .i64 0)/\Bk w' a 196 (tcells (c++ [b]))/\Keep (fun i=>i=a) w w':=by
 have y:=lhd g;clear g;have aa:¬((b:Int) < 0):=oM;have ab:((b:Int) < 257):=oM;obtain ⟨f,x⟩:=eqx (c.count b);obtain ⟨n,v⟩:=eqx c.length;have ad:f<=1000:=by rw [<-x];exact zAk zBv L
 rw [v] at L;have D:=aD5 c b q;rw [x,v] at D;obtain ⟨M,z,I⟩:=hqq3 D x v;clear D x v;go_enter func157,ntmps157;go_wp2_with fail;refine (fO b _ q).mono ?_;rintro J w1 ⟨rfl,E⟩;have u:=y.out.below E y.out.lt;have X:w1.cell? ⟨a,b,none⟩=some (.int .i64 (f:Int)):=by rw [<-z.out];exact (u.cell b).trans (dZ c q)
 have Y:w1.cell? ⟨a,257,none⟩=some (.int .i64 (n:Int)):=by rw [<-I.out];exact (u.cell 257).trans (iV c)
 have ae:¬((1:Int) < -(f:Int)):=oM;have af:¬((1:Int) > 2147483648 -(n:Int)):=oM;obtain ⟨N,S⟩:=hqq2 E u;clear E u y;go_wp2_with fail;refine wp_region_any kR ?_;refine aY [33,34,35,36,37,38,39,40,41,42,43] (fun i=>i=a) 11 [5,11] (fun j=>Bk j a 196 (tcells c)) (fun _ j=>Bk j a 196 ((tcells c).setIfInBounds b (.int .i64 ((f+1:Nat):Int)))) [is a,is (b:Int),is a,is a,is (.pointer (some ⟨a,b,none⟩)),is (f:Int),is (.int .i64 1),is (.int .i64 ((f+1:Nat):Int)),is a,is a,is (.pointer (some ⟨a,b,none⟩)),cJ] _ _ rfl kR kR (S.out) (fun j ah g _ U=>kg g U g.lt) (fun _ _ _ g V=>kg g V g.lt) tA0 ?_ ?_
 · refine aK ?_;refine pH3 0 (.pointer (some a)) ?_;refine pH3 1 (.int .i64 (b:Int)) ?_;refine pV3 0 33 ?_;refine pV3 2 35 ?_;refine pW3 3 36 1 34 ?_;refine sC3 (fun _ G _ A _ _ _ e _ _ _ k=>?_) ?_
   · have o:=A rfl;have a2:_=_:=e 4 37 kR rfl;have a0:G.cell? ⟨a,b,none⟩=some (.int .i64 (f:Int)):=(by rw [<-z.out];exact (o.cell b).trans (dZ c q));go_simp;exact kq k rfl
   refine pH3 2 (.int .i64 1) ?_;refine sC3 (fun _ _ _ _ _ _ _ e _ _ _ k=>?_) ?_
   · have a3:_=_:=e 5 38 kR rfl;have a4:_=_:=e 6 39 kR rfl;go_simp;exact k _ _ (aE bR) (cO (by rw [wI0];omega))
   refine pV3 0 33 ?_;refine pV3 8 41 ?_;refine pW3 9 42 1 34 ?_;refine sC3 (fun _ G _ A _ _ _ e _ _ _ k=>?_) ?_
   · have o:=A rfl;have a6:_=_:=e 10 43 kR rfl;have a5:_=_:=e 7 40 kR rfl;have a1:G.cell? ⟨a,b,none⟩=some (.int .i64 (f:Int)):=(by rw [<-z.out];exact (o.cell b).trans (dZ c q));have a9:=o.frozen b;go_simp;exact k (.bool true) _ (aT (ka (F:=fun i=>i=a) (kf _ _) (p:=⟨a,b,none⟩) (.inl rfl) _)) (o.set b _)
   exact aC
 · intro a7 H s e K;replace s:Keep (fun i=>i=a) w1 H:=kD s;obtain ⟨ag,r⟩:∃W,(fun _ j=>Bk j a 196 ((tcells c).setIfInBounds b (.int .i64 ((f+1:Nat):Int)))) W H:=K 11 dC;simp only [zqq];clear e K;have Z:H.cell? ⟨a,257,none⟩=some (.int .i64 (n:Int)):=(by refine (r.cell 257).trans ?_;rw [zCe oM,<-I.out];exact iV c);have a8:=r.frozen 257;obtain ⟨T,O⟩:=hqq2 r s;have ac:=r.lt;clear r s;go_wp2_with fail;go_ret;refine ⟨rfl,?_,?_⟩;rw [<-M.out];exact T.out.set 257 _;exact ((kF N.out).trans O.out).setCell (.inl rfl) _
def aD4:tcells []=Tryz.zeroCells196:=by kernel_rfl
def sQ (u m L B b w) (q:Rd w B 1 u m (b.map sv)) (M:B<=w.heap.size) (a2:m<=1000) (x:∀f∈b,f < 257):
 Calls prog 139 #[.slice u m L] w fun o w'=>∃e,o=.returned (.tuple #[.pointer (some ⟨e,0,none⟩),o0])/\w.heap.size<=e/\Bk w' e 196 (tcells b)/\Below w.heap.size w w':=by
 have A:b.length=m:=by simpa using q.1
 obtain ⟨J,G,v,F⟩:=hqq4 q x A M;clear q x A;go_enter func139,ntmps139;go_wp2_with fail;obtain ⟨e,y⟩:=eqx w.heap.size;have S:Bk (w.alloc (.cells Tryz.zeroCells196 196)) e 196 (tcells (b.take 0)):=by rw [List.take_zero,aD4,<-y];exact ke _ _ _
 have N:=(kh w.heap.size w).alloc nL (.cells Tryz.zeroCells196 196)
 try rw [y]
 go_loopw [12] (fun s wr=>∃a:Nat,a<=m/\s=.int .i64 a/\Bk wr e 196 (tcells (b.take a))/\Below w.heap.size w wr) (fun s _=>m -(intOf s).toNat)
 case atStart=>exact ⟨0,by omega,rfl,S,N⟩
 case round=>
  obtain ⟨a,a1,rfl,i,g⟩:=hrel;have X:=g.size;by_cases D:a < m
  · have U:a < b.length:=(by rw [v.out];exact D);obtain ⟨f,j⟩:∃f,b[a]?=some f:=⟨b[a],zAa U⟩;obtain ⟨K,a3,a4,rfl,a0,r,T⟩:=((J.out.mono F.out).below g).get D;rw [zAf,j] at r;simp at r;subst r;have W:f < 257:=G.out f (zAd j);have E:b.take (a+1)=b.take a++ [f]:=(by rw [zAv,j];rfl);have Y:(b.take a).length<=1000:=(by rw [zAj];omega);unfold sv at T;obtain ⟨H,k⟩:=hqq2 E i;clear E i j;go_wp2_with fail;refine (sR e (b.take a) f _ k.out W Y).mono ?_;rintro o w1 ⟨rfl,p,z⟩;have O:Below w.heap.size w w1:=g.trans (z.to_below X (fun K g o=>by omega));rw [<-H.out] at p;have I:=lhd p;clear p z;go_wp2_with fail;go_roundw
    case rel=>exact ⟨a+1,by omega,by go_num,I.out,O⟩
    case measure=>simp [intOf];omega
  · have V:a=m:=oM;subst V;rw [zAg (by rw [v.out];omega)] at i;have k:=lhd i;clear i;go_wp2_with fail;go_ret2;exact ⟨e,rfl,by omega,k.out,g⟩
@[irreducible] def wcells (c:Nat->Value) (n Z:Int):Array Value:=#[c 0,c 1,c 2,c 3,c 4,c 5,c 6,c 7,c 8,.int .i64 n,.int .i64 Z]
def bI (a:Nat->Value) (n b):(wcells a n b)[0]?=some (a 0)/\(wcells a n b)[1]?=some (a 1)/\(wcells a n b)[2]?=some (a 2)/\(wcells a n b)[3]?=some (a 3)/\(wcells a n b)[4]?=some (a 4)/\(wcells a n b)[5]?=some (a 5)/\(wcells a n b)[6]?=some (a 6)/\(wcells a n b)[7]?=some (a 7)/\(wcells a n b)[8]?=some (a 8)/\(wcells a n b)[9]?=some (.int .i64 n)/\(wcells a n b)[10]?=some (.int .i64 b):=by
 unfold wcells;exact ⟨rfl,rfl,rfl,rfl,rfl,rfl,rfl,rfl,rfl,rfl,rfl⟩
def cR (a:Nat->Value) (n c b):(wcells a n c).setIfInBounds 10 (.int .i64 b)=wcells a n b:=by
 unfold wcells;rfl
def tM (b:Nat->Value) (n c a) (r:a < 9):(wcells b n c)[a]?=some (b a):=by
 obtain ⟨e,f,g,i,j,k,o,p,q,_⟩:=bI b n c;rcases a with _ | _ | _ | _ | _ | _ | _ | _ | _ | a
 all_goals first | assumption | omega
def aD0 (b:Nat->Value) (n f a) (g:a < 9) (e):(wcells b n f).setIfInBounds a e=wcells (fun c=>if c=a then e else b c) n f:=by
 unfold wcells;rcases a with _ | _ | _ | _ | _ | _ | _ | _ | _ | a
 all_goals first | rfl | omega
def Vis.waveC {w w' e} {c:Nat->Value} {n f} (g:Vis w w') (i:Bk w e 180 (wcells c n f)):∃b,Bk w' e 180 (wcells c n b):=by
 rcases g.wave i with a |⟨b,a⟩;exact ⟨f,a⟩;rw [cR] at a;exact ⟨b,a⟩
def aHr (b gk g gn:Nat) (A D:Int) (p e) (c:Nat) (a w) (r:TreeAt w b e) (j:Bk w gk 3 #[(c:Int)]) (i:Bk w g 4 #[.bool a]) (k:Bk w gn 3 #[p]) (z:c<=e.length):
 Calls prog 210 #[.agg #[b,(A:Int),(D:Int)],gk,g,gn] w fun q w'=>q=.returned (.tuple #[])/\
  ∃w1,VisK (fun a=>a=b) w w1/\Bk w1 gn 3 #[p]/\w'=w1.setCell gn (.int .i64 (((e.take c).count a:Nat):Int)):=by
 have E:w.cell? gk=some (.int .i64 (c:Int)):=(j.cell 0).trans rfl;have F:w.cell? g=some (.bool a):=(i.cell 0).trans rfl;have I:=j.lt;have J:=i.lt;have K:=k.lt;obtain ⟨y,v⟩:=hqq2 r k;clear r j i k;go_enter func210,ntmps210;go_wp2_with fail;refine (aBD b e c a _ (y.out.below (bR.alloc nL _)) z).mono ?_;rintro q w1 ⟨rfl,s⟩;have o:VisK (fun a=>a=b) w w1:=(kd (bR.alloc nL _)).trans s;have f:=o.1.bk v.out dC dC;have G:w1.cell? gn=some p:=(f.cell 0).trans rfl;have H:=f.frozen 0;obtain ⟨u,x⟩:=hqq2 o f;clear s o f;go_wp2_with fail;go_end0;exact ⟨rfl,w1,u.out,x.out,rfl⟩
def Vis.of_wave {w w' c} {e:Nat->Value} {n o g} (a:Keep (fun b=>b=c) w w') (i:Bk w c 180 (wcells e n o)) (j:Bk w' c 180 (wcells e n g)):Vis w w':=by
 refine ⟨a.os,a.tape,a.output,a.size,fun b k _=>?_⟩;by_cases f:b=c;subst f;exact .inr (.inr ⟨_,g,i,by rw [cR];exact j⟩);exact .inl (a.block b k f)
def aHy (b c gk S gn:Nat) (y:Nat->Value) (n ah N k:Int) (aj i) (g:Nat) (a w) (M:Bk w b 180 (wcells y n ah)) (ac:TreeAt w c i) (W:Bk w gk 3 #[(g:Int)]) (U:Bk w S 4 #[.bool a]) (K:Bk w gn 3 #[aj]) (aF:g<=i.length):
 Calls prog 151 #[b,.agg #[c,(N:Int),(k:Int)],.func (.func 210) #[] #[gk,S,gn]] w fun j w'=>j=.returned (.tuple #[])/\
  VisF (fun a=>a=gn) w w'/\Keep (fun a=>a=b∨a=c∨a=gn) w w'/\Bk w' gn 3 #[.int .i64 (((i.take g).count a:Nat):Int)]:=by
 obtain ⟨aI,Z⟩:=eqx (Obj.cells #[c,(N:Int),(k:Int)] 183);have a9:=(kh w.heap.size w).alloc nL aI;have a0:=ke w 183 #[c,(N:Int),(k:Int)];rw [Z] at a0;have aZ:=W.lt;have b0:=U.lt;have b1:=K.lt;have b2:=M.lt;have aH:=Bk.ne K M dC;obtain ⟨O,a4,a3,a2,a6,u,a5,aq⟩:=hqq8 ac K W U M a9 a0 Z;clear ac W U K M a9 a0 Z;go_enter func151,ntmps151;go_wp2_with fail;rw [aq.out];refine (aHr c gk S gn N k aj i g a _ (O.out.below u.out) (a3.out.alloc _) (a2.out.alloc _) (a4.out.alloc _) aF).mono ?_;rintro j s ⟨rfl,w1,x,Y,rfl⟩;obtain ⟨r,af⟩:=((kc u.out).trans x.1).waveC a6.out;have E:=af.far (p:=gn) (fun e=>aH e.symm) (.int .i64 (((i.take g).count a:Nat):Int));have ad:=O.out.vis ((kc u.out).trans x.1);have D:TreeAt (w1.setCell gn (.int .i64 (((i.take g).count a:Nat):Int))) c i:=ad.same fun aw t aO ab e=>e.far (fun j=>by
  have ax:aw=gn:=j;subst ax;rw [<-(aP Y e).1] at ab;exact absurd ab dC) _
 obtain ⟨vt,a1⟩:=D.visits;have v:=(x.1.bk a5.out dC dC).far (p:=gn) (fun e=>absurd (show w.heap.size=gn from e) oM) (.int .i64 (((i.take g).count a:Nat):Int));have L:=Y.set 0 (.int .i64 (((i.take g).count a:Nat):Int));have V:VisF (fun a=>a=gn) w (w1.setCell gn (.int .i64 (((i.take g).count a:Nat):Int))):=VisF.put (F:=fun a=>a=gn) (VisF.of_vis ((kc u.out).trans x.1)) (p:=gn) (.inl rfl) _;have X:Keep (fun a=>a=b∨a=c∨a=gn) w (w1.setCell gn (.int .i64 (((i.take g).count a:Nat):Int))):=ka (F:=fun a=>a=b∨a=c∨a=gn) ((kF u.out).trans (x.2.mono fun a _ j=>.inr (.inl j))) (p:=gn) (.inl (.inr (.inr rfl))) _;obtain ⟨H,a8⟩:=eqx (w1.setCell gn (.int .i64 (((i.take g).count a:Nat):Int)));rw [a8] at E D a1 v L V X⊢;have aJ:H.cell? w.heap.size=some (.pointer (some c)):=(v.cell 0).trans rfl;obtain ⟨G,ar,ap,an,ao,au,av⟩:=hqq7 E v L V X D a1;have aG:=D.lt;have aX:=v.lt;have aB:=Bk.ne E v dC;have aA:=Bk.ne E L dC;have aD:c≠b:=by rintro rfl;obtain ⟨ga,ah,⟨_,_,I⟩|⟨_,_,_,_,_,J⟩⟩:=au.out;exact absurd (aP I G.out).1 dC;exact absurd (aP J.tree G.out).1 dC
 clear E v L V X D a1 a8 af ad Y x u O a4 a3 a2 a6 a5 aJ;go_wp2_with fail;refine wp_region_any kR ?_;refine aY [9,10,11,12,13,14,15,16,17,18] (fun a=>a=b) 10 [3,10] (fun s=>Bk s b 180 (wcells y n r)) (fun _ s=>Bk s b 180 (wcells y n (IntKind.i64.wrap (r+vt)))) [is b,is b,is (.pointer (some ⟨b,10,none⟩)),is (.int .i64 r),is w.heap.size,is c,is (.int .i64 vt),is (.int .i64 (IntKind.i64.wrap (r+vt))),is b,is (.pointer (some ⟨b,10,none⟩)),cJ] _ _ rfl kR kR (G.out) (fun s b4 e _ az=>kg e az e.lt) (fun _ _ _ e g=>kg e g e.lt) tA0 ?_ ?_
 · refine aK ?_;refine pH3 0 (.pointer (some b)) ?_;refine pV3 0 9 ?_;refine pV3 1 10 ?_;refine sC3 (fun _ o _ T _ _ _ q _ _ _ z=>?_) ?_
   · have A:=T rfl;have aQ:_=_:=q 2 11 kR rfl;have aM:o.cell? ⟨b,10,none⟩=some (.int .i64 r):=(A.cell 10).trans (bI _ _ _).2.2.2.2.2.2.2.2.2.2;go_simp;exact kq z rfl
   refine pH3 4 (.pointer (some w.heap.size)) ?_;refine pL3 4 13 (fun o f=>have f:Keep (fun a=>a=b) H o:=kD f;(((f.bk ar.out (fun e=>aB (show w.heap.size=b from e).symm)).cell 0).trans rfl:o.cell? w.heap.size=some (.pointer (some c)))) ?_;refine sC3 (fun _ o f _ _ _ _ q _ _ _ z=>?_) ?_
   · replace f:Keep (fun a=>a=b) H o:=kD f;have aR:_=_:=q 5 14 kR rfl;go_simp;refine (fZ c vt o ((f.cell aG aD).trans av.out)).mono ?_;rintro j b5 ⟨rfl,ay⟩;exact z _ _ (aE ay) rfl
   refine pW3 3 12 6 15 ?_;refine pV3 0 9 ?_;refine pV3 8 17 ?_;refine sC3 (fun _ o _ T _ _ _ q _ _ _ z=>?_) ?_
   · have A:=T rfl;have aU:_=_:=q 9 18 kR rfl;have aS:_=_:=q 7 16 kR rfl;have aN:o.cell? ⟨b,10,none⟩=some (.int .i64 r):=(A.cell 10).trans (bI _ _ _).2.2.2.2.2.2.2.2.2.2;have aW:=A.frozen 10;go_simp;refine z (.bool true) _ (aT (ka (F:=fun a=>a=b) (kf _ _) (p:=⟨b,10,none⟩) (.inl rfl) _)) ?_;rw [<-cR y n r];exact A.set 10 _
   exact aC
 · intro aV ai f q aa;replace f:Keep (fun a=>a=b) H ai:=kD f;obtain ⟨b3,ag⟩:∃aL,(fun _ s=>Bk s b 180 (wcells y n (IntKind.i64.wrap (r+vt)))) aL ai:=aa 10 dC;simp only [zqq];clear q aa;have ae:=Vis.of_wave f G.out ag;have a7:=VisF.trans an.out (VisF.of_vis ae);have I:=ao.out.trans (f.mono fun a _ j=>.inl j);have J:=f.bk ap.out (fun j=>aA (show gn=b from j).symm);obtain ⟨ak,al,am⟩:=hqq3 a7 I J;clear ae a7 I J ag f;go_wp2_with fail;go_end0;exact ⟨rfl,ak.out,al.out,am.out⟩
def mZ (p b) (u:Nat->Value) (n L f g o c a w) (r:Bk w p 180 (wcells u n L)) (H:TreeAt w b o) (Y:c<=o.length):
 Calls prog 154 #[p,.agg #[b,(f:Int),(g:Int)],(c:Int),.bool a] w fun e w'=>e=.returned (.int .i64 (((o.take c).count a:Nat):Int))/\VisK (fun a=>a=p∨a=b) w w':=by
 have a0:∀(x:Fn) (first v:Array Value) (w:World),(Instr.makeFunc x first v).run prog w=.ok (.func x first v) w:=fun _ _ _ _=>rfl;obtain ⟨k,j⟩:=eqx ((((w.alloc (.cells #[b,(f:Int),(g:Int)] 183)).alloc (.cells #[(c:Int)] 3)).alloc (.cells #[.bool a] 4)).alloc (.cells #[o0] 3));have q:Below w.heap.size w k:=by rw [<-j];exact (((bR.alloc nL _).alloc (by simp) _).alloc (by simp;omega) _).alloc (by simp;omega) _
 have y:Bk k (w.heap.size+1) 3 #[(c:Int)]:=by rw [<-j];have i:=ke (w.alloc (.cells #[b,(f:Int),(g:Int)] 183)) 3 #[(c:Int)];rw [show (w.alloc (.cells #[b,(f:Int),(g:Int)] 183)).heap.size=w.heap.size+1 from by simp] at i;exact (i.alloc _).alloc _
 have z:Bk k (w.heap.size+1+1) 4 #[.bool a]:=by rw [<-j];have i:=ke ((w.alloc (.cells #[b,(f:Int),(g:Int)] 183)).alloc (.cells #[(c:Int)] 3)) 4 #[.bool a];rw [show ((w.alloc (.cells #[b,(f:Int),(g:Int)] 183)).alloc (.cells #[(c:Int)] 3)).heap.size=w.heap.size+1+1 from by simp] at i;exact i.alloc _
 have A:Bk k (w.heap.size+1+1+1) 3 #[o0]:=by rw [<-j];have i:=ke (((w.alloc (.cells #[b,(f:Int),(g:Int)] 183)).alloc (.cells #[(c:Int)] 3)).alloc (.cells #[.bool a] 4)) 3 #[o0];rw [show (((w.alloc (.cells #[b,(f:Int),(g:Int)] 183)).alloc (.cells #[(c:Int)] 3)).alloc (.cells #[.bool a] 4)).heap.size=w.heap.size+1+1+1 from by simp] at i;exact i
 have K:=r.below q r.lt;have I:=H.below q;obtain ⟨W,V,M,N,O,U,s⟩:=hqq7 K I y z A j q;clear r H K I y z A j q;go_enter func154,ntmps154;go_wp2_with fail;rw [U.out];refine (aHy p b _ _ _ u n L f g _ o c a k W.out V.out M.out N.out O.out Y).mono ?_;rintro e w1 ⟨rfl,J,F,G⟩;have D:Vis w w1:=VisF.to_vis (VisF.trans (VisF.of_vis (kc s.out)) J) (fun a X e=>by omega);have E:Keep (fun a=>a=p∨a=b) w w1:=(kF s.out).trans' F (fun a X e=>by
  rcases e with e | e | e;exact .inl e;exact .inr e
  · omega)
 have Z:w1.cell? ⟨w.heap.size+1+1+1,0,none⟩=some (.int .i64 (((o.take c).count a:Nat):Int)):=(G.cell 0).trans rfl;obtain ⟨S,T⟩:=hqq2 D E;clear J F G D E;go_wp2_with fail;go_ret;exact ⟨rfl,S.out,T.out⟩
def aL (b:List Nat) (a c:Nat):List Bool:=(b.filter fun e=>bG e a==c).map (hQ · a)
def oS (b a) (g:a < 9):bG b (a+1)=2*bG b a+(if hQ b a then 1 else 0):=by
 unfold bG hQ;have e:9 -(a+1)=8 - a:=oM;have f:9 - a=(8 - a)+1:=oM;rw [e,f,Nat.pow_succ,<-Nat.div_div_eq_div_mul];generalize b / 2 ^(8 - a)=q;by_cases c:q % 2=1;simp [c];omega;simp [c];omega
def oR (a) (b:a < 257):bG a 0=0:=by
 unfold bG;exact Nat.div_eq_of_lt oM
def oT (a):bG a 9=a:=by
 unfold bG;simp
def mO (b a) (c:b < 257) (e:a<=9):bG b a < 2 ^ a:=by
 unfold bG;rw [Nat.div_lt_iff_lt_mul (Nat.pos_of_ne_zero (by simp)),<-Nat.pow_add,show a+(9 - a)=9 by omega];omega
def aE3 (f a b) (k:a < 9):(aL f a (bG b a)).count (hQ b a)=f.countP (fun p=>bG p (a+1)==bG b (a+1)):=by
 induction f with
 | nil=>rfl
 | cons c l o=>
   have g:=oS c a k;have i:=oS b a k;unfold aL at o⊢;rw [zBn,<-o,List.filter_cons];by_cases e:bG c a=bG b a
   · rw [zBx (by simp [e]),List.map_cons,List.count_cons];by_cases j:hQ c a=hQ b a
     · have:bG c (a+1)=bG b (a+1):=(by rw [g,i,e,j]);simp [j,this]
     · have:bG c (a+1)≠bG b (a+1):=(by rw [g,i,e];cases q:hQ c a <;> cases r:hQ b a <;> simp_all);simp [j,this]
   · rw [zBw (by simp [e])];have:bG c (a+1)≠bG b (a+1):=(by rw [g,i];cases hQ c a <;> cases hQ b a <;> simp <;> omega);simp [this]
def aGZ (e b c a):(aL e b c).take ((e.take a).countP fun k=>bG k b==c)=aL (e.take a) b c:=by
 induction e generalizing a with
 | nil=>simp [aL]
 | cons g l j=>
   rcases a with _ | a
   · simp [aL]
   · have:=j a;unfold aL at this⊢;rw [List.take_succ_cons,zBn,List.filter_cons,List.filter_cons];by_cases f:bG g b=c
     · simp only [f,beq_self_eq_true,if_true,List.map_cons,List.take_succ_cons,this]
     · have i:(bG g b==c)=false:=(by simp [f]);simp only [i,Bool.false_eq_true,if_false,zBq,this]
def jM (a b c):(aL a b c).length=a.countP fun e=>bG e b==c:=by
 unfold aL;rw [zBc,List.countP_eq_length_filter]
def gF (b:List Nat) (c f a:Nat):Nat:=(b.take c).countP fun e=>bG e a==bG f a
def mA (a b e) (j:b<=a.length) (f:∀c∈a,c < 257) (g:e < 257):gF a b e 0=b:=by
 unfold gF;rw [List.countP_eq_length.2 (fun c i=>by
  have:=f c (List.mem_of_mem_take i);simp [oR _ this,oR _ g]),zAj]
 omega
def mB (c e b a) (f:a < 9):((aL c a (bG b a)).take (gF c e b a)).count (hQ b a)=gF c e b (a+1):=by
 unfold gF;rw [aGZ,aE3 _ _ _ f]
def aFZ (a c e b):gF a c e b<=(aL a b (bG e b)).length:=by
 unfold gF;rw [jM];exact (List.take_sublist c a).countP_le
def aAL (a b c):gF a b c 9=(a.take b).count c:=by
 unfold gF;rw [List.count_eq_countP];congr 1;funext s;rw [oT,oT]
def eJ (b:Nat->Nat) (c m:Nat):List Value:=(List.range m).flatMap fun a=> [.pointer (some ⟨b a,0,none⟩),.int .i64 (c:Int),.int .i64 (a:Int)]
def jE (a b m):eJ a b (m+1)=eJ a b m++ [.pointer (some ⟨a m,0,none⟩),.int .i64 (b:Int),.int .i64 (m:Int)]:=by
 unfold eJ;rw [List.range_succ,List.flatMap_append];simp
def wU (a c m):(eJ a c m).length=m*3:=by
 induction m with
 | zero=>rfl
 | succ m b=>rw [jE,zAi,b];simp;omega
def fV (b c m a) (o:a < m):(eJ b c m)[a*3]?=some (.pointer (some ⟨b a,0,none⟩))/\(eJ b c m)[a*3+1]?=some (.int .i64 (c:Int))/\(eJ b c m)[a*3+2]?=some (.int .i64 (a:Int)):=by
 induction m with
 | zero=>omega
 | succ m k=>
   rw [jE];by_cases f:a=m;subst f;have e:=wU b c a;refine ⟨?_,?_,?_⟩;rw [zAo oM,e,Nat.sub_self];rfl;rw [zAo oM,e,show a*3+1 - a*3=1 by omega];rfl;rw [zAo oM,e,show a*3+2 - a*3=2 by omega];rfl;have e:=wU b c m;obtain ⟨g,i,j⟩:=k oM;refine ⟨?_,?_,?_⟩;rw [zAn oM];exact g;rw [zAn oM];exact i;rw [zAn oM];exact j
def aA0 (b c f m) (e:∀a,a < m->b a=c a):eJ b f m=eJ c f m:=by
 induction m with
 | zero=>rfl
 | succ m g=>rw [jE,jE,g (fun a i=>e a oM),e m oM]
def ShelfRow (w:World) (B:Nat) (f:Value) (e:List Nat) (c m:Nat):Prop:=
 ∃(b:Nat->Nat),w.ownsRow B 183 3 f m (eJ b c m)/\∀a,a < m->B<=b a/\TreeAt w (b a) (aL e c a)
def ShelfRow.vis {w w' B i a f m} (k:ShelfRow w B i a f m) (e:Vis w w'):ShelfRow w' B i a f m:=by
 obtain ⟨j,o,b⟩:=k;exact ⟨j,e.own o dC dC,fun g c=>⟨(b g c).1,(b g c).2.vis e⟩⟩
def ShelfRow.below {w w' B c a b m} (e:ShelfRow w B c a b m) (f:Below w.heap.size w w'):ShelfRow w' B c a b m:=e.vis (kc f)
def WaveAt (w:World) (B e:Nat) (b:List Nat):Prop:=
 B<=e/\∃(c:Nat->Value) (f:Int),Bk w e 180 (wcells c (b.length:Int) f)/\∀a,a < 9->ShelfRow w B (c a) b a (2 ^ a)
def WaveAt.vis {w w' B b a} (f:WaveAt w B b a) (c:Vis w w'):WaveAt w' B b a:=by
 obtain ⟨g,e,r,i,j⟩:=f;obtain ⟨q,k⟩:=c.waveC i;exact ⟨g,e,q,k,fun p o=>(j p o).vis c⟩
def WaveAt.below {w w' B b a} (c:WaveAt w B b a) (e:Below w.heap.size w w'):WaveAt w' B b a:=c.vis (kc e)
abbrev VB (B:Nat):World->World->Prop:=VisK (fun a=>B<=a)
def bD {B w w'} (a:VB B w.drew w'):VB B w w':=⟨⟨a.1.os,a.1.tape,a.1.output,a.1.size,a.1.block⟩,⟨a.2.os,a.2.tape,a.2.output,a.2.size,a.2.block⟩⟩
def VB.to_below {B w w'} (b:VB B w w') (c:B<=w.heap.size):Below B w w':=b.2.to_below c (fun e f a=>by have:=a;omega)
def VB.set_wave {w B a f} (g:Bk w a 180 f) (i:B<=a) (b):VB B w (w.setCell ⟨a,10,none⟩ (.int .i64 b)):=⟨Vis.set_wave g b,ka (F:=fun e=>B<=e) (kf _ _) (p:=⟨a,10,none⟩) (.inl i) _⟩
@[irreducible] def rowC (c:Nat->Value) (m:Nat):Array Value:=Array.ofFn (n:=m) fun j=>c j.val
def oP (a:Nat->Value) (m):(rowC a m).size=m:=by unfold rowC;simp
def nS (b:Nat->Value) (m a) (c:a < m):(rowC b m)[a]?=some (b a):=by
 unfold rowC;rw [Array.getElem?_ofFn,dif_pos c]
def aIg (f:Nat->Value) (m c) (i:c < m) (g):(rowC f m).setIfInBounds c g=rowC (fun b=>if b=c then g else f b) m:=by
 apply Array.ext_getElem?;intro b;rcases zBe b m with a | a
 · rw [nS _ _ _ a];by_cases e:c=b
   · subst e;rw [Array.getElem?_setIfInBounds_self_of_lt (by rw [oP];exact i),zBx rfl]
   · rw [zCe e,nS _ _ _ a,zBw (fun j=>e j.symm)]
 · rw [Array.getElem?_eq_none (by simp [oP];exact a),Array.getElem?_eq_none (by rw [oP];exact a)]
def aEl (b m):rowC (fun _=>b) m=Array.replicate m b:=by
 apply Array.ext_getElem?;intro c;rcases zBe c m with a | a
 · rw [nS _ _ _ a];simp [a]
 · rw [Array.getElem?_eq_none (by rw [oP];exact a),Array.getElem?_eq_none (by simpa using a)]
structure Bits (w:World) (B gB m:Nat) (T:Nat->Value) (R:Nat->List Bool):Prop where
 blk:Bk w gB 112 (rowC T m)
 own:∀p,p < m->w.ownsRow B 4 1 (T p) (R p).length ((R p).map Value.bool)
 apart:∀p q,p < m->q < m->p≠q->∀b,(T p).ownBlock=some b->(T q).ownBlock≠some b
def Bits.same {w w' B f m} {e:Nat->Value} {R:Nat->List Bool} (c:Bits w B f m e R) (j:∀a b,Bk w a 112 b->Bk w' a 112 b) (k:∀a b,Bk w a 4 b->Bk w' a 4 b):Bits w' B f m e R:=
 ⟨j _ _ c.blk,fun o i=>aA (c.own o i) fun a b _ g=>k a b g,c.apart⟩
def Bits.below {w w' B c m} {b:Nat->Value} {R:Nat->List Bool} (i:Bits w B c m b R) (e:Below w.heap.size w w'):Bits w' B c m b R:=i.same (fun f g a=>a.below e a.lt) (fun f g a=>a.below e a.lt)
def Bits.start (w B a m) (b:Bk w a 112 (rowC (fun _=>.slice none 0 0) m)):Bits w B a m (fun _=>.slice none 0 0) (fun _=> []):=
 ⟨b,fun e g=>kj _ _ _ _,fun e i _ _ _ f c=>by simp [Value.ownBlock] at c⟩
def Bits.push {w w1 B r m a} {j:Nat->Value} {R:Nat->List Bool} {v b} (k:Bits w B r m j R) (x:a < m) (L:Keep (fun b=>(j a).ownBlock=some b) w w1) (O:w1.ownsRow B 4 1 v ((R a).length+1) ((R a).map Value.bool++ [.bool b])) (A:v.ownBlock=(j a).ownBlock∨∃f,v.ownBlock=some f/\w.heap.size<=f):
 Bits (w1.setCell ⟨r,a,none⟩ v) B r m (fun u=>if u=a then v else j u) (fun u=>if u=a then R a++ [b] else R u):=by
 have N:(j a).ownBlock≠some r:=by intro e;exact bC (k.own a x) k.blk dC e.symm
 have G:=L.bk k.blk N;have I:∀f q,Bk w1 f 4 q->Bk (w1.setCell ⟨r,a,none⟩ v) f 4 q:=fun f q o=>o.far (Bk.ne o G dC) _;refine ⟨?_,fun c i=>?_,fun c E i H D y s=>?_⟩;rw [<-aIg j m a x v];exact G.set a v;by_cases e:c=a;subst e;rw [zBx rfl,zBx rfl,zAi,zAz];exact aA O fun f q _ o=>I f q o;rw [zBw e,zBw e];refine aA (k.own c i) fun f q o M=>I f q (L.bk M ?_);exact fun g=>k.apart c a i x e f o g;have T:∀c,c < m->∀g,(j c).ownBlock=some g->g < w.heap.size:=fun c i g p=>((k.own c i).lt g p).2;have J:∀c,c < m->c≠a->∀g,v.ownBlock=some g->(j c).ownBlock≠some g:=(by intro c i S g p K;rcases A with A |⟨f,o,U⟩;rw [A] at p;exact k.apart a c x i (fun e=>S e.symm) g p K;rw [o] at p;cases p;have:=T c i _ K;omega);by_cases z:c=a;subst z;rw [zBx rfl] at s;rw [zBw (fun e=>D e.symm)];exact J E H (fun e=>D e.symm) y s;rw [zBw z] at s;by_cases F:E=a;subst F;rw [zBx rfl];intro p;exact J c i z y p s;rw [zBw F];exact k.apart c E i H D y s
def aG0 (e c a b):aL (e++ [c]) a b=if b=bG c a then aL e a b++ [hQ c a] else aL e a b:=by
 unfold aL;rw [List.filter_append,zAz];by_cases f:b=bG c a
 · rw [zBx f];simp [f]
 · rw [zBw f];have:(bG c a==b)=false:=(by simp;omega);simp [this]
def Bits.congr {w B e m} {c:Nat->Value} {R R':Nat->List Bool} (b:Bits w B e m c R) (g:∀a,a < m->R a=R' a):Bits w B e m c R':=
 ⟨b.blk,fun a f=>by rw [<-g a f];exact b.own a f,b.apart⟩
def fE {w f a q n b e r} (o:w.ownsRow f a q e n r) (c:e.ownBlock=some b):∃g,Bk w b a g:=by
 rcases o.2 with ⟨rfl,_⟩|⟨k,s,i,rfl,_,p,_⟩
 · simp [Value.ownBlock] at c
 have j:k=b:=(by simpa [Value.ownBlock] using c);subst j;exact ⟨i,p⟩
def TreeAt.keepT {w w' b f c} (k:TreeAt w f c) (s:Keep b w w') (q:∀a,b a->∃t e,Bk w a t e/\(t=180∨t=183)):TreeAt w' f c:=by
 refine k.same fun a t e i g=>s.bk g fun o=>?_;obtain ⟨v,u,p,r⟩:=q a o;have j:=(aP g p).1;subst j;rcases r with rfl | rfl;exact absurd i dC;exact absurd i dC
def ShelfRow.keepW {w w' b B c s g q m} (v:ShelfRow w B s g q m) (p:Keep (fun a=>a=b) w w') (o:Bk w b 180 c):ShelfRow w' B s g q m:=by
 obtain ⟨u,x,i⟩:=v;refine ⟨u,aA x fun a c _ j=>p.bk j fun e=>?_,fun r k=>⟨(i r k).1,(i r k).2.keepT p fun a e=>by
  have f:a=b:=e;subst f;exact ⟨_,c,o,.inl rfl⟩⟩⟩
 have f:a=b:=e;subst f;exact absurd (aP j o).1 dC
def ShelfRow.mono {w B B' i a f m} (k:ShelfRow w B i a f m) (c:B'<=B):ShelfRow w B' i a f m:=by
 obtain ⟨j,o,b⟩:=k;exact ⟨j,bN o c,fun g e=>⟨zAk c (b g e).1,(b g e).2⟩⟩
def gN:(prog.info? 3).map (fun a=>(a.zero,a.size,a.bytes))=some (some (.int .i64 0),1,8):=by kernel_rfl
def qN (l:List Nat):∀a∈l.map sv,a.oneCell'=true:=by
 intro a b;obtain ⟨c,_,rfl⟩:=zAy.1 b;rfl
def dI (t:List UInt8):List Nat:=t.map (fun a=>a.toNat+1)
def aJ (t:List UInt8):List Nat:=dI t++ [0]
def aR (t):(aJ t).length=t.length+1:=by simp [aJ,dI]
def fB (t):∀c∈aJ t,c < 257:=by
 intro c b;unfold aJ dI at b;rcases zCp.1 b with a | a;obtain ⟨e,_,rfl⟩:=zAy.1 a;have:=e.toNat_lt;omega;simp at a;omega
def pN (a:UInt8) (w:World):
 Calls prog 102 #[.int .u8 (a.toNat:Int)] w fun b w'=>b=.returned (.int .i64 ((a.toNat+1:Nat):Int))/\Below w.heap.size w w':=by
 have e:=a.toNat_lt;have c:IntKind.i64.wrap (a.toNat:Int)=(a.toNat:Int):=by rw [wI0];omega
 go_enter func102,ntmps102;go_wp2;go_ret;exact ⟨fR oM,kh _ _⟩
def yS (k aj:Nat) (f) (m s B:Nat) (t w) (y:Bk w k 22 #[.slice f m s]) (x:Rd w B 1 f m (t.map bv)) (a5:B<=w.heap.size) (al:m<=1000):
 Calls prog 79 #[.slice (some k) 1 1] w fun H w'=>∃g j,H=.returned (.slice g (m+1) j)/\Made w' w.heap.size 3 1 g (m+1) j ((aJ t).map sv)/\Below w.heap.size w w':=by
 obtain ⟨Y,L,V,W,X⟩:=info_parts gN;have U:t.length=m:=by simpa using x.1
 have a4:w.cell? k=some (.slice f m s):=(y.cell 0).trans rfl;have a8:=y.lt;obtain ⟨a3,F⟩:=hqq2 (x.mono a5) U;clear y x U;go_enter func79,ntmps79;go_wp2_with fail;go_loopw [3,10] (fun D e wr=>∃a:Nat,a<=1/\e=.int .i64 a/\wr.ownsRow w.heap.size 3 1 D (if a=0 then 0 else m) ((if a=0 then [] else dI t).map sv)/\Below w.heap.size w wr) (fun _ e _=>1 -(intOf e).toNat)
 case atStart=>exact ⟨0,by omega,rfl,kj _ _ _ _,kh _ _⟩
 case round=>
  obtain ⟨a,a9,rfl,b,c⟩:=hrel;have p:=c.size;rcases a with _ | a
  · have ai:wr.cell? k=some (.slice f m s):=(c.cell a8).trans a4;obtain ⟨i,a1⟩:=hqq2 b c;clear b c;go_wp2_with fail;obtain ⟨G,a6⟩:∃G,G=wr:=⟨_,rfl⟩;subst a6;go_loopw [3,16] (fun D e Z=>∃a:Nat,a<=m/\e=.int .i64 a/\Z.ownsRow w.heap.size 3 1 D a ((dI (t.take a)).map sv)/\Below w.heap.size w Z) (fun _ e _=>m -(intOf e).toNat)
    case atStart=>exact ⟨0,by omega,rfl,i.out,a1.out⟩
    case round=>
        obtain ⟨a,a9,rfl,b,c⟩:=hrel;have p:=c.size;by_cases N:a < m
        · have ab:a < t.length:=(by rw [F.out];exact N);obtain ⟨q,A⟩:∃q,t[a]?=some q:=⟨t[a],zAa ab⟩;obtain ⟨ah,am,an,rfl,ak,z,a7⟩:=(a3.out.below c).get N;rw [zAf,A] at z;simp at z;subst z;have T:t.take (a+1)=t.take a++ [q]:=(by rw [zAv,A];rfl);unfold bv at a7;obtain ⟨a0,r⟩:=hqq2 T b;clear T A b;go_wp2_with fail;refine (pN q _).mono ?_;rintro H w1 ⟨rfl,J⟩;have O:=aQ r.out J;have K:=c.trans (J.mono p);have S:=K.size;have E:=lhd O;clear O;go_wp2_with (at_builtin;refine bL _ rfl (.tmp 20) (.tmp 23) _ rfl w.heap.size 3 Y (.int .i64 0) 1 8 underlying39 L V W X rfl dC _ a _ rfl E.out rfl rfl (by simp [Value.oneCell']) (by unfold maxLen;omega) oM S ?_;intro af ag v o ae I);have u:=aZ K E.out o S;clear o I;go_roundw
          case rel=>refine ⟨a+1,by omega,by go_num,?_,u⟩;rw [a0.out,dI,zAz,zAz];exact v
          case measure=>simp [intOf];omega
        · have ac:a=m:=oM;subst ac;rw [zAg (by rw [F.out];omega)] at b;have r:=lhd b;clear b;go_wp2_with fail;go_roundw
          case rel=>exact ⟨1,by omega,by go_num,r.out,c⟩
          case measure=>simp [intOf]
  · have aa:a=0:=oM;subst aa;rw [zBw oM,zBw oM] at b;have i:=lhd b;have M:(aJ t).map sv=(dI t).map sv++ [.int .i64 0]:=(by simp [aJ,sv]);have a2:=lhd M;clear b M;go_wp2_with (at_builtin;refine bL _ rfl (.tmp 27) (.tmp 28) _ rfl w.heap.size 3 Y (.int .i64 0) 1 8 underlying39 L V W X rfl dC _ m _ rfl i.out rfl rfl (by simp [Value.oneCell']) (by unfold maxLen;omega) oM p ?_;intro af ag v o ae I);have u:=aZ c i.out o p;obtain ⟨g,j,rfl,ad⟩:=aS v;go_ret;exact ⟨g,j,rfl,by rw [a2.out];exact ad,u⟩
def aAo (i:Option Addr) (n b B:Nat) (l:List Nat) (w:World) (g:Rd w B 1 i n (l.map sv)) (p:B<=w.heap.size) (F:n<=1073741824):
 Calls prog 80 #[.slice i n b] w fun o w'=>∃e f,o=.returned (.slice e n f)/\Made w' w.heap.size 3 1 e n f (l.map sv)/\Below w.heap.size w w':=by
 obtain ⟨D,s,y,z,A⟩:=info_parts gN;have G:∀(w:World) (a:Option Addr) (n b:Nat),(binOp .eql 39 (.slice a n b) (.slice none 0 0)).run prog w=.ok (.bool a.isNone) w:=fun w a n b=>Lib.run_eql_slice_nil w _ _ a n b _ _ underlying39;rcases i with _ | a
 · have x:n=0:=by
    rcases zBa n with c | c;exact c
    · obtain ⟨_,_,c,_⟩:=g.2 c;cases c
   subst x;have u:l= []:=(by have:=g.1;simp only [zBc,Nat.zero_mul] at this;exact zBk this);subst u;go_enter func80,ntmps80;go_wp2;go_ret;exact ⟨none,0,rfl,⟨kj _ _ _ _,Rd.nil _ _ _ _,zAs _,zAp _⟩,kh _ _⟩
 · have k:=lhd g;clear g;go_enter func80,ntmps80;go_wp2_with (at_builtin;refine bF _ rfl (.tmp 5) (.tmp 6) _ rfl w.heap.size 3 D (.int .i64 0) 1 8 underlying39 s y z A rfl dC (.slice (some w.heap.size) 0 0) 0 [] rfl (kE w 3 1) w.heap.size (some a) n b _ rfl ((k.out.mono p).alloc nL _) (qN _) (by unfold maxLen;omega) oM (by simp) ?_;intro H I j r E);have q:=aZ ((kh w.heap.size w).alloc nL _) (kE w 3 1) r (by simp);rw [zBi,List.nil_append] at j;obtain ⟨e,f,rfl,v⟩:=aS j;go_wp2;go_ret;exact ⟨e,f,rfl,v,q⟩
structure OrdAt (W:World) (gw gn gr:Nat) (w n:Nat) (A:Option Addr) (c:Nat) (R:List Nat):Prop where
 wide:W.cell? gw=some (.int .i64 (w:Int))
 len:W.cell? gn=some (.int .i64 (n:Int))
 rank:W.cell? gr=some (.slice A n c)
 rd:Rd W W.heap.size 1 A n (R.map sv)
def OrdAt.drewN {c gw gn gr w n e b R} (a:OrdAt c gw gn gr w n b e R) (f):OrdAt (c.drewN f) gw gn gr w n b e R:=⟨a.wide,a.len,a.rank,a.rd⟩
def OrdAt.at {g gw gn gr w n j f R} (k:OrdAt g gw gn gr w n f j R) {e} (p:e < n):∃(a b c:Nat),f=some ⟨a,b,none⟩/\R[e]?=some c/\g.cell? ⟨a,b+e,none⟩=some (.int .i64 (c:Int)):=by
 obtain ⟨a,b,s,rfl,r,i,o⟩:=k.rd.get p;rw [zAf] at i;obtain ⟨c,q,rfl⟩:=Option.map_eq_some_iff.1 i;exact ⟨a,b,c,rfl,q,o⟩
def aAO (gw gn gr w n j i R b f) (a:OrdAt f gw gn gr w n i j R) (E:w<=1000) (D:n<=1000) (A:b < n):
 Calls prog 81 #[(b:Int),gw,gn,gr] f fun k w'=>k=.returned (.int .i64 (aN R (b+w)))/\∃r,w'=f.drewN r:=by
 have y:R.length=n:=by simpa using a.rd.1
 have u:=a.wide;have v:=a.len;have x:=a.rank;by_cases o:b+w < n
 · have q:(b:Int)+(w:Int) < (n:Int):=oM;obtain ⟨s,F,G,rfl,g,z⟩:=a.at o;have c:=lI g;have e:=lhd c;clear g a c;go_enter func81,ntmps81;go_wp2;go_ret;exact ⟨by rw [e.out];first | rfl | simp_all,0,rfl⟩
 · have q:¬((b:Int)+(w:Int) < (n:Int)):=oM;have c:=nM (l:=R) (p:=b+w) oM;have e:=lhd c;clear a c;go_enter func81,ntmps81;go_wp2;go_ret;exact ⟨by rw [e.out];rfl,0,rfl⟩
def aAN (gw gn gr I w n s:Nat) (O R) (e f:Nat) (c) (a:OrdAt c gw gn gr w n O s R) (a3:c.cell? I=some (.func (.func 81) #[] #[gw,gn,gr])) (L:w<=1000) (K:n<=1000) (o:∀Y∈R,Y<=1000) (M:e < n) (N:f < n):
 Calls prog 82 #[(e:Int),(f:Int),gr,I] c fun i w'=>i=.returned (.int .i64 (kX (aN R) w e f))/\∃b,w'=c.drewN b:=by
 have a1:=a.rank;have F:=lhd a;obtain ⟨Z,a8,j,J,x,a4⟩:=a.at M;obtain ⟨a0,a9,b,k,g,a5⟩:=a.at N;rw [J] at k;injection k with k;injection k with e1 e2;subst e1 e2;have a6:=o j (zAd x);have a7:=o b (zAd g);have G:=lI x;have H:=lI g;have r:∀y,-1<=aN R y/\aN R y<=1000:=by
  intro y;unfold aN;split
  · next z hz=>
    have:=o z (zAd hz);omega
  omega
 have b1:=r (e+w);have b2:=r (f+w);have v:kX (aN R) w e f=if (j:Int)≠(b:Int) then (j:Int) -(b:Int) else aN R (e+w) - aN R (f+w):=by unfold kX;rw [G,H]
 obtain ⟨A,p⟩:=eqx (aN R (e+w));obtain ⟨D,q⟩:=eqx (aN R (f+w));rw [p,q] at v;rw [p] at b1;rw [q] at b2;rw [v];subst J;obtain ⟨S,T⟩:=hqq2 p q;clear a x g G H r v p q o;by_cases V:j=b
 · subst V;rw [zBw (by simp)];go_enter func82,ntmps82;go_wp2;go_quiet (fail);go_wp2;have W:∀m:Nat,Calls prog 81 #[(e:Int),gw,gn,gr] (c.drewN (nq+m)) fun i E=>i=.returned (.int .i64 A)/\∃n,E=c.drewN (nq+n):=fun m=>by have a:=aAO gw gn gr w n s _ R e (c.drewN (nq+m)) (F.out.drewN _) L K M;rw [S.out] at a;exact a.mono fun _ _ ⟨u,b,g⟩=>⟨u,m+b,by rw [g,World.drewN_drewN,Nat.add_assoc]⟩
   have X:∀m:Nat,Calls prog 81 #[(f:Int),gw,gn,gr] (c.drewN (nq+m)) fun i E=>i=.returned (.int .i64 D)/\∃n,E=c.drewN (nq+n):=fun m=>by have a:=aAO gw gn gr w n s _ R f (c.drewN (nq+m)) (F.out.drewN _) L K N;rw [T.out] at a;exact a.mono fun _ _ ⟨u,b,g⟩=>⟨u,m+b,by rw [g,World.drewN_drewN,Nat.add_assoc]⟩
   have a2:IntKind.i64.wrap (A - D)=A - D:=(by rw [wI0];omega);go_quiet ((first |(with_reducible exact W _)|(with_reducible exact X _)));go_wp2;go_ret;exact ⟨fR (by first | omega | rfl),_,World.drewN_drewN _ _ _⟩
 · have U:¬((j:Int)=(b:Int)):=oM;rw [zBx U];go_enter func82,ntmps82;go_wp2;go_quiet (fail);go_wp2;go_quiet (fail);go_wp2;go_ret;exact ⟨fR oM,_,World.drewN_drewN _ _ _⟩
end
section
open Go.RowKit Go
section
variable {P : Program} {ops : Array Oper} {Q : Exit -> Act -> World -> Prop} {md : Region.Mode}
def wO (P:Program) (ops:Array Oper) (Q:Exit->Act->World->Prop) (md:Region.Mode) (C:(Operand->Value)->World->Prop) (o:Nat->Value->World->World->Prop) (p:Nat->World->Prop) (i:Nat->(Operand->Value)->Value->World->Prop) (c:Act) (b:Nat) (j:Oper):Prop:=
 ∀a w,C a.eval w->p b w->a.tmps.size=c.tmps.size->a.defers=c.defers->
    (∀t,qO md ops b t=true->a.tmps.getD t undef=c.tmps.getD t undef)->
    (∀e∈j.after,Region.binds md e=true->∀k d,ops[e.on]?=some k->k.dst=some d->i e.on a.eval (a.tmps.getD d undef) w)->
    ∀g:Act->World->Prop,(∀f w',o b f w w'->i b a.eval f w'->g (a.put j.dst f) w')->wpOp P ops Q b g a w
def cY {C:(Operand->Value)->World->Prop} {q:Nat->Value->World->World->Prop} {r:Nat->World->Prop} {o:Nat->(Operand->Value)->Value->World->Prop} {s e b} (H:ops[e]?=some b) (F:b.guard=none) (x:∀a:Operand->Value,∀w,C a w->r e w->(∀f,a (.const f)=f)->(∀u,a (.func u)=.func (.func u) #[] #[])->(∀t,qO md ops e t=true->a (.tmp t)=s.eval (.tmp t))->
  (∀k d,b.after.toList.any (fun g=>Region.binds md g&&g.on==k)=true->((ops[k]?).bind (·.dst))=some d->o k a (a (.tmp d)) w)->
  ∀c i,c.eval=a->(∀f w',q e f w w'->o e a f w'->i (c.put b.dst f) w')->Oper.upon P b c i Q ((execOp a b).run P w)):wO P ops Q md C q r o s e b:=by
 intro c w A D O N I K i z;unfold wpOp;simp only [H];have L:Region.wanted b (yielded ops c.tmps)=true:=by unfold Region.wanted;rw [F]
 rw [zBx L];refine .inl (x c.eval w A D (fun _=>rfl) (fun _=>rfl) (fun t J=>I t J) (fun k d G j=>?_) c i rfl z);obtain ⟨g,E,v⟩:=List.any_eq_true.1 G;simp only [zBd,zCq] at v;obtain ⟨y,rfl⟩:=v;cases p:ops[g.on]? with
 | none=>rw [p] at j;cases j
 | some M=>rw [p] at j;exact K g (Array.mem_toList_iff.1 E) y M d p j
def aKQ {m} (o:iT md ops m=true):∀c b e,upB md ops c b e=true->e < b:=by
 intro c
 induction c with
 | zero=>intro b e a;cases a
 | succ c p=>
   intro b e a;unfold upB at a;cases g:ops[b]? with
   | none=>rw [g] at a;cases a
   | some r=>
     rw [g] at a;obtain ⟨j,k,f⟩:=List.any_eq_true.1 a;simp only [zBd,Bool.or_eq_true,zCq] at f;have q:=(eG o g).1 j (Array.mem_toList_iff.1 k) f.1;rcases f.2 with i | i;omega;have:=p _ _ i;omega
def aD2 {m} (e:iT md ops m=true) (c a b) (g:b<=a) (f:upB md ops c b a=true):False:=by
 have:=aKQ e c b a f;omega
structure LooseF (md:Region.Mode) (ops:Array Oper) (C:(Operand->Value)->World->Prop) (U:Nat->World->Prop) (V:Nat->(Operand->Value)->Value->World->Prop) (a0:Act) (listed:Array Bool) (a:Act) (w:World):Prop where
 world:C a.eval w
 pre:∀j o,ops[j]?=some o->listed.getD j false=false->U j w
 size:a.tmps.size=a0.tmps.size
 defers:a.defers=a0.defers
 old:∀t,(∀k p,ops[k]?=some p->p.dst=some t->listed.getD k false=false)->a.tmps.getD t undef=a0.tmps.getD t undef
 val:∀i o,ops[i]?=some o->listed.getD i false=true->∃v,(∀d,o.dst=some d->a.tmps.getD d undef=v)/\V i a.eval v w
 shut:∀k p,ops[k]?=some p->listed.getD k false=true->∀e∈p.after,Region.binds md e=true->listed.getD e.on false=true
def aAV (C:(Operand->Value)->World->Prop) (X:Nat->Value->World->World->Prop) (K:Nat->World->Prop) (A:Nat->(Operand->Value)->Value->World->Prop) (v a2) (a0:iT md ops v.tmps.size=true) (af:C v.eval a2) (ah:∀a,K a a2) (ae:∀b c x y g w w',ops[b]?=some c->(∀d,c.dst=some d->y (.tmp d)=g)->(∀t,c.dst≠some t->y (.tmp t)=x (.tmp t))->C x w->X b g w w'->C y w') (ag:∀a b g w w',a≠b->upB md ops ops.size b a=false->K a w->X b g w w'->K a w') (aq:∀b c x y g w,ops[b]?=some c->(∀t,c.dst≠some t->y (.tmp t)=x (.tmp t))->A b x g w->A b y g w) (ar:∀a b c x y g a9 w w',ops[b]?=some c->(∀t,c.dst≠some t->y (.tmp t)=x (.tmp t))->a≠b->upB md ops ops.size a b=false->A a x g w->C x w->X b a9 w w'->A a y g w') (au:∀b c,ops[b]?=some c->wO P ops Q md C X K A v b c) (al:∀j w,C j.eval w->j.tmps.size=v.tmps.size->j.defers=v.defers->
  (∀t,(∀(s:Nat) (o:Oper),ops[s]?=some o->o.dst≠some t)->j.tmps.getD t undef=v.tmps.getD t undef)->
  (∀a c,ops[a]?=some c->∃g,(∀d,c.dst=some d->j.tmps.getD d undef=g)/\A a j.eval g w)->Q .normal j w):
 wpAny P md ops Q ops.size (Array.replicate ops.size false) v a2:=by
 have aa:∀e j w,e.size=ops.size->(∀a,a < ops.size->e.getD a false=true)->LooseF md ops C K A v e j w->Q .normal j w:=by intro e j w I Y f;refine al j w f.world f.size f.defers (fun t H=>f.old t fun s o i p=>absurd p (H s o i)) fun a c k=>f.val a c k (Y a (zAh.1 k).1)
 have az:∀e:Array Bool,e.size=ops.size->Region.ready md ops e= []->∀a,a < ops.size->e.getD a false=true:=by
  intro e I W a
  induction a using Nat.strongRecOn with
  | _ a a8=>
    intro r;cases L:e.getD a false with
    | true=>rfl
    | false=>
      exfalso;have a1:a∈Region.ready md ops e:=(by refine mem_ready.2 ⟨?_,ops[a],zAq r,fun q F E=>?_⟩;have T:a < e.size:=oM;simp [T] at L⊢;exact L;have:=(eG a0 (zAq r)).1 q F E;exact a8 q.on this oM);rw [W] at a1;cases a1
 have ay:∀N e j w,e.size=ops.size->e.toList.count false<=N->LooseF md ops C K A v e j w->wpAny P md ops Q N e j w:=by
  intro N
  induction N with
  | zero=>
    intro e j w I L f
    have Y:∀a,a < ops.size->e.getD a false=true:=by
        intro a r;have T:a < e.size:=oM;cases J:e.getD a false with
        | true=>rfl
        | false=>
          exfalso;have:false∈e.toList:=(by simp [T] at J;exact J ▸(by simp));have:=List.count_pos_iff.2 this;omega
    refine ⟨?_,aa e j w I Y f⟩;cases W:Region.ready md ops e with
    | nil=>rfl
    | cons a l=>
      exfalso;have r:a∈Region.ready md ops e:=(by rw [W];exact List.mem_cons_self ..);obtain ⟨O,c,k,_⟩:=mem_ready.1 r;have M:a < ops.size:=(zAh.1 k).1;have z:=Y a M;have T:a < e.size:=oM;simp [T] at O z;rw [O] at z;cases z
  | succ N a8=>
    intro e j w I L f;refine ⟨fun W=>aa e j w I (az e I W) f,fun b an=>?_⟩;obtain ⟨O,c,k,a4⟩:=mem_ready.1 an;have M:b < ops.size:=(zAh.1 k).1;have G:b < e.size:=oM;have D:e.getD b false=false:=by simp [G] at O⊢;exact O
    have a7:∀g t,c.dst≠some t->(j.put c.dst g).eval (.tmp t)=j.eval (.tmp t):=by
        intro g t H;cases V:c.dst with
        | none=>rfl
        | some d=>
          have S:d≠t:=fun q=>H (by rw [V,q]);simp [Act.eval,Act.put,zAm,S]
    have ak:∀g d,c.dst=some d->(j.put c.dst g).eval (.tmp d)=g:=(by intro g d p;have a5:=((eG a0 k).2 d p).1;have:d < j.tmps.size:=(by rw [f.size];exact a5);simp [Act.eval,Act.put,zAm,p,this]);refine au b c k j w f.world (f.pre b c k D) f.size f.defers (fun t H=>f.old t fun s o i p=>?_) (fun q F E o d i p=>by obtain ⟨g,z,ad⟩:=f.val q.on o i (a4 q F E);rw [z d p];exact ad) _ fun g w' a3 ai=>?_
    · rcases wH H i p with rfl |⟨q,F,E,am⟩;exact D
      · cases u:e.getD s false with
        | false=>rfl
        | true=>
          have:=f.shut s o i u q F E;rw [am,D] at this;cases this
    · refine a8 _ _ _ (by simpa using I) ?_ ?_;have J:e.toList[b]'(by simpa using G)=false:=(by simp [G] at D⊢;exact D);rw [Array.toList_setIfInBounds,List.count_set (by simpa using G),J];simp;have a1:false∈e.toList:=J ▸ zBj _;have:=List.count_pos_iff.2 a1;rw [<-Array.count_toList];omega
      · have av:(j.put c.dst g).tmps.size=v.tmps.size:=by
          rw [<-f.size];cases c.dst with
          | none=>rfl
          | some d=>simp [Act.put]
        refine ⟨ae b c _ _ g w w' k (ak g) (a7 g) f.world a3,fun a o i r=>?_,av,?_,fun t H=>?_,fun a o i r=>?_,fun s o i u q F E=>?_⟩
        · have ab:a≠b:=fun q=>by rw [q,bP _ _ G] at r;cases r
          rw [getD_set_ne false ab.symm] at r;refine ag a b g w w' ab ?_ (f.pre a o i r) a3;cases ax:upB md ops ops.size b a with
          | false=>rfl
          | true=>
            have:=iU f.shut _ b a c k a4 ax;rw [r] at this;cases this
        · rw [<-f.defers];cases c.dst <;> rfl
        · have ao:c.dst≠some t:=fun p=>by have:=H b c k p;rw [bP _ _ G] at this;cases this
          have ap:=f.old t fun s o i p=>by
           have:=H s o i p;cases u:e.getD s false with
           | false=>rfl
           | true=>
             by_cases ac:b=s
             · subst ac;rw [D] at u;cases u
             · rw [getD_set_ne false ac,u] at this;cases this
          rw [<-ap];cases V:c.dst with
          | none=>rfl
          | some d=>
            have S:d≠t:=fun f=>ao (by rw [V,f]);simp [Act.put,zAm,S]
        · rcases eX _ _ _ r with rfl | Z
          · rw [k] at i;injection i with i;subst i;refine ⟨g,fun d p=>?_,aq _ _ _ _ _ _ k (a7 g) ai⟩;have a5:=((eG a0 k).2 d p).1;rw [p];have:d < j.tmps.size:=(by rw [f.size];exact a5);simp [Act.put,zAm,this]
          · by_cases a6:a=b
            · subst a6;rw [D] at Z;cases Z
            obtain ⟨a9,aw,J⟩:=f.val a o i Z
            have aj:upB md ops ops.size a b=false:=by
              cases L:upB md ops ops.size a b with
              | false=>rfl
              | true=>
                exfalso;have:=iU f.shut _ a b o i (f.shut a o i Z) L;rw [D] at this;cases this
            refine ⟨a9,fun d p=>?_,ar _ _ _ _ _ _ _ _ _ k (a7 g) a6 aj J f.world a3⟩;rw [<-aw d p];cases V:c.dst with
            | none=>rfl
            | some d'=>
              have S:d'≠d:=fun f=>a6 (((eG a0 k).2 d' V).2 a o i (f ▸ p));simp [Act.put,zAm,S]
        rcases eX _ _ _ u with rfl | u;rw [k] at i;injection i with i;subst i;have z:=a4 q F E;by_cases U:s=q.on;rw [<-U];exact bP _ _ G _;rw [getD_set_ne false U];exact z;have z:=f.shut s o i u q F E;by_cases U:b=q.on;rw [<-U];exact bP _ _ G _;rw [getD_set_ne false U];exact z
 refine ay _ _ _ _ (by simp) (by simp) ⟨af,fun b _ _ _=>ah b,rfl,rfl,fun _ _=>rfl,fun a c k r=>?_,fun s o i u=>?_⟩
 · have M:a < ops.size:=(zAh.1 k).1;simp [M] at r
 · have M:s < ops.size:=(zAh.1 i).1;simp [M] at u
def aAU (u) (C:(Operand->Value)->World->Prop) (o:Nat->Value->World->World->Prop) (p:Nat->World->Prop) (g:Nat->(Operand->Value)->Value->World->Prop) (j q) (H:ops.toList.filterMap (·.dst)=u) (K:iT md ops j.tmps.size=true) (A:C j.eval q) (F:∀a,p a q) (z:∀b f c i e w w',ops[b]?=some f->(∀d,f.dst=some d->i (.tmp d)=e)->(∀t,f.dst≠some t->i (.tmp t)=c (.tmp t))->C c w->o b e w w'->C i w') (E:∀a b e w w',a≠b->upB md ops ops.size b a=false->p a w->o b e w w'->p a w') (M:∀b f c i e w,ops[b]?=some f->(∀t,f.dst≠some t->i (.tmp t)=c (.tmp t))->g b c e w->g b i e w) (O:∀a b f c i e W w w',ops[b]?=some f->(∀t,f.dst≠some t->i (.tmp t)=c (.tmp t))->a≠b->upB md ops ops.size a b=false->g a c e w->C c w->o b W w w'->g a i e w') (S:∀b f,ops[b]?=some f->wO P ops Q md C o p g j b f) (I:∀(c:Operand->Value) w,C c w->(∀a d,((ops[a]?).bind (·.dst))=some d->g a c (c (.tmp d)) w)->(∀a,a < ops.size->∃e,g a c e w)->Q .normal (dK c u j) w):
 wpAny P md ops Q ops.size (Array.replicate ops.size false) j q:=by
 refine aAV C o p g j q K A F z E M O S fun r w D T G L y=>?_;have s:=I r.eval w D (fun a d k=>by
  cases x:ops[a]? with
  | none=>rw [x] at k;cases k
  | some f=>
    rw [x] at k;obtain ⟨e,s,v⟩:=y a f x;have:=s d k;change g a r.eval (r.tmps.getD d undef) w;rw [this];exact v) (fun a J=>by
  obtain ⟨e,_,v⟩:=y a _ (zAq J);exact ⟨e,v⟩)
 rw [<-mE r j u T G fun t U=>L t fun X V N k=>U ?_] at s;exact s;rw [<-H];exact List.mem_filterMap.2 ⟨V,Array.mem_toList_iff.2 (Array.mem_of_getElem? N),k⟩
end
def blk?:Value->Option Nat
 | .pointer (some a)=>some a.block
 | .slice (some a) _ _=>some a.block
 | _=>none
def aDY (e:List Nat) (c:Operand->Value) (w:World):Prop:=
 (∀b∈e,∀a,blk? (c (.tmp b))=some a->a < w.heap.size)/\∀b∈e,∀t∈e,b≠t->∀a,blk? (c (.tmp b))=some a->blk? (c (.tmp t))≠some a
def yE {e c w} (i:(e.all fun a=>(blk? (c (.tmp a))).isNone)=true):aDY e c w:=by
 have j:∀a∈e,blk? (c (.tmp a))=none:=fun a b=>by simpa using zBf.1 i a b
 refine ⟨fun a b g f=>?_,fun a b _ _ _ g f=>?_⟩<;>(rw [j a b] at f;cases f)
def aJD (b:Value) (w w':World):Prop:=∀a,blk? b=some a->w.heap.size<=a/\a < w'.heap.size
def aAQ (e:List Nat) (ops:Array Oper) (c:World->World->Prop) (b a:Nat) (f:Value) (w w':World):Prop:=w.heap.size<=w'.heap.size/\(a=b->c w w')/\(a≠b->Grow w w')/\∀d∈e,((ops[a]?).bind (·.dst))=some d->aJD f w w'
def dQ {c ops} {f:World->World->Prop} {b a p w w'} (e:Grow w w') (o:(a==b)=false) (k:(c.all fun d=>((ops[a]?).bind (·.dst))!= some d)=true):aAQ c ops f b a p w w':=
 ⟨e.size,fun g=>by simp [g] at o,fun _=>e,fun d i j=>by have:=zBf.1 k d i;simp [j] at this⟩
def kG {i ops} {f:World->World->Prop} {a c e w w'} (b:Grow w w') (k:(c==a)=false) (j:aJD e w w'):aAQ i ops f a c e w w':=
 ⟨b.size,fun g=>by simp [g] at k,fun _=>b,fun _ _ _=>j⟩
def aIQ {c ops} {b:World->World->Prop} {a o w w'} (f:b w w') (k:w.heap.size<=w'.heap.size) (j:(c.all fun d=>((ops[a]?).bind (·.dst))!= some d)=true):aAQ c ops b a a o w w':=
 ⟨k,fun _=>f,fun e=>absurd rfl e,fun d g i=>by have:=zBf.1 j d g;simp [i] at this⟩
abbrev KP:=List Nat×((Operand->Value)->Value->World->Prop)
def k0 (a:Value->World->Prop):KP:=([],fun _ b w=>a b w)
def kEq (t:Nat):KP:=([t],fun a b _=>b=a (.tmp t))
def kLk (b c:Nat) (e:Value->Value->World->Prop):KP:=([b,c],fun a _ w=>e (a (.tmp b)) (a (.tmp c)) w)
def aDS (a:KP):Prop:=∀b c:Operand->Value,(∀t∈a.1,c (.tmp t)=b (.tmp t))->∀e w,a.2 b e w->a.2 c e w
def aEU (b):aDS (k0 b):=fun _ _ _ _ _ a=>a
def aFS (t):aDS (kEq t):=fun f a c e w b=>by
 show e=a (.tmp t);rw [c t (by simp [kEq])];exact b
def aKl (a b) (f:Value->Value->World->Prop):aDS (kLk a b f):=fun i c e j w g=>by
 show f (c (.tmp a)) (c (.tmp b)) w;rw [e a (by simp [kLk]),e b (by simp [kLk])];exact g
def aE8 (R:World->World->Prop) (b:KP):Prop:=∀a c w w',b.2 a c w->R w w'->b.2 a c w'
def jU {R:World->World->Prop} {b} (c:∀a w w',b a w->R w w'->b a w'):aE8 R (k0 b):=fun _ a w w' e f=>c a w w' e f
def vV (R:World->World->Prop) (a):aE8 R (k0 (is a)):=fun _ _ _ _ b _=>b
def aCn (R:World->World->Prop):aE8 R (k0 cJ):=fun _ _ _ _ _ _=>trivial
def rH (R:World->World->Prop) (t):aE8 R (kEq t):=fun _ _ _ _ a _=>a
def rG {R:World->World->Prop} {i j} {a:Value->Value->World->Prop} (e:∀b c w w',a b c w->R w w'->a b c w'):aE8 R (kLk i j a):=fun _ _ w w' f g=>e _ _ w w' f g
def VsQ (l:List KP) (b:Nat) (a:Operand->Value) (c:Value) (w:World):Prop:=(l.getD b (k0 cJ)).2 a c w
def aFz (l:List KP) (a):l.getD a (k0 cJ)∈l∨l.getD a (k0 cJ)=k0 cJ:=by
 rw [zAb];cases b:l[a]? with
 | none=>exact .inr rfl
 | some c=>exact .inl (zAd b)
def wQ {P:Program} {ops:Array Oper} {Q:Exit->Act->World->Prop} {md:Region.Mode} (S s:List Nat) (E:Nat) (F:World->World->Prop) (C:World->Prop) (l:List KP) (G:Act) (L:World)
 (r:ops.toList.filterMap (·.dst)=S) (X:iT md ops G.tmps.size=true)
 (ai:((List.range ops.size).all fun a=>(List.range ops.size).all fun b=>match ops[b]? with
  | some e=>upB md ops ops.size a b||(l.getD a (k0 cJ)).1.all fun t=>e.dst != some t
  | none=>true)=true)
 (a7:C L) (a5:aDY s G.eval L) (a6:∀w w',C w->(Grow w w'∨F w w')->C w')
 (ad:∀I∈l,aDS I) (O:∀I∈l,aE8 Grow I) (al:∀I∈l.eraseIdx E,aE8 F I)
 (am:∀b e,ops[b]?=some e->wO P ops Q md (fun c w=>C w/\aDY s c w) (aAQ s ops F E) (fun _ _=>True) (VsQ l) G b e)
 (af:∀(c:Operand->Value) w,C w->aDY s c w->(∀a d,((ops[a]?).bind (·.dst))=some d->VsQ l a c (c (.tmp d)) w)->(∀a,a < ops.size->∃f,VsQ l a c f w)->Q .normal (dK c S G) w):
 wpAny P md ops Q ops.size (Array.replicate ops.size false) G L:=by
 have ab:∀ {b f w w'},aAQ s ops F E b f w w'->Grow w w'∨F w w':=fun {b f w w'} p=>by by_cases x:b=E;exact .inr (p.2.1 x);exact .inl (p.2.2.1 x)
 have ak:∀b,upB md ops ops.size b b=false:=by
  intro b;cases V:upB md ops ops.size b b with
  | false=>rfl
  | true=>exact (aD2 X _ _ _ nL V).elim
 have ae:∀a,aDS (l.getD a (k0 cJ)):=fun a=>by rcases aFz l a with p | p;exact ad _ p;rw [p];exact aEU _
 have W:∀a b e (c o:Operand->Value) f w,a < ops.size->ops[b]?=some e->(∀t,e.dst≠some t->o (.tmp t)=c (.tmp t))->upB md ops ops.size a b=false->VsQ l a c f w->VsQ l a o f w:=by intro a b e c o f w A k q U D;have i:=zBf.1 (zBf.1 ai a (by simpa using A)) b (by simpa using (zAh.1 k).1);simp only [k,U,Bool.false_or] at i;exact ae a c o (fun t K=>q t (by have:=zBf.1 i t K;simpa using this)) f w D
 refine aAU S (fun c w=>C w/\aDY s c w) (aAQ s ops F E) (fun _ _=>True) (fun a c f w=>a < ops.size->VsQ l a c f w) G L r X ⟨a7,a5⟩ (fun _=>trivial) (fun b e c o f w w' k z q p H=>⟨a6 w w' p.1 (ab H),?_⟩) (fun _ _ _ _ _ _ _ _ _=>trivial) (fun b e c o f w k q D x=>W b b e c o f w x k q (ak b) (D x)) (fun a b e c o f ap w w' k q ag U D V H A=>?_) (fun b e k a0 w i j a1 a2 a3 a4 Z a8=>am b e k a0 w i j a1 a2 a3 (fun M q ac an d Y z=>a4 M q ac an d Y z (zAh.1 Y).1) Z (fun f w' a9 aa=>a8 f w' a9 fun _=>aa)) (fun c w p i j=>af c w p.1 p.2 (fun a d z=>i a d z (by
  cases k:ops[a]? with
  | none=>rw [k] at z;cases z
  | some e=>exact (zAh.1 k).1)) (fun a A=>(j a A).imp fun f D=>D A))
 · have ao:=H.1;obtain ⟨i,j⟩:=p.2;have T:∀g∈s,e.dst=some g->aJD (o (.tmp g)) w w':=fun g y r=>by rw [z g r];exact H.2.2.2 g y (by rw [k];exact r)
   refine ⟨fun g y u v=>?_,fun g y t K O u v J=>?_⟩;by_cases r:e.dst=some g;exact (T g y r u v).2;rw [q g r] at v;have:=i g y u v;omega;by_cases r:e.dst=some g;have N:e.dst≠some t:=fun M=>O (by rw [r] at M;injection M);rw [q t N] at J;have:=(T g y r u v).1;have:=i t K u J;omega;rw [q g r] at v;by_cases N:e.dst=some t;have:=(T t K N u J).1;have:=i g y u v;omega;rw [q t N] at J;exact j g y t K O u v J
 · have i:=W a b e c o f w A k q U (D A);unfold VsQ at i⊢;by_cases x:b=E
   · subst x
     have aj:l.getD a (k0 cJ)∈l.eraseIdx b∨l.getD a (k0 cJ)=k0 cJ:=by
        rw [zAb];cases ah:l[a]? with
        | none=>exact .inr rfl
        | some I=>exact .inl (List.mem_eraseIdx_iff_getElem?.2 ⟨a,ag,ah⟩)
     rcases aj with j | j;exact al _ j o f w w' i (H.2.1 rfl)
     · rw [j];trivial
   · rcases aFz l a with j | j;exact O _ j o f w w' i (H.2.2.1 x)
     · rw [j];trivial
end
section
open Go.RowKit Go Go.Sort
def sufLt (l:List Nat) (a b:Nat):Prop:=∃w,ltW (aN l) w a b
def aBd {a:Nat->Int} {w w' b c} (e:ltW a w b c) (j:w<=w'):ltW a w' b c:=by
 obtain ⟨g,i,f⟩:=e;exact ⟨g,by omega,f⟩
def sufLt.asymm {l c e} (a:sufLt l c e) (b:sufLt l e c):False:=by
 obtain ⟨w,a⟩:=a;obtain ⟨w',b⟩:=b;exact (aBd a (Nat.le_max_left w w')).asymm (aBd b (Nat.le_max_right w w'))
def sufLt.trans {l c e f} (a:sufLt l c e) (b:sufLt l e f):sufLt l c f:=by
 obtain ⟨w,a⟩:=a;obtain ⟨w',b⟩:=b;exact ⟨_,(aBd a (Nat.le_max_left w w')).trans (aBd b (Nat.le_max_right w w'))⟩
structure IsSuf (l rs:List Nat):Prop where
 perm:rs.Perm (List.range l.length)
 sorted:rs.Pairwise (sufLt l)
def IsSuf.len {l a} (b:IsSuf l a):a.length=l.length:=by simpa using b.perm.length_eq
def IsSuf.lt {l a} (b:IsSuf l a) {p} (c:p∈a):p < l.length:=by simpa using b.perm.mem_iff.1 c
def IsSuf.mem {l b} (c:IsSuf l b) {a} (e:a < l.length):a∈b:=c.perm.mem_iff.2 (by simpa using e)
def IsSuf.nodup {l a} (b:IsSuf l a):a.Nodup:=b.perm.nodup_iff.2 List.nodup_range
def IsSuf.unique {l c e} (a:IsSuf l c) (b:IsSuf l e):c=e:=by
 refine List.Perm.eq_of_pairwise (le:=sufLt l) ?_ a.sorted b.sorted (a.perm.trans b.perm.symm);intro i j _ _ f g;exact (f.asymm g).elim
def fM (m:Nat) (a:Fin (m+1)):Value:=.int .i64 ((a.val:Nat):Int)
def mQ (m) (a:Fin (m+1)):(fM m a).oneCell'=true:=rfl
section
variable {α : Type} [Inhabited α] {enc : α -> Value} {w : World} {blk : Nat} {t : TypeId} {d d' : Array α}
def aCW (d:Array α) (a) (b:a < d.size):d[a]! =d[a]:=getElem!_pos d a b
def aA8 (c:d'.size=d.size):putCells enc 0 d' (d.map enc)=d'.map enc:=by
 apply Array.ext
 · simp [putCells,c]
 · intro e f a;have b:e < d'.size:=(by simpa using a);simp [putCells,b,aCW]
def aJQ (a:Bk w blk t (d.map enc)) (e:d'.size=d.size) (n) (f:Array Obj):Bk (sortWorld enc w blk 0 n d' f) blk t (d'.map enc):=by
 have c:=a.lt;unfold Bk at a⊢;have b:(putRow enc (Sort.ahead w n) blk 0 d').heap[blk]?=some (.cells (d'.map enc) t (0,0)):=by show (w.heap.modify blk _)[blk]?=_;rw [Array.getElem?_modify,zBx rfl,a];simp only [Option.map_some,onCells];rw [aA8 e]
 unfold sortWorld;rw [heap_grow_old _ _ (by show blk < (w.heap.modify blk _).size;simpa using c)];exact b
def kB (j:blk < w.heap.size) (i n) (d':Array α) (b:Array Obj):Keep (fun c=>c=blk) w (sortWorld enc w blk i n d' b):=by
 refine ⟨rfl,rfl,rfl,?_,fun a f g=>?_⟩
 · show w.heap.size<=((w.heap.modify blk _)++b).size;simp
 · unfold sortWorld;rw [heap_grow_old _ _ (by show a < (w.heap.modify blk _).size;simpa using f)];show (w.heap.modify blk _)[a]?=_;rw [Array.getElem?_modify,zBw (fun e=>g e.symm)]
def aJj (a:Bk w blk t (d.map enc)):Holds enc w blk 0 d:=by
 intro c b;rw [zBi];refine ⟨?_,a.frozen c⟩;rw [a.cell];simp [b,aCW]
end
def xI {α:Type} [Inhabited α] {d d':Array α} (a:PermIn 0 d.size d d'):d'.toList.Perm d.toList:=by
 have e:=a.2.2;have b:d'.extract 0 d.size=d':=by rw [<-a.1];exact Array.extract_size
 have c:d.extract 0 d.size=d:=Array.extract_size;rwa [b,c] at e
def eK {m:Nat} (d:Array (Fin (m+1))) (a:Nat):Nat:=(d[a]!).val
structure RowsOk (m:Nat) (d:Array (Fin (m+1))):Prop where
 size:d.size=m+1
 perm:d.toList.Perm (List.finRange (m+1))
def lQ {m} {d:Array (Fin (m+1))} {i} (a:i < d.size):(d.toList.map (·.val))[i]?=some (eK d i):=by
 rw [zAf,Array.getElem?_toList,zAq a];simp [eK,aCW d i a]
section
variable {m : Nat} {d : Array (Fin (m + 1))}
def RowsOk.lt (b:RowsOk m d) (a):eK d a < m+1:=(d[a]!).isLt
def RowsOk.vals (c:RowsOk m d):(d.toList.map (·.val)).Perm (List.range (m+1)):=by
 have a:=c.perm.map (·.val);have b:(List.finRange (m+1)).map (·.val)=List.range (m+1):=by
  apply List.ext_getElem
  · simp
  · intro f a e;simp
 rwa [b] at a
def RowsOk.nodup (a:RowsOk m d):(d.toList.map (·.val)).Nodup:=a.vals.nodup_iff.2 List.nodup_range
def RowsOk.inj (a:RowsOk m d) {i j} (b:i < m+1) (e:j < m+1) (c:eK d i=eK d j):i=j:=by
 refine (List.getElem?_inj (l:=d.toList.map (·.val)) (by simpa [a.size] using b) a.nodup).1 ?_;rw [lQ (by rw [a.size];exact b),lQ (by rw [a.size];exact e),c]
def RowsOk.sur (c:RowsOk m d) {p} (k:p < m+1):∃a,a < m+1/\eK d a=p:=by
 have g:p∈d.toList.map (·.val):=c.vals.mem_iff.2 (by simpa using k);obtain ⟨a,e,j⟩:=List.getElem_of_mem g;have f:a < m+1:=by simpa [c.size] using e
 refine ⟨a,f,?_⟩;have b:=lQ (d:=d) (i:=a) (by rw [c.size];exact f);rw [zAa e,j] at b;injection b with b;exact b.symm
def RowsOk.cell (b:RowsOk m d) {a} (c:a < m+1):(d.map (fM m))[a]?=some (.int .i64 ((eK d a:Nat):Int)):=by
 have:a < d.size:=by rw [b.size];exact c
 simp [fM,eK,this,aCW]
def RowsOk.of_perm {d':Array (Fin (m+1))} (a:RowsOk m d) (b:PermIn 0 d.size d d'):RowsOk m d':=
 ⟨b.1.trans a.size,(xI b).trans a.perm⟩
def RowsOk.suf (c:RowsOk m d) {l} (q:l.length=m+1) {w} (r:∀a b,a < b->b < m+1->ltW (aN l) w (eK d a) (eK d b)):IsSuf l (d.toList.map (·.val)):=by
 refine ⟨by rw [q];exact c.vals,?_⟩;rw [zAr];intro a b g j p;have o:a < m+1:=by simpa [c.size] using g
 have k:b < m+1:=by simpa [c.size] using j
 have e:=lQ (d:=d) (i:=a) (by rw [c.size];exact o);have f:=lQ (d:=d) (i:=b) (by rw [c.size];exact k);rw [zAa g] at e;rw [zAa j] at f;injection e with e;injection f with f;rw [e,f];exact ⟨w,r a b p k⟩
end
def xC (m:Nat):Array (Fin (m+1)):=(List.finRange (m+1)).toArray
def aIf (m):RowsOk m (xC m):=⟨by simp [xC],by simp [xC]⟩
def aIr {n:Nat} {cs:Array Value} {f:Nat->Nat} {v:Nat->Nat} (z:n<=cs.size) (r:∀a,a < n->f a < n) (q:∀a,a < n->cs[f a]?=some (.int .i64 ((v a:Nat):Int))) (s:∀g,g < n->∃b,b < n/\f b=g):
 ∃R:List Nat,R.length=n/\(∀a,a < n->R[f a]?=some (v a))/\(∀(a:Nat) k,(R.map sv)[a]?=some k->cs[a]?=some k)/\∀u∈R,∃a,a < n/\u=v a:=by
 let p:Nat->Nat:=fun g=>match cs[g]? with
  | some (.int _ o)=>o.toNat
  | _=>0
 have i:∀a,a < n->p (f a)=v a:=by intro a e;show (match cs[f a]? with | some (.int _ o)=>o.toNat | _=>0)=v a;rw [q a e];simp
 refine ⟨(List.range n).map p,by simp,fun a e=>?_,fun a k j=>?_,fun u y=>?_⟩
 · simp [r a e,i a e]
 have e:a < n:=(by have:=(zAc.1 j).1;simpa using this);obtain ⟨b,c,rfl⟩:=s a e;simp [r b c,i b c] at j;rw [q b c,<-j];rfl;obtain ⟨g,x,rfl⟩:=zAy.1 y;obtain ⟨b,c,rfl⟩:=s g (by simpa using x);exact ⟨b,c,i b c⟩
def cfF (m w:Nat) (R:List Nat) (a b:Fin (m+1)):Int:=kX (aN R) w a.val b.val
def aKS {l R:List Nat} {w:Nat} (m:Nat) (b:RankOk (aN l) (aN R) w):SWO (ltOf (cfF m w R)) where
 irrefl x:=by unfold ltOf cfF;rw [decide_eq_false_iff_not,vZ b];exact fun b=>b.irrefl
 trans x y z h1 h2:=by
  unfold ltOf cfF at*
  rw [decide_eq_true_iff,vZ b] at*
  exact h1.trans h2
 ntrans x y z h1 h2:=by
  unfold ltOf cfF at*
  rw [decide_eq_false_iff_not,vZ b] at*
  intro e;rcases oY (a:=aN l) (w+w) x.val y.val with c | c | c;exact h1 c;exact h2 (ltW.eq_left c.symm e);exact h2 (c.trans e)
def aH3 {l R w m} {d:Array (Fin (m+1))} (c:RankOk (aN l) (aN R) w) (g:d.size=m+1) (f:SortedIn (ltOf (cfF m w R)) 0 (m+1) d) (a) (e:a+1 < m+1):¬ltW (aN l) (w+w) (eK d (a+1)) (eK d a):=by
 have b:=f a (a+1) (zAp _) oM e;unfold ltOf cfF at b;rw [decide_eq_false_iff_not,vZ c] at b;exact b
end
section
open Go.RowKit Go
open Go.Sort (SortedIn PermIn SWO Holds)
def nR (n:Nat) (i:n<=1000000) (w):(Instr.makeSlice 39 (.int .i64 (n:Int)) (.int .i64 (n:Int))).run prog w=.ok (.slice (some w.heap.size) n n) (w.alloc (.cells (Array.replicate n (.int .i64 0)) 3)):=by
 obtain ⟨g,b,c,e,f⟩:=info_parts gN;have:=run_make (P:=prog) w 39 3 g (.int .i64 0) underlying39 b c .i64 .i64 n n oM (Int.le_refl _) (by rw [f];omega) oM;rw [this,e];have a:madeCells #[o0] n=Array.replicate n (.int .i64 0):=by apply Array.ext';rw [toList_madeCells_one];simp
 simp only [Value.cells,zBr,zBl];rw [a]
def jL (n b:Nat):Array Value:=((List.range n).map fun a=>Value.int .i64 (((if a < b then a else 0:Nat)):Int)).toArray
def xX (n a):(jL n a).size=n:=by simp [jL]
def aEP (n):jL n 0=Array.replicate n (.int .i64 0):=by
 apply Array.ext
 · simp [jL]
 · intro c a b;simp [jL]
def aEQ (n a) (g:a < n):(jL n a).setIfInBounds a (.int .i64 (a:Int))=jL n (a+1):=by
 apply Array.ext
 · simp [jL]
 · intro e i f;rw [Array.getElem_setIfInBounds (by simpa [jL] using f)];by_cases b:a=e
   · subst b;simp [jL]
   · rw [zBw b];simp only [jL,List.getElem_toArray,List.getElem_map,List.getElem_range];by_cases c:e < a
     · rw [zBx c,zBx oM]
     · rw [zBw c,zBw oM]
def aGP (m):jL (m+1) (m+1)=(xC m).map (fM m):=by
 apply Array.ext
 · simp [jL,xC]
 · intro c a e;have b:c < m+1:=(by simpa [jL] using a);simp [jL,xC,fM,b]
def aFM {w b c a n B} (i:Bk w b c a) (j:B<=b) (g:a.size=n) (e:n<=maxLen):Made w B c 1 (some ⟨b,0,none⟩) n n a.toList:=by
 have f:w.ownsRow B c 1 (.slice (some b) n n) n a.toList:=⟨by simp [g],.inr ⟨b,n,a,rfl,j,i,zAs _,e,by omega,by rw [zAg (by simp [g])]⟩⟩;exact ⟨f,Rd.of_own f,zAs _,e⟩
def aJY {m} (d:Array (Fin (m+1))):(d.map (fM m)).toList=(d.toList.map (·.val)).map sv:=by
 simp [fM,sv]
def aAC {f:Array Value} {c e:Nat->Nat} {b g:Nat} (j:∀a,a < b->f[c a]?=some (.int .i64 ((e a:Nat):Int))) (o:c b < f.size) (k:∀a,a < b->c a≠c b) (p:e b=g) (a:Nat) (r:a < b+1):(f.setIfInBounds (c b) (.int .i64 (g:Int)))[c a]?=some (.int .i64 ((e a:Nat):Int)):=by
 by_cases i:a=b
 · subst i;rw [zCd,zBx rfl,zBx o,p]
 rw [zCd,zBw (fun q=>k a oM q.symm)];exact j a oM
structure RInv (B0:Nat) (w0:World) (m n:Nat) (l:List Nat) (gn gr gx:Nat) (wr:World) (gw g6 g7 c6 c7 wd:Nat) (d:Array (Fin (m+1))) (R:List Nat):Prop where
 wide:Bk wr gw 3 #[(wd:Int)]
 len:Bk wr gn 3 #[(n:Int)]
 box:Bk wr gr 39 #[.slice (some g6) n c6]
 rank:∃cs:Array Value,Bk wr g6 3 cs/\n<=cs.size/\∀(j:Nat) u,(R.map sv)[j]?=some u->cs[j]?=some u
 next:∃cs:Array Value,Bk wr g7 3 cs/\n<=cs.size
 rows:Bk wr gx 3 (d.map (fM m))
 ok:RowsOk m d
 ap:gx≠gw/\gx≠gn/\gx≠g6/\gx≠g7/\g7≠gw/\g7≠gn/\g7≠g6/\g6≠gw/\g6≠gn
 lo:B0<=gx/\B0<=g6/\B0<=g7/\B0<=gr
 cap:n<=c6/\n<=c7
 rlen:R.length=n
 rle:∀r∈R,r<=1000
 rk:RankOk (aN l) (aN R) wd
 wd1:1<=wd
 wdn:wd<=n
 below:Below B0 w0 wr
structure SetT (B:Nat) (T:TypeId) (w w':World):Prop where
 below:Below B w w'
 other:∀b t cs,t≠T->Bk w b t cs->Bk w' b t cs
 one:∀b c,Bk w b T #[c]->∃c',Bk w' b T #[c']
def SetT.set {B f w a i} (k:Bk w a f #[i]) (o:B<=a) (e):SetT B f w (w.setCell a e):=by
 refine ⟨bR.setCell o _,fun g t r q b=>?_,fun g j b=>?_⟩;exact b.far (fun c=>q (by subst c;exact (aP b k).1)) _;by_cases c:g=a;subst c;exact ⟨e,b.set 0 e⟩;exact ⟨j,b.far (p:=a) c _⟩
section
variable {B0 : Nat} {w0 : World} {m n : Nat} {l : List Nat} {gn gr gx : Nat} {wr w' : World} {gw g6 g7 c6 c7 wd : Nat} {d d' : Array (Fin (m + 1))} {R : List Nat}
def aCI {w:World} {e n:Nat} {R:List Nat} (j:R.length=n) (g:∃a:Array Value,Bk w e 3 a/\n<=a.size/\∀(b:Nat) c,(R.map sv)[b]?=some c->a[b]?=some c):Rd w w.heap.size 1 (some ⟨e,0,none⟩) n (R.map sv):=by
 obtain ⟨a,f,o,i⟩:=g;refine ⟨by simp [j],fun _=>⟨e,0,rfl,f.lt,fun b c k=>?_⟩⟩;rw [zBi,f.cell];exact i b c k
def RInv.ordk (a:RInv B0 w0 m n l gn gr gx wr gw g6 g7 c6 c7 wd d R) (b:Keep (fun g=>g=gx) wr w'):OrdAt w' gw gn gr wd n (some ⟨g6,0,none⟩) c6 R:=by
 obtain ⟨c,e,f,p,q,r,s,u,v⟩:=a.ap;obtain ⟨i,j,k,o⟩:=a.rank;exact ⟨((b.bk a.wide c.symm).cell 0).trans rfl,((b.bk a.len e.symm).cell 0).trans rfl,((b.bk a.box (Bk.ne a.box a.rows dC)).cell 0).trans rfl,aCI a.rlen ⟨i,b.bk j f.symm,k,o⟩⟩
def RInv.keepx (a:RInv B0 w0 m n l gn gr gx wr gw g6 g7 c6 c7 wd d R) (b:Keep (fun c=>c=gx) wr w') (v:Bk w' gx 3 (d'.map (fM m))) (u:RowsOk m d'):RInv B0 w0 m n l gn gr gx w' gw g6 g7 c6 c7 wd d' R:=by
 obtain ⟨e,f,g,i,x,y,z,A,D⟩:=a.ap;obtain ⟨j,o,p,q⟩:=a.rank;obtain ⟨k,r,s⟩:=a.next
 exact ⟨b.bk a.wide e.symm,b.bk a.len f.symm,b.bk a.box (Bk.ne a.box a.rows dC),⟨j,b.bk o g.symm,p,q⟩,⟨k,b.bk r i.symm,s⟩,v,u,a.ap,a.lo,a.cap,a.rlen,a.rle,a.rk,a.wd1,a.wdn,
  a.below.trans (b.to_below (by have:=a.lo.1;have:=a.rows.lt;omega) (fun c F E=>by have:=a.lo.1;omega))⟩
def RInv.keep7 (a:RInv B0 w0 m n l gn gr gx wr gw g6 g7 c6 c7 wd d R) (b:Keep (fun e=>e=g7) wr w') (r:∃c:Array Value,Bk w' g7 3 c/\n<=c.size):RInv B0 w0 m n l gn gr gx w' gw g6 g7 c6 c7 wd d R:=by
 obtain ⟨s,u,v,f,g,i,j,x,y⟩:=a.ap;obtain ⟨c,k,o,p⟩:=a.rank;obtain ⟨z,q,D⟩:=a.next
 exact ⟨b.bk a.wide g.symm,b.bk a.len i.symm,b.bk a.box (Bk.ne a.box q dC),⟨c,b.bk k j.symm,o,p⟩,r,b.bk a.rows f,a.ok,a.ap,a.lo,a.cap,a.rlen,a.rle,a.rk,a.wd1,a.wdn,
  a.below.trans (b.to_below (by have:=a.lo.1;have:=a.rows.lt;omega) (fun e E A=>by have:=a.lo.2.2.1;omega))⟩
def RInv.grow (a:RInv B0 w0 m n l gn gr gx wr gw g6 g7 c6 c7 wd d R) (c:Below wr.heap.size wr w'):RInv B0 w0 m n l gn gr gx w' gw g6 g7 c6 c7 wd d R:=
 a.keep7 (kF c) (by
  obtain ⟨e,b,f⟩:=a.next;exact ⟨e,b.below c b.lt,f⟩)
end
def oF (I m k B t w) (a6:Rd w B 1 I m (t.map bv)) (e7:B<=w.heap.size) (fe:m<=200):
 Calls prog 45 #[.slice I m k] w fun q w'=>∃dE aw ab,IsSuf (aJ t) dE/\q=.returned (.slice aw (m+1) ab)/\Made w' w.heap.size 3 1 aw (m+1) ab (dE.map sv)/\Below w.heap.size w w':=by
 have dr:t.length=m:=by simpa using a6.1
 obtain ⟨dK,cC⟩:=hqq2 a6 dr;clear a6 dr;go_enter func45,ntmps45;go_wp2_with fail;obtain ⟨n,bX⟩:=eqx (m+1);have c3:=yS w.heap.size 0 I m k w.heap.size t (w.alloc (.cells #[.slice I m k] 22)) (ke _ _ _) ((dK.out.mono e7).alloc nL _) (by simp) oM;rw [bX] at c3;have fg:n<=201:=oM;have eg:1<=n:=oM;have x:=lhd bX;clear bX;refine c3.mono ?_;clear c3;rintro q w1 ⟨bl,bE,rfl,di,d2⟩;have d3:=((kh w.heap.size w).alloc nL _).trans (d2.mono (by simp));obtain ⟨cw,aI⟩:=hqq2 di d3;clear di d2 d3;go_wp2_with fail;obtain ⟨gn,b4⟩:=eqx w1.heap.size;have aE:Bk (w1.alloc (.cells #[(n:Int)] 3)) gn 3 #[(n:Int)]:=b4 ▸ ke _ _ _;have b9:=cw.out.below (bR.alloc nL (.cells #[(n:Int)] 3));have bK:=aI.out.alloc aI.out.size (.cells #[(n:Int)] 3);have bJ:=b9.rd;have eX:w.heap.size<=gn:=b4 ▸ aI.out.size;rw [b4];generalize w1.alloc (.cells #[(n:Int)] 3)=W0 at aE b9 bK bJ⊢;clear cw aI b4;have d7:=aE.cell 0;have dv:=aE.lt;have bt:Hid (W0.cell? gn=some (.int .i64 (n:Int))):=lhd d7;obtain ⟨bu,cm,dH,aH,bp⟩:=hqq5 dv bJ b9 bK aE;clear d7 dv bJ b9 bK aE;refine wp_region_any kR ?_;refine wQ [18,19,20,21,22,23,6,5,7] [6,19,21,23] 8 (SetT W0.heap.size 39) (Below W0.heap.size W0) [k0 (is (n:Int)),k0 (fun e s=>∃b,e=.slice (some ⟨b,0,none⟩) n n/\W0.heap.size<=b/\Bk s b 3 (Array.replicate n (.int .i64 0))),k0 (is (.slice bl n bE)),k0 (fun e s=>∃I k,e=.slice I n k/\Made s W0.heap.size 3 1 I n k ((aJ t).map sv)),k0 (is (n:Int)),k0 (fun e s=>∃b,e=.slice (some ⟨b,0,none⟩) n n/\W0.heap.size<=b/\Bk s b 3 (Array.replicate n (.int .i64 0))),k0 (fun e s=>∃b k,e=.pointer (some ⟨b,0,none⟩)/\W0.heap.size<=b/\Bk s b 39 #[k]),kEq 19,kLk 6 21 (fun a7 e s=>∃b,a7=.pointer (some ⟨b,0,none⟩)/\W0.heap.size<=b/\Bk s b 39 #[e]),kEq 23] _ _ rfl kR kR (bR.drew) (yE rfl) (fun w w' J a=>a.elim (fun a=>J.trans (a.mono J.size)) (fun a=>J.trans a.below)) (by repeat' (first | exact aEU _ | exact aFS _ | exact aKl _ _ _ |(refine zAe.2 ⟨?_,?_⟩)|(intro H U;cases U))) (by repeat' (first | exact vV _ _ | exact aCn _ | exact rH _ _ | exact jU (fun _ _ _ ⟨b,z,r,A⟩ a=>⟨b,z,r,A.below a A.lt⟩)| exact jU (fun _ _ _ ⟨I,k,z,r⟩ a=>⟨I,k,z,r.below a⟩)| exact jU (fun _ _ _ ⟨b,k,z,r,A⟩ a=>⟨b,k,z,r,A.below a A.lt⟩)| exact jU (fun _ _ _ _ ⟨b,z,r,A⟩ a=>⟨b,z,r,A.below a A.lt⟩)| exact rG (fun _ _ _ ⟨b,z,r,A⟩ a=>⟨b,z,r,A.below a A.lt⟩)| exact rG (fun _ _ _ ⟨I,k,z,r⟩ a=>⟨I,k,z,r.below a⟩)| exact rG (fun _ _ _ ⟨b,k,z,r,A⟩ a=>⟨b,k,z,r,A.below a A.lt⟩)| exact rG (fun _ _ _ _ ⟨b,z,r,A⟩ a=>⟨b,z,r,A.below a A.lt⟩)|(refine zAe.2 ⟨?_,?_⟩)|(intro H U;cases U))) (by simp only [List.eraseIdx_cons_zero,List.eraseIdx_cons_succ,List.eraseIdx_nil];repeat' (first | exact vV _ _ | exact aCn _ | exact rH _ _ | exact jU (fun _ _ _ ⟨b,z,r,A⟩ a=>⟨b,z,r,a.other _ _ _ dC A⟩)| exact jU (fun _ _ _ ⟨I,k,z,r⟩ a=>⟨I,k,z,oX r fun V E Z=>a.other _ _ _ dC Z⟩)| exact jU (fun _ _ _ ⟨b,k,z,r,A⟩ a=>let ⟨ab,cV⟩:=a.one _ _ A;⟨b,ab,z,r,cV⟩)|(refine zAe.2 ⟨?_,?_⟩)|(intro H U;cases U))) ?_ ?_
 · refine aK ?_;refine aB (cY rfl rfl fun y _ K _ _ _ D _ _ _ _ L=>?_) ?_
   · obtain ⟨F,T⟩:=K;have e2:y (.tmp 4)=.pointer (some gn):=D 4 kR;clear D;have ea:=(F.cell (p:=gn) bu.out).trans bt.out;go_simp;exact L _ _ (dQ bR rfl rfl) rfl
   refine aB (cY rfl rfl fun _ _ K _ _ _ D G _ _ _ L=>?_) ?_
   · obtain ⟨F,T⟩:=K;have eI:_=_:=G 0 18 kR rfl;clear D;have ep:=nR n oM;go_simp;exact L _ _ (kG (bR.alloc nL _) rfl (fun b O=>by simp [blk?] at O;subst O;simp)) ⟨_,rfl,F.size,ke _ _ _⟩
   refine aB (cY rfl rfl fun y _ K _ _ _ D _ _ _ _ L=>?_) ?_
   · obtain ⟨F,T⟩:=K;have eM:y (.tmp 3)=.slice bl n bE:=D 3 kR;clear D;go_simp;exact L _ _ (dQ bR rfl rfl) rfl
   refine aB (cY rfl rfl fun _ _ K _ _ _ D G cG _ _ L=>?_) ?_
   · obtain ⟨F,T⟩:=K;have eJ:_=_:=G 2 20 kR rfl;clear D;go_simp;refine (aAo bl n bE W0.heap.size (aJ t) _ (cm.out.below F) F.size oM).mono ?_;rintro q fC ⟨aw,ab,rfl,bW,e8⟩;refine L _ _ (kG e8 rfl (fun b O=>?_)) ⟨aw,ab,rfl,bW.mono F.size⟩;obtain ⟨_,_,_,_,fp⟩:=aW bW.own;rcases aw with _ | cG
     · simp [blk?] at O
     obtain ⟨ew,dW,a5,_,b3⟩:=aW bW.own;injection a5 with a5;have:=b3 cG a5.symm;simp [blk?] at O;subst O;exact this
   refine aB (cY rfl rfl fun y _ K _ _ _ D _ _ _ _ L=>?_) ?_
   · obtain ⟨F,T⟩:=K;have e2:y (.tmp 4)=.pointer (some gn):=D 4 kR;clear D;have ea:=(F.cell (p:=gn) bu.out).trans bt.out;go_simp;exact L _ _ (dQ bR rfl rfl) rfl
   refine aB (cY rfl rfl fun _ _ K _ _ _ D G _ _ _ L=>?_) ?_
   · obtain ⟨F,T⟩:=K;have eL:_=_:=G 4 22 kR rfl;clear D;have ep:=nR n oM;go_simp;exact L _ _ (kG (bR.alloc nL _) rfl (fun b O=>by simp [blk?] at O;subst O;simp)) ⟨_,rfl,F.size,ke _ _ _⟩
   refine aB (cY rfl rfl fun _ _ K _ _ _ D _ _ _ _ L=>?_) ?_
   · obtain ⟨F,T⟩:=K;clear D;go_simp;exact L _ _ (kG (bR.alloc nL _) rfl (fun b O=>by simp [blk?] at O;subst O;simp)) ⟨_,_,rfl,F.size,ke _ _ _⟩
   refine aB (cY rfl rfl fun y av K _ _ _ D G _ _ _ L=>?_) ?_
   · obtain ⟨F,T⟩:=K;have cb:(fun e s=>∃b,e=.slice (some ⟨b,0,none⟩) n n/\W0.heap.size<=b/\Bk s b 3 (Array.replicate n (.int .i64 0))) (y (.tmp 19)) av:=G 1 19 kR rfl;clear D;clear cb;go_simp;exact L _ _ (dQ bR rfl rfl) (by first | exact e19.symm | rfl)
   refine aB (cY rfl rfl fun y av K _ _ _ D G _ _ _ L=>?_) ?_
   · obtain ⟨F,T⟩:=K;have ce:(fun e s=>∃b k,e=.pointer (some ⟨b,0,none⟩)/\W0.heap.size<=b/\Bk s b 39 #[k]) (y (.tmp 6)) av:=G 6 6 kR rfl;have cc:(fun e s=>∃I k,e=.slice I n k/\Made s W0.heap.size 3 1 I n k ((aJ t).map sv)) (y (.tmp 21)) av:=G 3 21 kR rfl;clear D;obtain ⟨b,k,e3,O,Z⟩:=ce;obtain ⟨ev,eC,e1,ff⟩:=cc;have c6:=Z.cell 0;have eN:=Z.frozen 0;have eW:=Z.lt;go_simp;exact L (.bool true) _ (aIQ (SetT.set Z O _) (by simp [World.setCell]) rfl) ⟨b,e3,O,by rw [e1];exact Z.set 0 _⟩
   refine aB (cY rfl rfl fun y av K _ _ _ D G _ _ _ L=>?_) ?_
   · obtain ⟨F,T⟩:=K;have cd:(fun e s=>∃b,e=.slice (some ⟨b,0,none⟩) n n/\W0.heap.size<=b/\Bk s b 3 (Array.replicate n (.int .i64 0))) (y (.tmp 23)) av:=G 5 23 kR rfl;clear D;clear cd;go_simp;exact L _ _ (dQ bR rfl rfl) (by first | exact e23.symm | rfl)
   exact aC
 · intro y a8 F T G d1;have cS:y (.tmp 5)=y (.tmp 19):=G 7 5 rfl;have ce:(fun e s=>∃b k,e=.pointer (some ⟨b,0,none⟩)/\W0.heap.size<=b/\Bk s b 39 #[k]) (y (.tmp 6)) a8:=G 6 6 rfl;have cT:y (.tmp 7)=y (.tmp 23):=G 9 7 rfl;have cb:(fun e s=>∃b,e=.slice (some ⟨b,0,none⟩) n n/\W0.heap.size<=b/\Bk s b 3 (Array.replicate n (.int .i64 0))) (y (.tmp 19)) a8:=G 1 19 rfl;have cc:(fun e s=>∃I k,e=.slice I n k/\Made s W0.heap.size 3 1 I n k ((aJ t).map sv)) (y (.tmp 21)) a8:=G 3 21 rfl;have cd:(fun e s=>∃b,e=.slice (some ⟨b,0,none⟩) n n/\W0.heap.size<=b/\Bk s b 3 (Array.replicate n (.int .i64 0))) (y (.tmp 23)) a8:=G 5 23 rfl;obtain ⟨fA,dB⟩:=d1 8 dC;have er:(fun a7 e s=>∃b,a7=.pointer (some ⟨b,0,none⟩)/\W0.heap.size<=b/\Bk s b 39 #[e]) (y (.tmp 6)) (y (.tmp 21)) a8:=dB;clear dB;simp only [zqq];clear G d1;obtain ⟨gx,bd,du,c8⟩:=cb;obtain ⟨g7,b2,eT,cZ⟩:=cd;obtain ⟨dG,c6,b0,bI⟩:=cc;obtain ⟨gr,dm,fl,c2⟩:=er;rw [b0] at c2;obtain ⟨g6,rfl,eS,cW⟩:∃g6,dG=some ⟨g6,0,none⟩/\W0.heap.size<=g6/\∃E:Array Value,Bk a8 g6 3 E/\n<=E.size/\∀(c:Nat) a7,((aJ t).map sv)[c]?=some a7->E[c]?=some a7:=by
    rcases bI.own.2 with ⟨J,_⟩|⟨b,eD,dY,J,r,A,cV,eQ,eR,e6⟩;injection J with b3 a5;omega
    · injection J with b3 a5 h10;refine ⟨b,b3,r,dY,A,by omega,fun c a7 bb=>?_⟩;rw [<-e6,zBs,Array.getElem?_toList] at bb;split at bb;exact bb
      · cases bb
   have d8:gx≠g7:=fun q=>T.2 19 (by simp) 23 (by simp) dC gx (by rw [bd];rfl) (by rw [b2,q];rfl);have d9:gx≠g6:=fun q=>T.2 19 (by simp) 21 (by simp) dC gx (by rw [bd];rfl) (by rw [b0,q];rfl);have da:g7≠g6:=fun q=>T.2 23 (by simp) 21 (by simp) dC g7 (by rw [b2];rfl) (by rw [b0,q];rfl);have eb:=bp.out.lt;have d4:=bp.out.below F eb;have dd:=aH.out.trans (F.mono aH.out.size);have eY:=aH.out.size;rw [<-aEP] at c8;have aj:n<=c6:=bI.cap;rw [cS,cT,bd,b2,dm];obtain ⟨aT,bn,ch,aQ,bq,a2⟩:=hqq6 c8 cZ cW c2 d4 dd;have cq:gx≠g7/\gx≠g6/\g7≠g6:=⟨d8,d9,da⟩;have cl:=lhd cq;clear cS cT bd b2 dm c8 cZ cW c2 d4 dd cq d8 d9 da F T ce b0 bI cm dH aH bp bt bu;go_wp2_with fail;go_loopw [26,8] (fun o _ wr=>∃a:Nat,a<=n/\o=.int .i64 a/\Bk wr gx 3 (jL n a)/\Keep (fun V=>V=gx) a8 wr) (fun o _ _=>n -(intOf o).toNat)
   case atStart=>exact ⟨0,by omega,rfl,aT.out,kf _ _⟩
   case round=>
    obtain ⟨a,ed,rfl,ah,a1⟩:=hrel;by_cases b8:a < n
    · have cH:=ah.cell a;have e4:=ah.frozen a;rw [zAq (by rw [xX];exact b8)] at cH;obtain ⟨aL,a4⟩:=hqq2 ah a1;clear ah a1;generalize (jL n a)[a]'(by rw [xX];exact b8)=u0 at cH;go_wp2_with fail;go_roundw
      case rel=>exact ⟨a+1,by omega,by go_num,by rw [<-aEQ _ _ b8];exact aL.out.set a _,a4.out.setCell (.inl rfl) _⟩
      case measure=>simp [intOf];omega
    · obtain rfl:n=a:=oM;obtain ⟨aL,a4⟩:=hqq2 ah a1;clear ah a1;go_wp2_with fail;obtain ⟨gw,bT⟩:=eqx wr.heap.size;have d5:Bk (wr.alloc (.cells #[(1:Int)] 3)) gw 3 #[(1:Int)]:=bT ▸ ke _ _ _
      have am:RInv w.heap.size w m n (aJ t) gn gr gx (wr.alloc (.cells #[(1:Int)] 3)) gw g6 g7 c6 n 1 (xC m) (aJ t):=by
         obtain ⟨cQ,cR,dZ⟩:=cl.out;obtain ⟨E,dw,el,em⟩:=ch.out;have an:=a4.out;have be:=an.size;have fs:=aT.out.lt;have ft:=bq.out.lt;have fu:=bn.out.lt;have eq:=dw.lt;have fx:=aQ.out.lt;refine ⟨d5,(an.bk bq.out (fun q=>by have:=du;omega)).alloc _,(an.bk aQ.out (fun q=>by subst q;exact Bk.ne aQ.out aT.out dC rfl)).alloc _,⟨E,(an.bk dw (fun q=>cR q.symm)).alloc _,el,em⟩,⟨_,(an.bk bn.out (fun q=>cQ q.symm)).alloc _,by simp⟩,?_,aIf m,?_,?_,⟨aj,zAs _⟩,?_,?_,aEo _,zAs _,eg,?_⟩;have:=aL.out;rw [<-x.out,aGP] at this;exact this.alloc _
         · refine ⟨?_,?_,cR,cQ,?_,?_,dZ,?_,?_⟩<;> omega
         · refine ⟨?_,?_,?_,?_⟩<;> omega
         · rw [aR,cC.out,x.out]
         intro cg a6;have:=fB t cg a6;omega;refine (a2.out.trans ?_).alloc oM _;exact an.to_below (by have:=a2.out.size;omega) (fun V Z q=>by have:=du;omega)
      rw [bT];generalize wr.alloc (.cells #[(1:Int)] 3)=W8 at am⊢;have ay:=lhd am;clear am d5 bT aL a4 cl ch bq aQ bn aT a2
      go_loopg [7,9] (n) (fun gk bh bi wr=>∃gw g6 g7 c6 c7 wd d R,bh=.slice (some ⟨g7,0,none⟩) n c7/\bi=.pointer (some ⟨gw,0,none⟩)/\n - wd<=gk/\RInv w.heap.size w m n (aJ t) gn gr gx wr gw g6 g7 c6 c7 wd d R)
      case atStart=>exact ⟨_,_,_,_,_,_,_,_,rfl,rfl,by omega,ay.out⟩
      case round=>
         clear ay;obtain ⟨gw,g6,g7,c6,c7,wd,d,R,rfl,rfl,eZ,am⟩:=hrel;have ay:=lhd am;clear am;go_wp2_with fail;obtain ⟨ae,bS⟩:=eqx wr.heap.size;have ag:Bk (wr.alloc (.cells #[.func (.func 81) #[] #[.pointer (some ⟨gw,0,none⟩),gn,gr]] 82)) ae 82 #[.func (.func 81) #[] #[.pointer (some ⟨gw,0,none⟩),gn,gr]]:=bS ▸ ke _ _ _;have N:=ay.out.grow ((kh wr.heap.size wr).alloc nL (.cells #[.func (.func 81) #[] #[.pointer (some ⟨gw,0,none⟩),gn,gr]] 82));rw [bS];generalize wr.alloc (.cells #[.func (.func 81) #[] #[.pointer (some ⟨gw,0,none⟩),gn,gr]] 82)=W1 at ag N⊢;have bO:d.size=n:=(by rw [N.ok.size,x.out]);have d6:CmpReads prog 82 #[gr,ae] (fM m) (cfF m wd R) gx 0 d.size W1:=fun u aq e0 eV bh bi=>by have a:=kB (enc:=fM m) N.rows.lt 0 u e0 aq;exact aAN gw gn gr ae wd n c6 (some ⟨g6,0,none⟩) R bh.val bi.val _ (N.ordk a) (((a.bk ag (Bk.ne ag N.rows dC)).cell 0).trans rfl) (by have:=N.wdn;omega) oM N.rle (by have:=bh.isLt;have:=x.out;omega) (by have:=bi.isLt;have:=x.out;omega)
         have c4:=Any.slices_SortFunc shSort (fM m) (mQ m) (cfF m wd R) (aKS m N.rk) 82 #[gr,ae] gx 0 n d W1 (enters_of func82 kR rfl) d6.lays (aJj N.rows) N.rows.lt oM;rw [bO] at c4;refine c4.mono ?_;clear c4 d6;rintro q aU ⟨rfl,d',nq,aq,bZ,c5,rfl⟩;have dl:RowsOk m d':=N.ok.of_perm (by rw [bO];exact bZ);have b5:=N.keepx (kB (enc:=fM m) N.rows.lt 0 nq d' aq) (aJQ N.rows bZ.1 nq aq) dl;have bL:=(kB (enc:=fM m) N.rows.lt 0 nq d' aq).bk ag (Bk.ne ag N.rows dC);generalize Go.Proofs.sortWorld (fM m) W1 gx 0 nq d' aq=aU at b5 bL⊢;have dp:∀o,o+1 < n->¬ltW (aN (aJ t)) (wd+wd) (eK d' (o+1)) (eK d' o):=(by rw [<-x.out] at c5⊢;exact fun o al=>aH3 b5.rk dl.size c5 o al);obtain ⟨cB,a9,cn⟩:=hqq3 dp b5 bL;clear dp N b5 ag bL bZ c5 bO ay bS;have aD:=x.out;have dh:=a9.out.ok.lt 0;have cP:aU.cell? gx=some (.int .i64 ((eK d' 0:Nat):Int)):=(a9.out.rows.cell 0).trans (a9.out.ok.cell oM);obtain ⟨dX,bg,dy⟩:=a9.out.next;obtain ⟨ar,bY⟩:=eqx (eK d' 0);rw [bY] at cP dh;have bF:=bg.cell ar;rw [zAq oM] at bF;have e5:=bg.frozen ar;generalize dX[ar]' oM=u7 at bF;have eh:ar < n:=oM;obtain ⟨cE,cy⟩:=hqq2 bg bY;clear bg bY aD dh;go_wp2_with fail;clear cP bF e5;go_loopw [12] (fun o dF=>∃a:Nat,1<=a/\a<=n/\o=.int .i64 a/\∃E:Array Value,Bk dF g7 3 E/\n<=E.size/\(∀c,c < a->E[eK d' c]?=some (.int .i64 ((cN (kX (aN R) wd) (eK d') c:Nat):Int)))/\Keep (fun V=>V=g7) aU dF) (fun o _=>n -(intOf o).toNat)
         case atStart=>refine ⟨1,by omega,by omega,rfl,_,cE.out.set ar _,by simpa using dy,fun c aG=>?_,(kf (fun V=>V=g7) aU).setCell (p:=⟨g7,ar,none⟩) (.inl rfl) _⟩;obtain rfl:c=0:=oM;rw [cy.out,zCd,zBx rfl,zBx oM];rfl
         case round=>
          clear cE cy eh dy;obtain ⟨a,fc,ed,rfl,E,a0,aF,ai,a1⟩:=hrel;have M:=a9.out.keep7 a1 ⟨E,a0,aF⟩;by_cases b8:a < n
          · obtain ⟨c,aG⟩:∃c,a=c+1:=⟨a - 1,by omega⟩;have aD:=x.out;have a3:wr.cell? ⟨gx,a,none⟩=some (.int .i64 ((eK d' a:Nat):Int)):=(M.rows.cell a).trans (M.ok.cell oM);have ac:wr.cell? ⟨gx,c,none⟩=some (.int .i64 ((eK d' c:Nat):Int)):=(M.rows.cell c).trans (M.ok.cell oM);have aX:=(a0.cell (eK d' c)).trans (ai c oM);have dA:=M.ok.lt a;have dz:=M.ok.lt c;have aA:=a0.cell (eK d' a);rw [zAq oM] at aA;have bH:=a0.frozen (eK d' a);generalize E[eK d' a]' oM=uk at aA;have aV:=(M.len.cell 0).trans rfl;have aZ:IntKind.i64.wrap ((a:Int) - 1)=(c:Int):=(by rw [wI0];omega);have ee:decide ((a:Int) < (n:Int))=true:=(by simp;omega);obtain ⟨S,c1⟩:=eqx (eK d' a);obtain ⟨au,c0⟩:=eqx (eK d' c);obtain ⟨e,bc⟩:=eqx (cN (kX (aN R) wd) (eK d') c);have ds:=uW (kX (aN R) wd) (eK d') 0 c;rw [zBi,bc] at ds;have fm:e<=1000:=(by have:cN (kX (aN R) wd) (eK d') 0=0:=rfl;omega);rw [c1] at a3 dA aA bH;rw [c0] at ac dz aX;rw [bc] at aX;have ej:S < n:=oM;have ei:au < n:=oM;have fb:c < n:=oM;obtain ⟨ax,X,aM,a4,g,az,cz,dM,aP⟩:=hqq9 a0 aF ai a1 M c1 c0 bc aG;clear a0 aF ai a1 M c1 c0 bc ds aD dA dz aG;go_wp2_with fail;refine wp_region_still_tail 14 kR kR ?_;simp only [List.take_succ_cons,List.take_zero,List.drop_succ_cons,List.drop_zero];change wpStill _ _ wr.drew (fun dO=>wpList _ _ _ _ dO wr.drew) _ _;have cK:wr.drew.cell? ⟨gx,a,none⟩=_:=a3;have cJ:wr.drew.cell? ⟨gx,c,none⟩=_:=ac;have cM:wr.drew.cell? ⟨g7,au,none⟩=_:=aX;have cO:wr.drew.cell? ⟨g7,S,none⟩=_:=aA;have cU:wr.drew.frozen? ⟨g7,S,none⟩=false:=bH;obtain ⟨br,bx,bw⟩:=hqq3 ax.out.drew a4.out.drew (g.out.keep7 (kf _ _).drew ⟨E,ax.out.drew,X.out⟩);clear a3 ac aX aA bH aV ax a4 g;generalize wr.drew=W5 at cK cJ cM cO cU br bx bw⊢
            iterate 14 still_step
            refine wpStill_nil ?_;go_wp2_with fail;have aj:=br.out.set S (.int .i64 (e:Int));have b6:=bx.out.setCell (p:=⟨g7,S,none⟩) (.inl rfl) (.int .i64 (e:Int));have W:=bw.out.keep7 ((kf (fun V=>V=g7) W5).setCell (p:=⟨g7,S,none⟩) (.inl rfl) (.int .i64 (e:Int))) ⟨_,aj,by simpa using X.out⟩
            have bM:=b6.bk cn.out (fun q=>by
               obtain ⟨eG,a5,_⟩:=a9.out.next;subst q;exact Bk.ne cn.out a5 dC rfl)
            generalize W5.setCell ⟨g7,S,none⟩ (.int .i64 (e:Int))=W6 at aj b6 W bM⊢;clear cK cJ cM cO cU br bx bw;have a3:W6.cell? ⟨gx,a,none⟩=some (.int .i64 (S:Int)):=(by rw [<-az.out];exact (W.rows.cell a).trans (W.ok.cell (by have:=x.out;omega)));have ac:W6.cell? ⟨gx,c,none⟩=some (.int .i64 (au:Int)):=(by rw [<-cz.out];exact (W.rows.cell c).trans (W.ok.cell (by have:=x.out;omega)));obtain ⟨bj,be⟩:=eqx (kX (aN R) wd au S);have ca:∀u:Nat,Calls prog 82 #[(au:Int),(S:Int),gr,ae] (W6.drewN u) fun q w'=>q=.returned (.int .i64 bj)/\∃cf,w'=W6.drewN cf:=fun u=>by have J:=aAN gw gn gr ae wd n c6 (some ⟨g6,0,none⟩) R au S (W6.drewN u) ((W.ordk (kf _ _)).drewN u) ((bM.drewN u).cell 0) (by have:=W.wdn;omega) oM W.rle ei ej;rw [be] at J;exact J.mono fun _ _ ⟨bP,cf,ba⟩=>⟨bP,u+cf,by rw [ba,World.drewN_drewN]⟩
            obtain ⟨aO,cu,dJ,dN⟩:=hqq4 aj b6 W be;have aY:((a:Int) - 1).toNat=c:=(by have:=aP.out;omega);have ad:(0:Int)<=(a:Int) - 1:=(by have:=aP.out;omega);clear aj b6 W bM be;go_quiet ((with_reducible exact ca _));have bQ:eK d' a < E.size:=(by rw [az.out];have:=X.out;omega);have bU:∀bf,bf < a->eK d' bf≠eK d' a:=fun bf fa q=>by have:=dJ.out.ok.inj (i:=bf) (j:=a) (by have:=x.out;omega) (by have:=x.out;omega) q;omega
            have ak:cN (kX (aN R) wd) (eK d') a=e+(if bj≠0 then 1 else 0):=(by rw [aP.out,<-dM.out];show cN _ _ c+(if kX (aN R) wd (eK d' c) (eK d' (c+1))≠0 then 1 else 0)=_;rw [<-aP.out,az.out,cz.out,dN.out]);obtain ⟨cr,ct⟩:=hqq2 bQ bU;by_cases c9:bj=0
            · subst c9;rw [zBw (by simp),zBq] at ak;have bs:=lhd ak;clear ak bQ bU a3 ac ca aY ad aZ;go_wp2_with fail;go_roundw
              case rel=>refine ⟨a+1,by omega,by omega,by go_num,_,aO.out.drewN _,by simpa using X.out,?_,cu.out.drewN _⟩;have:=aAC aM.out cr.out ct.out bs.out;rw [az.out] at this;exact this
              case measure=>simp [intOf];omega
            · rw [zBx c9] at ak;have bs:=lhd ak;have dW:W6.cell? ⟨g7,S,none⟩=some (.int .i64 (e:Int)):=(by rw [aO.out.cell,zCd,zBx rfl,zBx (by have:=X.out;omega)]);have eO:=aO.out.frozen S;have fn:IntKind.i64.wrap ((e:Int)+1)=((e+1:Nat):Int):=(by rw [wI0];omega);have fq:(bj==0)=false:=(by simpa using c9);clear ak bQ bU ac ca aY ad aZ;go_wp2_with fail;go_roundw
              case rel=>refine ⟨a+1,by omega,by omega,by go_num,_,(aO.out.drewN nq).set S _,by simpa using X.out,?_,(cu.out.drewN nq).setCell (p:=⟨g7,S,none⟩) (.inl rfl) _⟩;have:=aAC aM.out cr.out ct.out bs.out;rw [az.out] at this;rw [set_set];exact this
              case measure=>simp [intOf];omega
          · obtain rfl:n=a:=oM;have aD:=x.out;obtain ⟨u,ba⟩:∃u,n=u+1:=⟨n - 1,by omega⟩;obtain ⟨ao,b7⟩:=eqx (cN (kX (aN R) wd) (eK d') u);have db:=uW (kX (aN R) wd) (eK d') 0 u;rw [zBi,b7] at db;have fd:ao<=u:=(by have:cN (kX (aN R) wd) (eK d') 0=0:=rfl;omega);obtain ⟨H,U⟩:=eqx (eK d' u);have fi:H < n:=(by have:=M.ok.lt u;omega);have af:=M.box;have eE:=(M.len.cell 0).trans rfl;have ey:=af.cell 0;have e4:=af.frozen 0;have b1:∀b E,Bk wr b 3 E->Bk (wr.setCell gr (.slice (some ⟨g7,0,none⟩) n c7)) b 3 E:=fun b E J=>J.far (p:=gr) (Bk.ne J af dC) _;have a3:(wr.setCell gr (.slice (some ⟨g7,0,none⟩) n c7)).cell? ⟨gx,u,none⟩=some (.int .i64 (H:Int)):=(by rw [<-U];exact ((b1 _ _ M.rows).cell u).trans (M.ok.cell oM));have cL:(wr.setCell gr (.slice (some ⟨g7,0,none⟩) n c7)).cell? ⟨g7,H,none⟩=some (.int .i64 (ao:Int)):=(by rw [<-U,<-b7];exact ((b1 _ _ a0).cell _).trans (ai u oM));have aV:=((b1 _ _ M.len).cell 0).trans rfl;have cI:=(af.set 0 (.slice (some ⟨g7,0,none⟩) n c7)).cell 0;have bG:=((b1 _ _ M.wide).cell 0).trans rfl;have ef:u < n:=oM;have aZ:IntKind.i64.wrap ((n:Int) - 1)=(u:Int):=(by rw [wI0];omega);obtain ⟨bB,cv,ex,g,ax,X,aM,dI,ck⟩:=hqq9 ba b7 U M a0 aF ai af b1;have ee:decide ((n:Int) < (n:Int))=false:=(by simp);clear ba b7 U M a0 aF ai a1 af b1 aD db;go_wp2_with fail;have bN:=dI.out.set 0 (.slice (some ⟨g7,0,none⟩) n c7);have bV:=(kf (fun V=>V=gr) wr).setCell (p:=gr) (.inl rfl) (.slice (some ⟨g7,0,none⟩) n c7);have b1:=ck.out;generalize wr.setCell gr (.slice (some ⟨g7,0,none⟩) n c7)=W9 at a3 cL aV cI bG bN bV b1⊢;have dn:=b1 _ _ g.out.rows;have d0:=b1 _ _ ax.out;have dt:=b1 _ _ g.out.wide;have dj:=b1 _ _ g.out.len;obtain ⟨eF,dx,en,eo⟩:=g.out.rank;have cX:=b1 _ _ dx;have de:=g.out.below.trans (bV.to_below (by have:=g.out.lo.1;have:=g.out.rows.lt;omega) (fun V Z q=>by have:=g.out.lo.2.2.2;omega));obtain ⟨cp,cA,cj,cD,cx,ci,aa⟩:=hqq7 bN dn d0 dt dj cX de;clear bN bV b1 dn d0 dt dj cX de dx eo ck;have aY:((n:Int) - 1).toNat=u:=(by have:=bB.out;omega);have ad:(0:Int)<=(n:Int) - 1:=(by have:=bB.out;omega);have dk:∀o c,kX (aN R) wd o c=0↔eqW (aN (aJ t)) (wd+wd) o c:=aJ8 g.out.rk;have df:(aJ t).length=n:=(by rw [aR,cC.out,x.out]);obtain ⟨bA,Y⟩:=hqq2 dk df;clear dk df;go_quiet (fail);clear aY ad aZ a3 cL aV cI bG;obtain ⟨co,aS,bo,bC,bz,bm⟩:=hqq6 (cp.out.drewN nq) (cA.out.drewN nq) (cj.out.drewN nq) (cD.out.drewN nq) (cx.out.drewN nq) (ci.out.drewN nq);have dc:Below w.heap.size w (W9.drewN nq):=⟨aa.out.os,aa.out.tape,aa.out.output,aa.out.size,aa.out.block⟩;have a2:=lhd dc;clear dc cp cA cj cD cx ci aa;generalize W9.drewN nq=W10 at co aS bo bC bz bm a2⊢;by_cases dg:ao=u
            · subst dg;have dq:=g.out.ok.suf (l:=aJ t) (by rw [Y.out,x.out]) (w:=wd+wd) (fun o c ec aG=>aLn bA.out cB.out oM (by have:=bB.out;have:=cv.out;rw [show n - 1=ao by omega];exact this) o c ec (by have:=x.out;omega));have dL:=lhd dq;clear dq;go_wp2_with fail;go_ret;refine ⟨_,some ⟨gx,0,none⟩,n,dL.out,by rw [x.out];rfl,?_,a2.out⟩;rw [<-aJY];have:=aFM aS.out g.out.lo.1 (n:=n) (by simp [g.out.ok.size,x.out]) (by unfold maxLen;omega);have e9:∀bD,Made W10 w.heap.size 3 1 (some ⟨gx,0,none⟩) n n bD->Made W10 w.heap.size 3 1 (some ⟨gx,0,none⟩) (m+1) n bD:=fun bD J=>by rw [x.out];exact J
              exact e9 _ this
            · have fj:((ao:Int)==(u:Int))=false:=(by simp;omega);have fk:(ao==u)=false:=(by simp;omega);have bG:=bC.out.cell 0;have eH:=bC.out.lt;have fo:wd<=201:=(by have:=g.out.wdn;omega);go_wp2_with fail;have fh:wd+wd < n:=by rcases zBe (wd+wd) n with J | J;exact J;exfalso;apply dg;rw [<-cv.out];refine aKr (n:=n) (fun o al bP=>?_) u ef;have:=(bA.out _ _).1 bP;have eU:=x.out;refine aFG (l:=aJ t) (by rw [Y.out];exact J) (by rw [Y.out];have:=g.out.ok.lt o;omega) (by rw [Y.out];have:=g.out.ok.lt (o+1);omega) (fun q=>?_) this;have:=g.out.ok.inj oM oM q;omega
              go_roundg (n -(wd+wd))
              case measure=>have:=g.out.wd1;omega
              case rel=>
               obtain ⟨cF,dD,es,et,eu⟩:=aIr (cs:=E) (f:=eK d') (v:=cN (kX (aN R) wd) (eK d')) X.out (fun c _=>by have:=g.out.ok.lt c;have:=x.out;omega) aM.out (fun H U=>by
                obtain ⟨o,z,r⟩:=g.out.ok.sur (p:=H) (by have:=x.out;omega);exact ⟨o,by have:=x.out;omega,r⟩)
               have ek:RankOk (aN (aJ t)) (aN cF) (wd+wd):=(by refine aGv (by have:=g.out.wd1;omega) bA.out (fun o al=>cB.out o (by rw [<-Y.out];exact al)) (by rw [dD,Y.out]) (fun o al=>es o (by rw [<-Y.out];exact al)) (fun H U=>?_);obtain ⟨o,z,r⟩:=g.out.ok.sur (p:=H) (by have:=x.out;rw [Y.out] at U;omega);exact ⟨o,by have:=x.out;rw [Y.out];omega,r⟩);obtain ⟨ez,dP,dR,dS,eA,dT,dU,eB,dV⟩:=g.out.ap;have fz:=aS.out.lt;have fy:=g.out.wd1;have fv:=bo.out.lt;have eq:=bm.out.lt;have fw:=bz.out.lt;have ad:(wd:Int)*2=((wd+wd:Nat):Int):=oM;rw [ad];refine ⟨_,_,_,_,_,wd+wd,d',cF,rfl,rfl,zAs _,ke _ _ _,bz.out.alloc _,co.out.alloc _,⟨_,bo.out.alloc _,X.out,et⟩,⟨_,bm.out.alloc _,en⟩,aS.out.alloc _,g.out.ok,⟨?_,dP,dS,dR,?_,dV,dU.symm,?_,dT⟩,⟨g.out.lo.1,g.out.lo.2.2.1,g.out.lo.2.1,g.out.lo.2.2.2⟩,⟨g.out.cap.2,g.out.cap.1⟩,dD,?_,ek,by omega,by omega,a2.out.alloc a2.out.size _⟩;omega;omega;omega;intro cg a6;obtain ⟨c,aG,rfl⟩:=eu cg a6;have:=uW (kX (aN R) wd) (eK d') 0 c;rw [zBi] at this;have eP:cN (kX (aN R) wd) (eK d') 0=0:=rfl;omega
end
section
open Go.RowKit
def WaveAt.mono {w B B' b a} (f:WaveAt w B b a) (c:B'<=B):WaveAt w B' b a:=by
 obtain ⟨g,e,p,i,j⟩:=f;exact ⟨zAk c g,e,p,i,fun o k=>(j o k).mono c⟩
def WalkAt (w:World) (B gk:Nat) (a:List Nat):Prop:=
 ∃c b,Bk w gk 135 #[.pointer (some ⟨c,0,none⟩),.pointer (some ⟨b,0,none⟩)]/\WaveAt w B c a/\Bk w b 196 (tcells a)
def WalkAt.vis {w w' B gk b} (f:WalkAt w B gk b) (a:Vis w w'):WalkAt w' B gk b:=by
 obtain ⟨e,c,g,i,j⟩:=f;exact ⟨e,c,a.bk g dC dC,i.vis a,a.bk j dC dC⟩
def WalkAt.mono {w B B' gk a} (e:WalkAt w B gk a) (j:B'<=B):WalkAt w B' gk a:=by
 obtain ⟨c,b,f,g,i⟩:=e;exact ⟨c,b,f,g.mono j,i⟩
def uX (B b a w) (g:WaveAt w B b a):
 Calls prog 109 #[b] w fun f w'=>f=.returned (.int .i64 (a.length:Int))/\w=w':=by
 obtain ⟨_,e,i,c,_⟩:=g;have j:w.cell? ⟨b,9,none⟩=some (.int .i64 (a.length:Int)):=by rw [c.cell];have:=bI e (a.length:Int) i;simp [this]
 clear c;go_enter func109,ntmps109;go_wp2;go_ret;exact ⟨rfl,rfl⟩
def lJ (B gk a w) (f:WalkAt w B gk a):
 Calls prog 57 #[gk] w fun b w'=>b=.returned (.int .i64 (a.length:Int))/\w=w':=by
 obtain ⟨e,k,c,g,i⟩:=f;have j:=c.cell 0;clear c i;go_enter func57,ntmps57;go_wp2_with fail;refine (uX B e a _ g).mono ?_;rintro b w' ⟨rfl,rfl⟩;go_wp2_with fail;go_ret;exact ⟨rfl,rfl⟩
def jB (B gk:Nat) (a) (b:Nat) (w) (p:WalkAt w B gk a) (u:b < 257) (s:a.length<=1000):
 Calls prog 117 #[gk,(b:Int)] w fun e w'=>e=.returned (.int .i64 ((a.countP (fun c=>decide (c < b)):Nat):Int))/\Below w.heap.size w w':=by
 obtain ⟨x,o,f,q,g⟩:=p;have v:=f.cell 1;clear f q;have k:=lhd g;clear g;go_enter func117,ntmps117;go_wp2_with fail;refine (kV o a b _ k.out u s).mono ?_;rintro e w' ⟨rfl,r⟩;obtain ⟨j,i⟩:∃j,a.countP (fun c=>decide (c < b))=j:=⟨_,rfl⟩;rw [i];go_wp2_with fail;go_ret;exact ⟨by rw [i];rfl,r⟩
def cL (a:List Nat) (b c:Nat):Nat:=a.countP (fun e=>decide (e < b))+(a.take c).count b
end
section
open Go.RowKit Go.Shelf
def nK (a:Nat×Nat):List Value:= [.int .i64 (a.1:Int),.int .i64 (a.2:Int)]
def bU (C:List (Nat×Nat)):List Value:=C.flatMap nK
def aD (C:List (Nat×Nat)) (a:Nat):Nat:=(C.getD a (0,0)).1
def aI (C:List (Nat×Nat)) (a:Nat):Nat:=(C.getD a (0,0)).2
def dG (C):(bU C).length=C.length*2:=by
 induction C with
 | nil=>rfl
 | cons a l b=>
   have:bU (a::l)=nK a++bU l:=rfl;rw [this,zAi,b];simp [nK];omega
def cH (C a) (c:a < C.length):(bU C)[a*2]?=some (.int .i64 ((aD C a:Nat):Int))/\(bU C)[a*2+1]?=some (.int .i64 ((aI C a:Nat):Int)):=by
 induction C generalizing a with
 | nil=>cases c
 | cons b l f=>
   have e:bU (b::l)=nK b++bU l:=rfl;rcases a with _ | a;exact ⟨rfl,rfl⟩;have:=f a (by simpa using c);rw [e,zAo (by simp [nK];omega),zAo (by simp [nK];omega)];rw [show (a+1)*2 -(nK b).length=a*2 by simp [nK];omega,show (a+1)*2+1 -(nK b).length=a*2+1 by simp [nK];omega];exact this
structure PRd (W:World) (gb gp:Nat) (A:Option Addr) (n c:Nat) (C:List (Nat×Nat)):Prop where
 box:W.cell? gb=some (.pointer (some gp))
 sl:W.cell? ⟨gp,1,none⟩=some (.slice A n c)
 rd:Rd W W.heap.size 2 A n (bU C)
def PRd.below {a g c gp n i f C} (e:PRd a c gp f n i C) (j:c < a.heap.size) (k:gp < a.heap.size) (b:Below a.heap.size a g):PRd g c gp f n i C:=
 ⟨(b.cell j).trans e.box,(b.cell k).trans e.sl,(e.rd.below b).mono b.size⟩
def PRd.drewN {c f gp n e b C} (a:PRd c f gp b n e C) (g):PRd (c.drewN g) f gp b n e C:=⟨a.box,a.sl,a.rd⟩
def PRd.at {e o gp n j f C} (g:PRd e o gp f n j C) {a} (r:a < C.length):
 a < n/\∃b c,f=some ⟨b,c,none⟩/\e.cell? ⟨b,c+a*2,none⟩=some (.int .i64 ((aD C a:Nat):Int))/\e.cell? ⟨b,c+a*2+1,none⟩=some (.int .i64 ((aI C a:Nat):Int)):=by
 have s:=g.rd.1;rw [dG] at s;have u:a < n:=oM;obtain ⟨b,c,k,_,i⟩:=g.rd.2 oM;obtain ⟨p,q⟩:=cH C a r;exact ⟨u,b,c,k,i _ _ p,by rw [Nat.add_assoc];exact i _ _ q⟩
def aDH (g gp:Nat) (i) (n j:Nat) (C) (a row:Nat) (b) (c:PRd b g gp i n j C) (o:a < C.length):
 Calls prog 142 #[(a:Int),(row:Int),g] b fun f w'=>f=.returned (.int .i64 (Lib.compareInt (aD C a:Nat) row))/\b=w':=by
 obtain ⟨v,p,x,rfl,u,k⟩:=c.at o;have q:=c.box;have s:=c.sl;have e:=AnyG.cmp_Compare_int shCmp ((aD C a:Nat):Int) (row:Int) b;change Calls prog 143 _ _ _ at e;generalize Lib.compareInt (aD C a:Nat) row=r at e⊢;clear c k;go_enter func142,ntmps142;go_wp2_with fail;refine e.mono ?_;rintro f w' ⟨rfl,rfl⟩;go_wp2_with fail;go_ret;exact ⟨rfl,rfl⟩
def aBX (g i gp:Nat) (o) (n p:Nat) (C) (e f:Nat) (a) (c:PRd a g gp o n p C) (D:a.cell? i=some (.int .i64 (f:Int))) (s:e < C.length):
 Calls prog 145 #[(e:Int),g,i] a fun b w'=>b=.returned (.bool (decide (aI C e=f)))/\∃u,w'=a.drewN u:=by
 obtain ⟨A,v,E,rfl,q,r⟩:=c.at s;have x:=c.box;have y:=c.sl;obtain ⟨k,j⟩:=eqx (aI C e);rw [j] at r⊢;clear c q j;by_cases b:k=f
 · subst b;go_enter func145,ntmps145;go_wp2;go_quiet (fail);go_wp2;go_ret;exact ⟨by simp,_,rfl⟩
 · have z:((k:Int)==(f:Int))=false:=(by simp;omega);go_enter func145,ntmps145;go_wp2;go_quiet (fail);go_wp2;go_ret;exact ⟨by simp [b],_,rfl⟩
end
section
open Go.RowKit Go.Shelf
open Go.Sort (Holds)
structure PermAt (w:World) (B gp ga:Nat) (vl vo vt vf:Value) (R P:Nat) (ks:List Nat) (C:List (Nat×Nat)) (tk:List Bool) (fr:List Nat):Prop where
 blk:Bk w gp 120 #[ga,vl,vo,(R:Int),(P:Int)]
 lrow:w.ownsRow B 114 2 vl C.length (bU C)
 orow:w.ownsRow B 3 1 vo ks.length (ks.map sv)
 ar:Bk w ga 168 #[vt,vf,(268435456:Int)]
 trow:w.ownsRow B 4 1 vt tk.length (tk.map Value.bool)
 frow:w.ownsRow B 3 1 vf fr.length (fr.map sv)
 apart:vo.ownBlock=none∨vo.ownBlock≠vf.ownBlock
 lt:∀k∈ks,k < C.length
 lo:B<=gp/\B<=ga
def aEY {l:List Nat} {b:Nat->Nat} (j:l.Pairwise (fun i q=>b i < b q)) (g:Nat):∀(a e:Nat),l[a]?=some e->(b e < g↔a < l.countP fun k=>decide (b k < g)):=by
 induction l with
 | nil=>intro a e j;cases j
 | cons v l u=>
   obtain ⟨p,r⟩:=List.pairwise_cons.1 j;intro a e c;rw [zBn];by_cases f:b v < g
   · rcases a with _ | a
     · simp at c;subst c;simp [f]
     have:=u r a e (by simpa using c);simp only [f,decide_true,if_true];omega
   · have o:(l.countP fun k=>decide (b k < g))=0:=(by rw [List.countP_eq_zero];intro i s;have:=p i s;simp;omega);rcases a with _ | a
     · simp at c;subst c;simp [f,o]
     have x:=p e (zAd (by simpa using c));simp only [o,f,decide_false];simp;omega
def uB {l:List Nat} {f:Nat->Nat} (i:l.Pairwise (fun r s=>f r < f s)) (k:Nat):(∃g,l[l.countP fun a=>decide (f a < k)]?=some g/\f g=k)↔∃a∈l,f a=k:=by
 constructor;rintro ⟨g,j,e⟩;exact ⟨g,zAd j,e⟩
 · rintro ⟨a,x,rfl⟩;obtain ⟨b,p,rfl⟩:=List.getElem_of_mem x;have o:=zAa p;have j:=aEY i (f l[b]) b _ o;have A:¬b < l.countP fun a=>decide (f a < f l[b]):=fun c=>by have:=j.2 c;omega
   rcases zBe (l.countP fun a=>decide (f a < f l[b])) b with e | e
   · have q:(l.countP fun a=>decide (f a < f l[b])) < l.length:=oM;have u:=zAa q;have v:=aEY i (f l[b]) _ _ u;have y:¬f l[l.countP fun a=>decide (f a < f l[b])] < f l[b]:=fun c=>by have:=v.1 c;omega
     have z:=zAr.1 i _ _ q p e;omega
   have c:(l.countP fun a=>decide (f a < f l[b]))=b:=oM;rw [c];exact ⟨_,o,rfl⟩
def gC (a:Nat) (ks:List Nat):Array (Fin (a+1)):=(ks.map fun b=>(⟨b %(a+1),Nat.mod_lt _ (Nat.succ_pos a)⟩:Fin (a+1))).toArray
def nU {e:Nat} {ks} (i:∀a∈ks,a < e+1) {c a:Nat} (b:ks[c]?=some a):((gC e ks)[c]!).val=a:=by
 have f:c < ks.length:=(zAc.1 b).1;have j:=i a (zAd b);have g:ks[c]=a:=by rw [zAa f] at b;injection b
 rw [aCW _ _ (by simpa [gC] using f)];simp [gC,g,zBu j]
def aEy {b ks} (e:∀a∈ks,a < b+1) (c:Nat->Bool):(gC b ks).toList.countP (fun g=>c g.val)=ks.countP c:=by
 unfold gC;rw [List.countP_map];refine List.countP_congr fun a f=>?_;simp [zBu (e a f)]
def qM {w c g ks b} (i:Bk w g 3 b) (j:∀p∈ks,p < c+1) (o:b.toList.take ks.length=ks.map sv):Holds (fM c) w g 0 (gC c ks):=by
 intro a k;have e:a < ks.length:=by simpa [gC] using k
 rw [zBi];refine ⟨?_,i.frozen a⟩;have f:(b.toList.take ks.length)[a]?=(ks.map sv)[a]?:=by rw [o]
 rw [zBs,zBx e,zAf,zAa e,Array.getElem?_toList] at f;rw [i.cell,f];have:=nU j (zAa e);simp [fM,this,sv]
def aH0 {w w' a b} {d:Array (Fin (a+1))} (f:Holds (fM a) w b 0 d) (e:SW (fM a) w b 0 d w'):Below w.heap.size w w':=by
 obtain ⟨n,i,rfl⟩:=e;unfold sortWorld;have c:Go.Sort.putRow (fM a) (Go.Sort.ahead w n) b 0 d=Go.Sort.ahead w n:=Go.Sort.putRow_self (fM a) _ b 0 d f;rw [c];exact ⟨rfl,rfl,rfl,by show w.heap.size<=(w.heap++i).size;simp,fun j g=>Go.Sort.heap_grow_old _ _ g⟩
def wN (a b):Lib.compareInt a b < 0↔a < b:=by
 unfold Lib.compareInt;split
 · simp [*]
 · split <;> simp [*]
def aJe (a b):Lib.compareInt a b=0↔a=b:=by
 unfold Lib.compareInt;split;simp;omega;split;simp;omega;simp;omega
section
variable {w : World} {B gp ga : Nat} {vl vo vt vf : Value} {R P : Nat} {ks : List Nat} {C : List (Nat × Nat)} {tk : List Bool} {fr : List Nat}
def PermAt.prd (c:PermAt w B gp ga vl vo vt vf R P ks C tk fr) {f w'} (j:w'.cell? f=some (.pointer (some gp))) (i:Below w.heap.size w w'):∃a n b,vl=.slice a n b/\PRd w' f gp a n b C:=by
 obtain ⟨a,b,e,_⟩:=aW c.lrow;refine ⟨a,C.length,b,e,j,?_,?_⟩;have:=(c.blk.below i c.blk.lt).cell 1;rw [e] at this;exact this;have g:=aQ c.lrow i;rw [e] at g;exact Rd.of_own g
end
def aLq {ks C} {c row:Nat} (q:C.length=c+1) (s:∀a∈ks,a < C.length) (u:ks.Pairwise (fun o p=>aD C o < aD C p)):
 ((gC c ks).toList.countP (fun b=>decide (Lib.compareInt (aD C b.val:Nat) row < 0)))=ks.countP (fun a=>decide (aD C a < row))/\
 (decide (((gC c ks).toList.countP (fun b=>decide (Lib.compareInt (aD C b.val:Nat) row < 0))) < (gC c ks).size)&&decide (Lib.compareInt (aD C ((gC c ks)[((gC c ks).toList.countP (fun b=>decide (Lib.compareInt (aD C b.val:Nat) row < 0)))]!).val:Nat) row=0))=decide (∃a∈ks,aD C a=row):=by
 have i:∀a∈ks,a < c+1:=fun a r=>by rw [<-q];exact s a r
 have j:(gC c ks).toList.countP (fun b=>decide (Lib.compareInt (aD C b.val:Nat) row < 0))=ks.countP (fun a=>decide (aD C a < row)):=by rw [<-aEy i (fun a=>decide (aD C a < row))];congr 1;funext b;rw [decide_eq_decide,wN];omega
 refine ⟨j,?_⟩;rw [j,Bool.eq_iff_iff];simp only [zBd,zCa,aJe];rw [<-uB (f:=aD C) u row];constructor;rintro ⟨e,k⟩;have g:(ks.countP fun a=>decide (aD C a < row)) < ks.length:=(by simpa [gC] using e);refine ⟨_,zAa g,?_⟩;rw [nU i (zAa g)] at k;omega;rintro ⟨b,e,k⟩;have g:=(zAc.1 e).1;refine ⟨by simpa [gC] using g,?_⟩;rw [nU i e];omega
def kW (B gp ga:Nat) (vl vo vt vf) (R P:Nat) (ks C tk fr) (row:Nat) (w) (e:PermAt w B gp ga vl vo vt vf R P ks C tk fr) (J:ks.Pairwise (fun o f=>aD C o < aD C f)) (V:ks.length<=1099511627776):
 Calls prog 84 #[gp,(row:Int)] w fun a w'=>a=.returned (.tuple #[.int .i64 ((ks.countP (fun b=>decide (aD C b < row)):Nat):Int),.bool (decide (∃b∈ks,aD C b=row))])/\Below w.heap.size w w':=by
 have ao:=e.blk.lt;have r:Below w.heap.size w (w.alloc (.cells #[gp] 87)):=bR.alloc nL _;have a3:w.cell? ⟨gp,2,none⟩=some vo:=(e.blk.cell 2).trans rfl;have U:∀i n g,vo=.slice i n g->Calls prog 141 #[.slice i n g,(row:Int),.func (.func 142) #[] #[w.heap.size]] (w.alloc (.cells #[gp] 87)) fun a w'=>a=.returned (.tuple #[.int .i64 ((ks.countP (fun b=>decide (aD C b < row)):Nat):Int),.bool (decide (∃b∈ks,aD C b=row))])/\Below w.heap.size w w':=by
  intro i n g M;rcases zBa ks.length with u | u;have ac:ks= []:=zBk u;obtain ⟨a2,a4,j,_⟩:=aW e.orow;rw [M] at j;injection j with _ j _;rw [u] at j;subst j;subst ac;refine (Any.slices_BinarySearchFunc_none shBin i g (.int .i64 (row:Int)) (.func (.func 142) #[] #[w.heap.size]) _).mono ?_;rintro a w' ⟨rfl,rfl⟩;exact ⟨by simp,r⟩
  · rcases e.orow.2 with ⟨_,a⟩|⟨q,ai,a5,a,am,aa,aq,ap,ar,Z⟩;omega
    · rw [M] at a;injection a with e1 e2 e3;subst e1 e2 e3;rw [zBl] at Z;obtain ⟨k0,ab⟩:∃b,b∈ks:=(by obtain ⟨k,ah⟩:=List.exists_mem_of_length_pos u;exact ⟨k,ah⟩);obtain ⟨c,E⟩:∃c,C.length=c+1:=⟨C.length - 1,by have:=e.lt k0 ab;omega⟩;have I:∀b∈ks,b < c+1:=fun b V=>by rw [<-E];exact e.lt b V
      have x:Bk w q 3 a5:=aa;have v:=x.below r x.lt;have S:=qM v I Z;have a8:(w.alloc (.cells #[gp] 87)).cell? w.heap.size=some (.pointer (some gp)):=(ke w 87 #[gp]).cell 0;have a9:CmpLaysT prog 142 #[w.heap.size] (fM c) (.int .i64 (row:Int)) (fun k=>Lib.compareInt (aD C k.val:Nat) row) q 0 (gC c ks).size (w.alloc (.cells #[gp] 87)):=(by intro L K y an k;have H:=kB (enc:=fM c) v.lt 0 L y K;obtain ⟨i,n,g,a,Y⟩:=e.prd a8 r;have af:PRd (sortWorld (fM c) (w.alloc (.cells #[gp] 87)) q 0 L y K) w.heap.size gp i n g C:=(by refine ⟨?_,?_,?_⟩;exact (H.cell (p:=w.heap.size) (by simp) (fun a=>by have:=x.lt;have ak:w.heap.size=q:=a;omega)).trans Y.box;exact (H.cell (p:=⟨gp,1,none⟩) (by simp;omega) (Bk.ne e.blk x dC)).trans Y.sl;have ad:=aQ e.lrow r;have W:=aA (w':=sortWorld (fM c) (w.alloc (.cells #[gp] 87)) q 0 L y K) ad fun f aj _ s=>H.bk s (Bk.ne s v dC);obtain ⟨a2,a4,j,_⟩:=aW e.lrow;rw [a] at j W;injection j with e91 e92 e93;subst e92;exact Rd.of_own W);exact (aDH w.heap.size gp i n g C k.val row _ af (by rw [E];exact k.isLt)).mono fun _ _ ⟨a6,a7⟩=>⟨a6,0,#[],by rw [<-a7,Go.Sort.grow_empty];rfl⟩);have ae:∀o f,o<=f->f < (gC c ks).size->Lib.compareInt (aD C ((gC c ks)[f]!).val:Nat) row < 0->Lib.compareInt (aD C ((gC c ks)[o]!).val:Nat) row < 0:=(by intro o f A D X;have s:f < ks.length:=(by simpa [gC] using D);rw [nU I (zAa s),wN] at X;rw [nU I (zAa (show o < ks.length by omega)),wN];rcases Nat.eq_or_lt_of_le A with rfl | A;exact X;have:=zAr.1 J o f oM s A;omega);have a0:(gC c ks).size=ks.length:=(by simp [gC]);have z:=Any.slices_BinarySearchFunc shBin (fM c) (mQ c) (.int .i64 (row:Int)) (fun k=>Lib.compareInt (aD C k.val:Nat) row) 142 #[w.heap.size] q 0 g (gC c ks) (w.alloc (.cells #[gp] 87)) (enters_of func142 kR rfl) a9 S v.lt (by rw [a0];omega) ae;obtain ⟨N,O⟩:=aLq (row:=row) E e.lt J;rw [N] at O;rw [N,O] at z;rw [a0] at z;refine z.mono ?_;rintro a w' ⟨rfl,ag⟩;exact ⟨rfl,r.trans ((aH0 S ag).mono (by simp))⟩
 obtain ⟨i,g,a,_⟩:=aW e.orow;have T:=U _ _ _ a;rw [a] at a3;obtain ⟨a1,G⟩:∃a1,ks.countP (fun b=>decide (aD C b < row))=a1:=⟨_,rfl⟩;obtain ⟨al,F⟩:∃f,decide (∃b∈ks,aD C b=row)=f:=⟨_,rfl⟩;rw [G,F] at T;rw [G,F];clear U e J G F r a;go_enter func84,ntmps84;go_wp2_with fail;refine T.mono ?_;rintro a w' ⟨rfl,D⟩;go_wp2_with fail;go_ret2;exact ⟨rfl,D⟩
end
section
def aV {α:Type} (l:List α) (a:Nat) (b:α):List α:=l.take a++b::l.drop a
def aF {α:Type} (l:List α) (a:Nat):List α:=l.take a++l.drop (a+1)
def gO {α:Type} (l:List α) {a} (b:α) (c:a<=l.length):(aV l a b).length=l.length+1:=by
 unfold aV;rw [zAi,zAj,zCg,zAw];omega
def dD {α:Type} (l:List α) {k} (a:k < l.length):(aF l k).length+1=l.length:=by
 unfold aF;rw [zAi,zAj,zAw];omega
def jI {α:Type} (l:List α) {a} (f:α) (i:a<=l.length) (b):(aV l a f)[b]?=if b < a then l[b]? else if b=a then some f else l[b - 1]?:=by
 unfold aV;have g:(l.take a).length=a:=by rw [zAj];omega
 by_cases c:b < a
 · rw [zBx c,zAn oM,zBs,zBx c]
 · rw [zBw c,zAo oM,g];by_cases e:b=a;subst e;rw [zBx rfl,Nat.sub_self];rfl
   · rw [zBw e];obtain ⟨d,rfl⟩:∃d,b=a+d+1:=⟨b - a - 1,by omega⟩;rw [show a+d+1 - a=d+1 by omega,zCf,zBt];congr 1
def eH {α:Type} (l:List α) {a} (f:a < l.length) (b):(aF l a)[b]?=if b < a then l[b]? else l[b+1]?:=by
 unfold aF;have e:(l.take a).length=a:=by rw [zAj];omega
 by_cases c:b < a
 · rw [zBx c,zAn oM,zBs,zBx c]
 rw [zBw c,zAo oM,e,zBt];congr 1;omega
def nX {α β:Type} (a:α->β) (l:List α) (b) (c:α):(aV l b c).map a=aV (l.map a) b (a c):=by simp [aV]
def sJ {α β:Type} (a:α->β) (l:List α) (b):(aF l b).map a=aF (l.map a) b:=by simp [aF]
def fN {α:Type} (l:List α) (b) (a:α):(aV l b a).Perm (a::l):=by
 unfold aV;exact (List.perm_middle).trans (by rw [zAu])
def eV {α:Type} {l:List α} {a} {b:α} (e:l[a]?=some b):(b::aF l a).Perm l:=by
 obtain ⟨f,g⟩:=zAc.1 e;have c:l=l.take a++b::l.drop (a+1):=by rw [<-g,<-zAx f,zAu]
 unfold aF;exact (List.perm_middle.symm).trans (by rw [<-c])
def pA (l) {b} (c) (e:b<=l.length) (a):(aV l b c).getD a false=if a < b then l.getD a false else if a=b then c else l.getD (a - 1) false:=by
 rw [zAb,jI l c e];split
 · rw [zAb]
 · split;rfl
   · rw [zAb]
def pF (l) {b} (c:b < l.length) (a):(aF l b).getD a false=if a < b then l.getD a false else l.getD (a+1) false:=by
 rw [zAb,eH l c];split
 · rw [zAb]
 · rw [zAb]
def aF6 (l:List Bool) (n b:Nat):(l.take n).getD b false=(decide (b < n)&&l.getD b false):=by
 rw [zAb,zBs];by_cases a:b < n
 · rw [zBx a,zAb];simp [a]
 · rw [zBw a];simp [a]
def aGS (l:List Bool) (n a:Nat):(l.drop n).getD a false=l.getD (n+a) false:=by
 rw [zAb,zBt,zAb]
def rP (b a:Nat) (c:Bool):Nat:=(b % 2 ^ a|||(if c then 2 ^ a else 0))|||(b&&&(18446744073709551615 - b % 2 ^ a))*2 % 18446744073709551616
def oB (a b:Nat) (c:Bool):Nat:=(a % 2 ^ b|||(a / 2&&&(18446744073709551615 - a / 2 % 2 ^ b)))|||(if c then 9223372036854775808 else 0)
def aFH (b a) (c:b < 18446744073709551616):(18446744073709551615 - b).testBit a=(decide (a < 64)&& !b.testBit a):=by
 have:=Nat.testBit_two_pow_sub_succ (n:=64) (x:=b) oM a;rw [<-this];congr 1;omega
def aIR (c b a):(c % 2 ^ b).testBit a=(decide (a < b)&&c.testBit a):=Nat.testBit_mod_two_pow _ _ _
def aFC (b a):(2 ^ b).testBit a=decide (b=a):=Nat.testBit_two_pow
def aKo (b a):(b*2 % 18446744073709551616).testBit a=(decide (a < 64)&&(decide (0 < a)&&b.testBit (a - 1))):=by
 have c:(18446744073709551616:Nat)=2 ^ 64:=dC;rw [c,aIR];congr 1;rcases a with _ | a
 · simp
 · rw [Nat.testBit_succ,Nat.mul_div_cancel _ (by decide:0 < 2)];simp
def xO (a c) (b:a < 18446744073709551616):a % 2 ^ c < 18446744073709551616:=Nat.lt_of_le_of_lt (Nat.mod_le _ _) b
def aLh (b a) (e:b < 18446744073709551616) (c:64<=a):b.testBit a=false:=Nat.testBit_lt_two_pow (zAl e (zBp (n:=2) dC c))
def aA7 (c b a e) (s:c < 18446744073709551616) (v:b < 64):(rP c b e).testBit a=if a < b then c.testBit a else if a=b then e else (decide (a < 64)&&c.testBit (a - 1)):=by
 unfold rP;rw [Nat.testBit_or,Nat.testBit_or,aKo,Nat.testBit_and,aFH _ _ (xO c b s),aIR,aIR];have r:(if e then 2 ^ b else 0:Nat).testBit a=(decide (b=a)&&e):=by
  cases e
  · simp
  · simp [aFC]
 rw [r];by_cases g:a < b
 · have f:decide (a - 1 < b)=true:=zBz oM;have i:decide (b=a)=false:=zBy oM;rw [zBx g,zBz g,f,i];cases x:c.testBit a <;> cases u:c.testBit (a - 1)<;> simp
 · rw [zBw g,zBy g];by_cases j:a=b
   · subst j;rw [zBx rfl];by_cases k:a=0
     · subst k;simp
     · have f:decide (a - 1 < a)=true:=zBz oM;rw [f];cases u:c.testBit (a - 1)<;> simp
   · have f:decide (a - 1 < b)=false:=zBy oM;have i:decide (b=a)=false:=zBy oM;have o:decide (0 < a)=true:=zBz oM;rw [zBw j,f,i,o];by_cases p:a < 64
     · have q:decide (a - 1 < 64)=true:=zBz oM;rw [q];simp
     · simp [p]
def aBo (b e a c) (k:b < 18446744073709551616) (s:e < 64):(oB b e c).testBit a=if a < e then b.testBit a else if a < 63 then b.testBit (a+1) else (decide (a=63)&&c):=by
 unfold oB;have q:b / 2 < 18446744073709551616:=Nat.lt_of_le_of_lt (Nat.div_le_self _ _) k;have r:∀i,(b / 2).testBit i=b.testBit (i+1):=fun i=>by rw [Nat.testBit_succ]
 rw [Nat.testBit_or,Nat.testBit_or,Nat.testBit_and,aFH _ _ (xO _ e q),aIR,aIR,r];have p:(if c then 9223372036854775808 else 0:Nat).testBit a=(decide (a=63)&&c):=by
  cases c
  · simp
  rw [zBx rfl,show (9223372036854775808:Nat)=2 ^ 63 by decide,aFC,Bool.and_true];congr 1;exact propext eq_comm
 rw [p];by_cases f:a < e
 · have g:decide (a=63)=false:=zBy oM;rw [zBx f,zBz f,g];cases u:b.testBit a <;> cases v:b.testBit (a+1)<;> simp
 · rw [zBw f,zBy f];by_cases j:a < 63
   · have g:decide (a=63)=false:=zBy oM;have o:decide (a < 64)=true:=zBz oM;rw [zBx j,g,o];simp
   · rw [zBw j,aLh b (a+1) k oM];simp
def jR (l a):(w0 l).testBit a=(decide (a < 64)&&l.getD a false):=by unfold w0;rw [kQ,aF6]
def iL (l a):(w1 l).testBit a=l.getD (64+a) false:=by unfold w1;rw [kQ,aGS]
def wL (l:List Bool) (a:Nat) (b:l.length<=a):l.getD a false=false:=by
 rw [zAb,zBg b];rfl
def aK1 (l c e) (i:c<=l.length) (k:l.length<=127) (j:c < 64):w0 (aV l c e)=rP (w0 l) c e/\w1 (aV l c e)=rP (w1 l) 0 (l.getD 63 false):=by
 constructor
 · refine Nat.eq_of_testBit_eq fun a=>?_;rw [aA7 _ _ _ _ (nO l) j,jR,jR,jR,pA l e i];by_cases g:a < c
   · rw [zBx g,zBx g]
   · rw [zBw g,zBw g];by_cases b:a=c
     · rw [zBx b,zBx b,zBz oM,Bool.true_and]
     · rw [zBw b,zBw b];by_cases f:a < 64
       · rw [zBz f,zBz (show a - 1 < 64 by omega),Bool.true_and,Bool.true_and]
       · rw [zBy f,Bool.false_and,Bool.false_and]
 · refine Nat.eq_of_testBit_eq fun a=>?_;rw [aA7 _ _ _ _ (nJ l oM) dC,iL,iL,pA l e i,zBw oM,zBw oM,zBw oM];by_cases b:a=0
   · subst b;rw [zBx rfl]
   · rw [zBw b,show 64+a - 1=64+(a - 1) by omega,iL];by_cases f:a < 64
     · rw [zBz f,Bool.true_and]
     rw [zBy f,Bool.false_and];exact wL l _ oM
def aK2 (l b c) (i:b<=l.length) (k:l.length<=127) (j:64<=b):w0 (aV l b c)=w0 l/\w1 (aV l b c)=rP (w1 l) (b - 64) c:=by
 constructor
 · refine Nat.eq_of_testBit_eq fun a=>?_;rw [jR,jR,pA l c i];by_cases e:a < 64
   · rw [zBz e,zBx oM]
   · rw [zBy e,Bool.false_and,Bool.false_and]
 · refine Nat.eq_of_testBit_eq fun a=>?_;rw [aA7 _ _ _ _ (nJ l oM) oM,iL,iL,iL,pA l c i];by_cases f:a < b - 64
   · rw [zBx oM,zBx f]
   · rw [zBw oM,zBw f];by_cases g:a=b - 64
     · rw [zBx oM,zBx g]
     · rw [zBw oM,zBw g,show 64+a - 1=64+(a - 1) by omega];by_cases e:a < 64
       · rw [zBz e,Bool.true_and]
       rw [zBy e,Bool.false_and];exact wL l _ oM
def aLm (l b) (g:b < l.length) (j:l.length<=128) (i:b < 64):w0 (aF l b)=oB (w0 l) b (l.getD 64 false)/\w1 (aF l b)=oB (w1 l) 0 false:=by
 constructor
 · refine Nat.eq_of_testBit_eq fun a=>?_;rw [aBo _ _ _ _ (nO l) i,jR,jR,jR,pF l g];by_cases e:a < b
   · rw [zBx e,zBx e]
   · rw [zBw e,zBw e];by_cases c:a < 63
     · rw [zBx c,zBz (show a < 64 by omega),zBz (show a+1 < 64 by omega)]
     · rw [zBw c];by_cases f:a=63;subst f;rfl
       · rw [zBy f,zBy (show ¬a < 64 by omega),Bool.false_and,Bool.false_and]
 · refine Nat.eq_of_testBit_eq fun a=>?_;rw [aBo _ _ _ _ (nJ l j) dC,iL,iL,pF l g,zBw oM,zBw oM,Bool.and_false];by_cases c:a < 63
   · rw [zBx c,show 64+a+1=64+(a+1) by omega,iL]
   rw [zBw c];exact wL l _ oM
def cut_hi (l k) (f:k < l.length) (g:l.length<=128) (i:64<=k):w0 (aF l k)=w0 l/\w1 (aF l k)=oB (w1 l) (k - 64) false:=by
 constructor
 · refine Nat.eq_of_testBit_eq fun a=>?_;rw [jR,jR,pF l f];by_cases e:a < 64
   · rw [zBz e,zBx oM]
   · rw [zBy e,Bool.false_and,Bool.false_and]
 · refine Nat.eq_of_testBit_eq fun a=>?_;rw [aBo _ _ _ _ (nJ l g) oM,iL,iL,iL,pF l f,Bool.and_false];by_cases b:a < k - 64
   · rw [zBx oM,zBx b]
   · rw [zBw oM,zBw b,show 64+a+1=64+(a+1) by omega];by_cases c:a < 63
     · rw [zBx c]
     rw [zBw c];exact wL l _ oM
def aJI (a) (b:a < 18446744073709551616):decide (a / 9223372036854775808=1)=a.testBit 63:=by
 rw [Nat.testBit_eq_decide_div_mod_eq];have:a / 2 ^ 63 % 2=a / 9223372036854775808:=by rw [show (2:Nat)^ 63=9223372036854775808 by decide];omega
 rw [this]
end
section
open Go.RowKit
def tI (b l a w) (c:Bk w b 245 (iS l)) (g:a < l.length):
 Calls prog 233 #[b,(a:Int)] w fun e w'=>e=.returned (.int .i64 0)/\Below w.heap.size w w':=by
 have f:w.cell? b=some (.int .i64 (l.length:Int)):=(c.cell 0).trans rfl;have k:=c.lt;have i:¬(a:Int) < 0:=oM;have j:decide ((a:Int)>=(l.length:Int))=false:=by simp;omega
 clear c;go_enter func233,ntmps233;go_wp2_with fail;go_ret;exact ⟨rfl,kh _ _⟩
def aLG (l a):(if a < 64 then w0 l >>> a else w1 l >>>(a - 64))&&& 1=if l.getD a false then 1 else 0:=by
 by_cases c:a < 64
 · rw [zBx c];have:=kQ (l.take 64) a;rw [Nat.and_one_is_mod,Nat.shiftRight_eq_div_pow,<-Nat.toNat_testBit,show (w0 l).testBit a=(l.take 64).getD a false from this];have b:(l.take 64).getD a false=l.getD a false:=(by simp [zAb,zBs,c]);rw [b];cases l.getD a false <;> rfl
 · rw [zBw c];have:=kQ (l.drop 64) (a - 64);rw [Nat.and_one_is_mod,Nat.shiftRight_eq_div_pow,<-Nat.toNat_testBit,show (w1 l).testBit (a - 64)=(l.drop 64).getD (a - 64) false from this];have b:(l.drop 64).getD (a - 64) false=l.getD a false:=(by simp [zAb,zBt,show 64+(a - 64)=a by omega]);rw [b];cases l.getD a false <;> rfl
def aFY (b a:Nat) (c) (j:b < 18446744073709551616) (i:b >>> a&&& 1=if c then 1 else 0):(bits .and .u64 ((b:Int)/ 2 ^ a) 1==1)=c:=by
 have e:=aAY b a 1 (2 ^ a) j oM rfl;have f:((2 ^ a:Nat):Int)=(2:Int)^ a:=by push_cast;rfl
 rw [f] at e;have g:bits .and .u64 ((b:Int)/ 2 ^ a) 1=((b >>> a&&& 1:Nat):Int):=e;rw [g,i];cases c <;> rfl
def aB8 (e l a w) (k:Bk w e 245 (iS l)) (F:l.length<=128) (E:a < l.length):
 Calls prog 209 #[e,(a:Int)] w fun p w'=>p=.returned (.tuple #[.bool (l.getD a false),o0])/\Below w.heap.size w w':=by
 have c:=lhd k;have b:=aLG l a;obtain ⟨o,r⟩:=eqx (l.getD a false);rw [r] at b⊢;clear r;have v:=nO l;have b1:=nJ l F;have H:=k.lt;clear k;go_enter func209,ntmps209;go_wp2_with fail;refine (tI e l a _ c.out E).mono ?_;rintro p s ⟨rfl,f⟩;have g:=c.out.below f c.out.lt;have x:s.cell? ⟨e,1,none⟩=some (.int .u64 ((w0 l:Nat):Int)):=(g.cell 1).trans rfl;have y:s.cell? ⟨e,2,none⟩=some (.int .u64 ((w1 l:Nat):Int)):=(g.cell 2).trans rfl;have I:=g.lt;by_cases q:a < 64
 · rw [zBx q] at b;have z:(a:Int).tdiv 64=0:=(by rw [Int.tdiv_eq_ediv_of_nonneg oM];omega);have A:(a:Int).tmod 64=(a:Int):=(by rw [Int.tmod_eq_emod_of_nonneg oM];omega);have D:IntKind.u64.wrap (a:Int)=(a:Int):=(by rw [ko];omega);generalize w0 l=u at*
   obtain ⟨j,i⟩:=hqq2 b f;clear f g y c b;go_wp2_with fail;go_ret2;exact ⟨by rw [aFY u a o v j.out];rfl,i.out⟩
 · rw [zBw q] at b;have z:(a:Int).tdiv 64=1:=(by rw [Int.tdiv_eq_ediv_of_nonneg oM];omega);have A:(a:Int).tmod 64=((a - 64:Nat):Int):=(by rw [Int.tmod_eq_emod_of_nonneg oM];omega);have D:IntKind.u64.wrap ((a - 64:Nat):Int)=((a - 64:Nat):Int):=(by rw [ko];omega);have G:a - 64 < 64:=oM;generalize w1 l=u at*
   generalize a - 64=k2 at*
   obtain ⟨j,i⟩:=hqq2 b f;clear f g x c b;go_wp2_with fail;go_ret2;exact ⟨by rw [aFY u k2 o b1 j.out];rfl,i.out⟩
def uY (a c f w) (g:TreeAt w a c) (G:f < c.length):
 Calls prog 208 #[a,(f:Int)] w fun o w'=>o=.returned (.int .i64 0)/\VisK (fun z=>z=a) w w':=by
 have H:∃e,Bk w a 226 e/\3 < e.size:=by obtain ⟨ga,S,⟨rfl,vl,p⟩|⟨L,p,K,I,J,E⟩⟩:=g;exact ⟨_,p,by simp⟩;exact ⟨_,E.tree,by simp⟩
 obtain ⟨e,b,F⟩:=H;have i:=VisK.set_tree b 0;have s:=g.vis i.1;have M:=b.lt;have A:w.cell? ⟨a,3,none⟩=some e[3]:=by rw [b.cell 3];simp [F]
 have D:=b.frozen 3;have N:¬(f:Int) < 0:=oM;obtain ⟨j,k⟩:=hqq2 i s;obtain ⟨y,q⟩:=eqx c.length;have v:=lhd q;have O:¬(y<=f):=oM;clear g i s b q G;go_enter func208,ntmps208;go_wp2_with fail;clear A D;refine (eZ a c _ k.out).mono ?_;rintro o T ⟨rfl,r⟩;rw [v.out];have u:=j.out.below r;have x:=lhd u;clear u r j k;go_wp2_with fail;go_ret;exact ⟨rfl,x.out⟩
def aDl (e a c w) (s:TreeAt w e a) (g:c < a.length):
 Calls prog 153 #[e,(c:Int)] w fun k w'=>k=.returned (.tuple #[.bool (a.getD c false),o0])/\VisK (fun G=>G=e) w w':=by
 have j:=lhd s;obtain ⟨N,f⟩:=eqx (a.getD c false);rw [f];obtain ⟨E,F⟩:=hqq2 f g;clear s f;go_enter func153,ntmps153;go_wp2_with fail;refine (uY e a c w j.out g).mono ?_;rintro k K ⟨rfl,p⟩;have I:=j.out.vis p.1;have A:=lhd p;clear p j;obtain ⟨ga,J,⟨o,_,_⟩|⟨o,u,H,V,r,b⟩⟩:=I
 · rw [o] at g;simp at g
 clear g;obtain ⟨O,S,T,U,W,X,Y,Z,a0,a1,a2,a3⟩:=b.cells;have a7:=b.row.lt;have a5:=b.tree.lt;have a6:e≠H:=b.row.bk_ne b.tree dC;have a4:=b.tree.frozen 3;obtain ⟨i,q⟩:=hqq2 b u;clear b u o;go_wp2_with fail;go_loopw [1,7,8] (fun L M a9 wr=>L=.int .i64 (c:Int)/\M=.int .i64 0/\wr=K) (fun _ _ _ _=>0)
 case atStart=>exact ⟨rfl,rfl,rfl⟩
 case round=>obtain ⟨rfl,rfl,rfl⟩:=hrel;go_wp2_with fail;have x:=Bk.ne i.out.blk i.out.tree dC;have f:=q.out;have y:=(VisK.set_tree i.out.tree (wrap64 (J+1))).alloc (.cells #[(-1:Int),(-1:Int),o0,(a.length:Int),.int .i64 ((a.count true:Nat):Int),o0,o0,r] 229);refine (aB8 r a c _ ((i.out.blk.far x _).alloc _) q.out F.out).mono ?_;rintro k a8 ⟨rfl,v⟩;rw [E.out];have z:=(A.out.trans y).below v;have D:=lhd z;clear y v z x f;go_wp2_with fail;go_ret2;exact ⟨rfl,D.out⟩
end
end Go.Proofs.YtecdldbdednahaaGreatDoor
