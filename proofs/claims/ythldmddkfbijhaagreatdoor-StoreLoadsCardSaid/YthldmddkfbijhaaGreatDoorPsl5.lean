/- Lemmas of the walk. Conditions: each its own. -/
import Derived.Test.YthldmddkfbijhaaGreatDoorPsl1
import Derived.Test.YthldmddkfbijhaaGreatDoorProg
import Derived.Test.YthldmddkfbijhaaGreatDoorShl
set_option linter.all false
set_option maxRecDepth 100000
set_option maxHeartbeats 4000000
open Go.Proofs.Tryz
namespace Go.Proofs.YthldmddkfbijhaaGreatDoor
section
open Go.RowKit
def LeafV.cells {w:World} {p c i a g j:Nat} {k o:Int} {f:List Bool} (e:LeafV w p c i a g j k o f):
 w.cell? c=some (.pointer (some i))/\w.cell? ⟨c,1,none⟩=some (.slice (some a) 1 g)/\w.cell? ⟨c,2,none⟩=some (.int .i64 k)/\w.cell? ⟨c,3,none⟩=some (.int .i64 o)/\
 w.cell? a=some (.int .i64 (-1))/\w.cell? ⟨a,1,none⟩=some (.int .i64 (-1))/\w.cell? ⟨a,2,none⟩=some (.int .i64 0)/\w.cell? ⟨a,3,none⟩=some (.int .i64 (f.length:Int))/\w.cell? ⟨a,4,none⟩=some (.int .i64 ((f.count true:Nat):Int))/\w.cell? ⟨a,5,none⟩=some (.int .i64 0)/\w.cell? ⟨a,6,none⟩=some (.int .i64 0)/\w.cell? ⟨a,7,none⟩=some (.pointer (some j)):=by
 have b:=fun r q=>World.ownsRow.cellAt e.row r q;exact ⟨(e.tree.cell 0).trans rfl,(e.tree.cell 1).trans rfl,(e.tree.cell 2).trans rfl,(e.tree.cell 3).trans rfl,(b 0 oM).trans rfl,(b 1 oM).trans rfl,(b 2 oM).trans rfl,(b 3 oM).trans rfl,(b 4 oM).trans rfl,(b 5 oM).trans rfl,(b 6 oM).trans rfl,(b 7 oM).trans rfl⟩
def eR (a:Nat) (c:List Bool) (w:World) (i:TreeAt w a c):
 Calls prog 178 #[a] w fun g w'=>g=.returned (.int .i64 (c.length:Int))/\Below w.heap.size w w':=by
 obtain ⟨A,E,⟨rfl,F,b⟩|⟨D,b,C,p,B,e⟩⟩:=i
 · have f:w.cell? ⟨a,2,none⟩=some (.int .i64 (-1)):=(b.cell 2).trans rfl;clear b;go_enter func178,ntmps178;go_wp2;go_ret;exact ⟨rfl,Below.refl _ _⟩
 · obtain ⟨j,k,f,o,q,r,s,u,v,x,y,z⟩:=e.cells;clear e;go_enter func178,ntmps178;go_wp2;go_quiet (fail);go_wp2;go_ret;exact ⟨rfl,⟨rfl,rfl,rfl,zAs _,fun _ _=>rfl⟩⟩
def TreeAt.visits {w:World} {b:Nat} {e:List Bool} (f:TreeAt w b e):∃a,w.cell? ⟨b,3,none⟩=some (.int .i64 a):=by
 obtain ⟨j,a,⟨rfl,q,c⟩|⟨p,c,o,i,k,g⟩⟩:=f;exact ⟨a,(c.cell 3).trans rfl⟩;exact ⟨a,g.cells.2.2.2.1⟩
def fN (a:Nat) (b:Int) (w:World) (e:w.cell? ⟨a,3,none⟩=some (.int .i64 b)):
 Calls prog 164 #[a] w fun c w'=>c=.returned (.int .i64 b)/\Below w.heap.size w w':=by
 go_enter func164,ntmps164;go_wp2;go_ret;exact ⟨rfl,Below.refl _ _⟩
def wN (n a:Nat) (b:Bool) (w:World) (e:n<=128) (f:a<=n):
 Calls prog 209 #[(n:Int),(a:Int),.bool b] w fun c w'=>c=.returned (.int .i64 ((if b then a else n - a:Nat):Int))/\Below w.heap.size w w':=by
 cases b
 · go_enter func209,ntmps209;go_wp2;go_ret;exact ⟨fG oM,Below.refl _ _⟩
 · go_enter func209,ntmps209;go_wp2;go_ret;exact ⟨fG (by simp),Below.refl _ _⟩
def pS (l:List Bool):l.count true+l.count false=l.length:=by
 induction l with
 | nil=>rfl
 | cons a l b=>cases a <;> simp <;> omega
def aBr (f:Nat) (b:List Bool) (a:Nat) (c:Bool) (w:World) (i:TreeAt w f b) (S:a<=b.length):
 Calls prog 168 #[f,(a:Int),.bool c] w fun s w'=>s=.returned (.int .i64 (((b.take a).count c:Nat):Int))/\VisK (fun c=>c=f) w w':=by
 have P:b.length<=128:=by
  obtain ⟨K,B,⟨rfl,ac,g⟩|⟨j,g,M⟩⟩:=i
  · simp
  exact g
 have aa:∃r,Bk w f 202 r/\3 < r.size:=by obtain ⟨K,B,⟨rfl,ac,g⟩|⟨j,g,L,a3,v,M⟩⟩:=i;exact ⟨_,g,by simp⟩;exact ⟨_,M.tree,by simp⟩
 obtain ⟨r,o,a5⟩:=aa;have z:=VisK.set_tree o 0;have V:=i.vis z.1;have av:=o.lt;have I:w.cell? ⟨f,3,none⟩=some r[3]:=by rw [o.cell 3];simp [a5]
 have J:=o.frozen 3;have aA:max (a:Int) 0=(a:Int):=oM;have aB:min (a:Int) (b.length:Int)=(a:Int):=oM;obtain ⟨D,G,a1,H⟩:=hqq4 z i P V;obtain ⟨ah,N⟩:=eqx b.length;obtain ⟨a0,p⟩:=hqq2 N S;clear i P z V o N S;go_enter func168,ntmps168;go_wp2_with fail;clear I J;refine (eR f b _ H.out).mono ?_;rintro s ad ⟨rfl,k⟩;have A:=D.out.below k;have W:=G.out.vis A.1;obtain ⟨E,a2⟩:=hqq2 A W;clear A W D H k G;rcases zBa a with T | T
 · subst T;go_wp2_with fail;go_ret;exact ⟨rfl,E.out⟩
 · have ay:¬((a:Int)=0):=oM;obtain ⟨K,B,⟨x,_,_⟩|⟨x,k,L,a3,v,e⟩⟩:=a2.out;have j:=p.out;rw [x] at j;simp at j;omega;obtain ⟨ai,aj,ak,I,al,am,an,ao,ap,aq,ar,au⟩:=e.cells;have az:=e.row.lt;have aw:=e.tree.lt;have ax:f≠L:=e.row.bk_ne e.tree dC;have J:=e.tree.frozen 3;obtain ⟨q,Z⟩:=hqq2 e k;clear e k x;go_wp2_with fail;go_loopw [1,7,8] (fun ae af ag wr=>ae=.int .i64 (a:Int)/\af=.int .i64 0/\ag=.int .i64 0/\wr=ad) (fun _ _ _ _=>0)
   case atStart=>exact ⟨rfl,rfl,rfl,rfl⟩
   case round=>obtain ⟨rfl,rfl,rfl,rfl⟩:=hrel;go_wp2_with fail;have a7:=Bk.ne q.out.blk q.out.tree dC;have X:=(VisK.set_tree q.out.tree (wrap64 (B+1))).alloc (.cells #[.int .i64 (-1),.int .i64 (-1),.int .i64 0,(b.length:Int),.int .i64 ((b.count true:Nat):Int),.int .i64 0,.int .i64 0,v] 205);refine (zS v b a _ ((q.out.blk.far a7 _).alloc _) Z.out (by rw [a0.out] at*;exact p.out)).mono ?_;rintro s aD ⟨rfl,O⟩;have Y:=(E.out.trans X).below O;obtain ⟨u,y⟩:=eqx (List.count true (List.take a b));have a9:u<=a:=(by rw [<-y];exact zAk zBv (by rw [zAj];omega));have Q:(if c then u else a - u)=(b.take a).count c:=(by have j:=pS (b.take a);have g:(b.take a).length=a:=(by rw [zAj];have:=p.out;omega);cases c;simp;omega;simp;omega);rw [y];obtain ⟨C,F⟩:=hqq2 Q Y;have a8:a<=128:=zAk p.out a1.out;clear y Q X O Y;go_wp2_with fail;refine (wN a u c _ a8 a9).mono ?_;rintro s aE ⟨rfl,a4⟩;rw [C.out];have ab:=F.out.below a4;have a6:(b.take a).count c<=128:=zAk zBv (by rw [zAj];omega);obtain ⟨aC,U⟩:=eqx (List.count c (List.take a b));rw [U] at a6⊢;clear C F;go_wp2_with fail;go_ret;exact ⟨fG (by rw [U] <;> omega),ab⟩
def kM (w:World) (a:Nat) (b:TypeId) (c:Nat):w.ownsRow a b c (.slice none 0 0) 0 []:=World.ownsRow_nil _ _ _ _
def aC1 (s:Option Addr) (m v A:Nat) (c:List Bool) (w:World) (y:Rd w A 1 s m (c.map Value.bool)) (a0:A<=w.heap.size) (L:m<=128) (a3:m<=v):
 Calls prog 231 #[.slice s m v] w fun a w'=>∃G,a=.returned (.pointer (some ⟨G,0,none⟩))/\TreeB w' w.heap.size G c/\Below w.heap.size w w':=by
 have K:c.length=m:=by simpa using y.1
 obtain ⟨T,u⟩:=hqq2 y K;clear y K;go_enter func231,ntmps231;go_wp2_with fail;refine (sI _).mono ?_;rintro a w1 ⟨rfl,I,x⟩;obtain ⟨B,D⟩:=hqq2 I x;have j:=x.size;clear I x;rcases zBa m with H | H
 · subst H;have a5:c= []:=zBk u.out;go_wp2_with fail;go_ret;have a2:=D.out.alloc j (.cells #[w.heap.size,.slice none 0 0,.int .i64 (-1),.int .i64 0] 202);exact ⟨_,rfl,⟨_,0,j,zAs _,.inl ⟨a5,Bk.new _ _ _,B.out.alloc _⟩⟩,a2⟩
 · have ac:((m:Int)+128 - 1)/ 128=1:=oM;have a4:c≠ []:=(by intro a;have:=u.out;rw [a] at this;simp at this;omega);have p:=D.out.alloc j (.cells #[w.heap.size,.slice none 0 0,.int .i64 (-1),.int .i64 0] 202);have O:=Bk.new w1 202 #[w.heap.size,.slice none 0 0,.int .i64 (-1),.int .i64 0];have J:=B.out.alloc (.cells #[w.heap.size,.slice none 0 0,.int .i64 (-1),.int .i64 0] 202);have M:=((T.out.mono a0).below p).mono p.size;obtain ⟨z,P⟩:=eqx (w1.alloc (.cells #[w.heap.size,.slice none 0 0,.int .i64 (-1),.int .i64 0] 202));obtain ⟨F,C,E,o⟩:=hqq4 O J M p;clear O J M p;go_wp2_with fail;rw [P] at F C E o;clear P;refine (aGA w1.heap.size w.heap.size 0 s m v z.heap.size c z F.out C.out E.out nL L a3).mono ?_;rintro a k ⟨rfl,q,X,V,W,i,ab⟩;have a7:=i.tree.lt;have a9:=i.tree.frozen 2;have a8:k.cell? ⟨w1.heap.size,2,none⟩=some (.int .i64 (-1)):=(i.tree.cell 2).trans rfl;obtain ⟨f,S⟩:=hqq2 i q;clear i q;go_wp2_with fail;go_ret;have r:∀b t g,t≠202->Bk k b t g->Bk (k.setCell ⟨w1.heap.size,2,none⟩ (.int .i64 0)) b t g:=fun b t g a6 e=>e.far (Bk.ne e f.out.tree a6) _;obtain ⟨Q,U,Y,Z⟩:=f.out.arena;have q:Below w.heap.size z k:=S.out.to_below o.out.size (fun b aa a=>by rcases a with a | a <;> omega);have a1:Below w.heap.size w k:=o.out.trans q;have N:=o.out.size;refine ⟨_,rfl,⟨_,0,j,zAs _,.inr ⟨a4,by rw [u.out];exact L,X,V,W,by omega,f.out.tree.set 2 _,cB (aA f.out.row fun b g _ e=>r _ _ _ dC e) N,r _ _ _ dC f.out.blk,Q,U,r _ _ _ dC Y,(nZ Z fun b g e=>r _ _ _ dC e).mono N⟩⟩,?_⟩;exact a1.setCell j _
def sv (a:Nat):Value:=.int .i64 (a:Int)
def bE (b a:Nat):Nat:=b / 2 ^(9 - a)
def gG (b a:Nat):Bool:=decide (b / 2 ^(8 - a)% 2=1)
def fE (a:Nat) (w:World) (f:a < 257):
 Calls prog 98 #[(a:Int)] w fun b w'=>b=.returned (.bool true)/\Below w.heap.size w w':=by
 have c:(0:Int)<=(a:Int):=oM;have e:(a:Int) < 257:=oM;go_enter func98,ntmps98;go_wp2;go_ret;exact ⟨rfl,Below.refl _ _⟩
def aCN (b a:Nat):(b:Int)/ 2 ^ a=((b / 2 ^ a:Nat):Int):=by push_cast;rfl
def aKI (a:Nat) (c:a < 257):bits .and .i64 (a:Int) 1=((a % 2:Nat):Int):=by
 have b:=(bits_nat .i64 10 dC (fun n e b=>by rw [IntKind.wrap_i64];omega) a 1 oM oM).1;rw [show ((1:Nat):Int)=1 from rfl] at b;rw [b,Nat.and_one_is_mod]
def kK (b a:Nat) (w:World) (f:b < 257) (j:a<=9):
 Calls prog 169 #[(b:Int),(a:Int)] w fun c w'=>c=.returned (.int .i64 ((bE b a:Nat):Int))/\Below w.heap.size w w':=by
 have g:¬((a:Int) < 0):=oM;have i:¬((a:Int) > 9):=oM;go_enter func169,ntmps169;go_wp2_with fail;refine (fE b _ f).mono ?_;rintro c w1 ⟨rfl,e⟩;go_wp2_with fail;go_ret;exact ⟨fG (aCN _ _),e⟩
def mB (c b:Nat) (w:World) (g:c < 257) (s:b < 9):
 Calls prog 170 #[(c:Int),(b:Int)] w fun e w'=>e=.returned (.bool (gG c b))/\Below w.heap.size w w':=by
 have q:¬((b:Int) < 0):=oM;have r:¬((b:Int)>=9):=oM;go_enter func170,ntmps170;go_wp2_with fail;refine (fE c _ g).mono ?_;rintro e w1 ⟨rfl,k⟩;go_wp2_with fail;go_ret;refine ⟨cO ?_,k⟩;have o:c / 2 ^(8 - b) < 257:=Nat.lt_of_le_of_lt (Nat.div_le_self _ _) g;rw [aCN,aKI _ o];unfold gG;generalize c / 2 ^(8 - b)% 2=i;by_cases f:i=1;subst f;rfl
 · have j:((i:Int)==1)=false:=(by simp;omega);rw [j];simp [f]
@[irreducible] def wcells (a:Nat->Value) (n p:Int):Array Value:=#[a 0,a 1,a 2,a 3,a 4,a 5,a 6,a 7,a 8,.int .i64 n,.int .i64 p]
def bI (a:Nat->Value) (n b:Int):(wcells a n b)[0]?=some (a 0)/\(wcells a n b)[1]?=some (a 1)/\(wcells a n b)[2]?=some (a 2)/\(wcells a n b)[3]?=some (a 3)/\(wcells a n b)[4]?=some (a 4)/\(wcells a n b)[5]?=some (a 5)/\(wcells a n b)[6]?=some (a 6)/\(wcells a n b)[7]?=some (a 7)/\(wcells a n b)[8]?=some (a 8)/\(wcells a n b)[9]?=some (.int .i64 n)/\(wcells a n b)[10]?=some (.int .i64 b):=by
 unfold wcells;exact ⟨rfl,rfl,rfl,rfl,rfl,rfl,rfl,rfl,rfl,rfl,rfl⟩
def cR (a:Nat->Value) (n c b:Int):(wcells a n c).setIfInBounds 10 (.int .i64 b)=wcells a n b:=by
 unfold wcells;rfl
def sL (b:Nat->Value) (n c:Int) (a:Nat) (r:a < 9):(wcells b n c)[a]?=some (b a):=by
 obtain ⟨e,f,g,i,j,k,o,p,q,_⟩:=bI b n c;rcases a with _ | _ | _ | _ | _ | _ | _ | _ | _ | a
 all_goals first | assumption | omega
def aDK (b:Nat->Value) (n f:Int) (a:Nat) (g:a < 9) (e:Value):(wcells b n f).setIfInBounds a e=wcells (fun c=>if c=a then e else b c) n f:=by
 unfold wcells;rcases a with _ | _ | _ | _ | _ | _ | _ | _ | _ | a
 all_goals first | rfl | omega
def Vis.waveC {w w':World} {e:Nat} {c:Nat->Value} {n f:Int} (g:Vis w w') (i:Bk w e 154 (wcells c n f)):∃b,Bk w' e 154 (wcells c n b):=by
 rcases g.wave i with a |⟨b,a⟩;exact ⟨f,a⟩;rw [cR] at a;exact ⟨b,a⟩
def aGQ (b gk g gn:Nat) (A B:Int) (p:Value) (e:List Bool) (c:Nat) (a:Bool) (w:World) (r:TreeAt w b e) (j:Bk w gk 3 #[(c:Int)]) (i:Bk w g 4 #[.bool a]) (k:Bk w gn 3 #[p]) (z:c<=e.length):
 Calls prog 167 #[.agg #[b,.int .i64 A,.int .i64 B],gk,g,gn] w fun q w'=>q=.returned (.tuple #[])/\
  ∃w1,VisK (fun a=>a=b) w w1/\Bk w1 gn 3 #[p]/\w'=w1.setCell gn (.int .i64 (((e.take c).count a:Nat):Int)):=by
 have C:w.cell? gk=some (.int .i64 (c:Int)):=(j.cell 0).trans rfl;have D:w.cell? g=some (.bool a):=(i.cell 0).trans rfl;have G:=j.lt;have H:=i.lt;have I:=k.lt;obtain ⟨y,v⟩:=hqq2 r k;clear r j i k;go_enter func167,ntmps167;go_wp2_with fail;refine (aBr b e c a _ (y.out.below (bR.alloc nL _)) z).mono ?_;rintro q w1 ⟨rfl,s⟩;have o:VisK (fun a=>a=b) w w1:=(VisK.of_below (bR.alloc nL _)).trans s;have f:=o.1.bk v.out dC dC;have E:w1.cell? gn=some p:=(f.cell 0).trans rfl;have F:=f.frozen 0;obtain ⟨u,x⟩:=hqq2 o f;clear s o f;go_wp2_with fail;go_end0;exact ⟨rfl,w1,u.out,x.out,rfl⟩
def Vis.of_wave {w w':World} {c:Nat} {e:Nat->Value} {n o g:Int} (a:Keep (fun b=>b=c) w w') (i:Bk w c 154 (wcells e n o)) (j:Bk w' c 154 (wcells e n g)):Vis w w':=by
 refine ⟨a.os,a.tape,a.output,a.size,fun b k _=>?_⟩;by_cases f:b=c;subst f;exact .inr (.inr ⟨_,g,i,by rw [cR];exact j⟩);exact .inl (a.block b k f)
def aGW (b c gk O gn:Nat) (y:Nat->Value) (n ae M k:Int) (ag:Value) (i:List Bool) (g:Nat) (a:Bool) (w:World) (L:Bk w b 154 (wcells y n ae)) (a9:TreeAt w c i) (T:Bk w gk 3 #[(g:Int)]) (Q:Bk w O 4 #[.bool a]) (J:Bk w gn 3 #[ag]) (aA:g<=i.length):
 Calls prog 111 #[b,.agg #[c,.int .i64 M,.int .i64 k],.func (.func 167) #[] #[gk,O,gn]] w fun j w'=>j=.returned (.tuple #[])/\
  VisF (fun a=>a=gn) w w'/\Keep (fun a=>a=b∨a=c∨a=gn) w w'/\Bk w' gn 3 #[.int .i64 (((i.take g).count a:Nat):Int)]:=by
 obtain ⟨aE,W⟩:=eqx (Obj.cells #[c,.int .i64 M,.int .i64 k] 157);have a6:=(Below.refl w.heap.size w).alloc nL aE;have X:=Bk.new w 157 #[c,.int .i64 M,.int .i64 k];rw [W] at X;have aW:=T.lt;have aX:=Q.lt;have aY:=J.lt;have aZ:=L.lt;have aC:=Bk.ne J L dC;obtain ⟨N,a1,a0,Z,a3,u,a2,an⟩:=hqq8 a9 J T Q L a6 X W;clear a9 T Q J L a6 X W;go_enter func111,ntmps111;go_wp2_with fail;rw [an.out];refine (aGQ c gk O gn M k ag i g a _ (N.out.below u.out) (a0.out.alloc _) (Z.out.alloc _) (a1.out.alloc _) aA).mono ?_;rintro j s ⟨rfl,w1,x,V,rfl⟩;obtain ⟨r,ac⟩:=((Vis.of_below u.out).trans x.1).waveC a3.out;have C:=ac.far (p:=gn) (fun e=>aC e.symm) (.int .i64 (((i.take g).count a:Nat):Int));have aa:=N.out.vis ((Vis.of_below u.out).trans x.1);have B:TreeAt (w1.setCell gn (.int .i64 (((i.take g).count a:Nat):Int))) c i:=aa.same fun ar t aK a8 e=>e.far (fun j=>by
  have au:ar=gn:=j;subst au;rw [<-(aL V e).1] at a8;exact absurd a8 dC) _
 obtain ⟨D,Y⟩:=B.visits;have v:=(x.1.bk a2.out dC dC).far (p:=gn) (fun e=>absurd (show w.heap.size=gn from e) oM) (.int .i64 (((i.take g).count a:Nat):Int));have K:=V.set 0 (.int .i64 (((i.take g).count a:Nat):Int));have S:VisF (fun a=>a=gn) w (w1.setCell gn (.int .i64 (((i.take g).count a:Nat):Int))):=VisF.put (F:=fun a=>a=gn) (VisF.of_vis ((Vis.of_below u.out).trans x.1)) (p:=gn) (.inl rfl) _;have U:Keep (fun a=>a=b∨a=c∨a=gn) w (w1.setCell gn (.int .i64 (((i.take g).count a:Nat):Int))):=Keep.setCell (F:=fun a=>a=b∨a=c∨a=gn) ((Keep.of_below u.out).trans (x.2.mono fun a _ j=>.inr (.inl j))) (p:=gn) (.inl (.inr (.inr rfl))) _;obtain ⟨G,a5⟩:=eqx (w1.setCell gn (.int .i64 (((i.take g).count a:Nat):Int)));rw [a5] at C B Y v K S U⊢;have aF:G.cell? w.heap.size=some (.pointer (some c)):=(v.cell 0).trans rfl;obtain ⟨E,ao,am,ak,al,ap,aq⟩:=hqq7 C v K S U B Y;have aB:=B.lt;have aV:=v.lt;have ay:=Bk.ne C v dC;have ax:=Bk.ne C K dC;have az:c≠b:=by rintro rfl;obtain ⟨aT,ae,⟨_,_,H⟩|⟨_,_,_,_,_,I⟩⟩:=ap.out;exact absurd (aL H E.out).1 dC;exact absurd (aL I.tree E.out).1 dC
 clear C v K S U B Y a5 ac aa V x u N a1 a0 Z a3 a2 aF;go_wp2_with fail;refine wp_region_any kR ?_;refine bH [9,10,11,12,13,14,15,16,17,18] (fun a=>a=b) 10 [3,10] (fun s=>Bk s b 154 (wcells y n r)) (fun _ s=>Bk s b 154 (wcells y n (IntKind.i64.wrap (r+D)))) [is b,is b,is (.pointer (some ⟨b,10,none⟩)),is (.int .i64 r),is w.heap.size,is c,is (.int .i64 D),is (.int .i64 (IntKind.i64.wrap (r+D))),is b,is (.pointer (some ⟨b,10,none⟩)),dA] _ _ rfl kR kR (E.out) (fun s b1 e _ aw=>Bk.below e aw e.lt) (fun _ _ _ e g=>Bk.below e g e.lt) tA0 ?_ ?_
 · refine aO ?_;refine pH3 0 (.pointer (some b)) ?_;refine pV3 0 9 ?_;refine pV3 1 10 ?_;refine sC3 (fun _ o _ P _ _ _ q _ _ _ z=>?_) ?_
   · have A:=P rfl;have aM:_=_:=q 2 11 kR rfl;have aH:o.cell? ⟨b,10,none⟩=some (.int .i64 r):=(A.cell 10).trans (bI _ _ _).2.2.2.2.2.2.2.2.2.2;go_simp;exact kq z rfl
   refine pH3 4 (.pointer (some w.heap.size)) ?_;refine pL3 4 13 (fun o f=>have f:Keep (fun a=>a=b) G o:=kD f;(((f.bk ao.out (fun e=>ay (show w.heap.size=b from e).symm)).cell 0).trans rfl:o.cell? w.heap.size=some (.pointer (some c)))) ?_;refine sC3 (fun _ o f _ _ _ _ q _ _ _ z=>?_) ?_
   · replace f:Keep (fun a=>a=b) G o:=kD f;have aN:_=_:=q 5 14 kR rfl;go_simp;refine (fN c D o ((f.cell aB az).trans aq.out)).mono ?_;rintro j b2 ⟨rfl,av⟩;exact z _ _ (aJ av) rfl
   refine pW3 3 12 6 15 ?_;refine pV3 0 9 ?_;refine pV3 8 17 ?_;refine sC3 (fun _ o _ P _ _ _ q _ _ _ z=>?_) ?_
   · have A:=P rfl;have aQ:_=_:=q 9 18 kR rfl;have aP:_=_:=q 7 16 kR rfl;have aI:o.cell? ⟨b,10,none⟩=some (.int .i64 r):=(A.cell 10).trans (bI _ _ _).2.2.2.2.2.2.2.2.2.2;have aS:=A.frozen 10;go_simp;refine z (.bool true) _ (aU (Keep.setCell (F:=fun a=>a=b) (Keep.refl _ _) (p:=⟨b,10,none⟩) (.inl rfl) _)) ?_;rw [<-cR y n r];exact A.set 10 _
   exact aD
 · intro aR af f q a7;replace f:Keep (fun a=>a=b) G af:=kD f;obtain ⟨b0,ad⟩:∃aG,(fun _ s=>Bk s b 154 (wcells y n (IntKind.i64.wrap (r+D)))) aG af:=a7 10 dC;simp only [zqq];clear q a7;have ab:=Vis.of_wave f E.out ad;have a4:=VisF.trans ak.out (VisF.of_vis ab);have H:=al.out.trans (f.mono fun a _ j=>.inl j);have I:=f.bk am.out (fun j=>ax (show gn=b from j).symm);obtain ⟨ah,ai,aj⟩:=hqq3 a4 H I;clear ab a4 H I ad f;go_wp2_with fail;go_end0;exact ⟨rfl,ah.out,ai.out,aj.out⟩
def mA (p b:Nat) (u:Nat->Value) (n J f g:Int) (o:List Bool) (c:Nat) (a:Bool) (w:World) (r:Bk w p 154 (wcells u n J)) (F:TreeAt w b o) (U:c<=o.length):
 Calls prog 114 #[p,.agg #[b,.int .i64 f,.int .i64 g],(c:Int),.bool a] w fun e w'=>e=.returned (.int .i64 (((o.take c).count a:Nat):Int))/\VisK (fun a=>a=p∨a=b) w w':=by
 have W:∀(x:Fn) (first v:Array Value) (w:World),(Instr.makeFunc x first v).run prog w=.ok (.func x first v) w:=fun _ _ _ _=>rfl;obtain ⟨k,j⟩:=eqx ((((w.alloc (.cells #[b,.int .i64 f,.int .i64 g] 157)).alloc (.cells #[(c:Int)] 3)).alloc (.cells #[.bool a] 4)).alloc (.cells #[.int .i64 0] 3));have q:Below w.heap.size w k:=by rw [<-j];exact (((bR.alloc nL _).alloc (by simp) _).alloc (by simp;omega) _).alloc (by simp;omega) _
 have y:Bk k (w.heap.size+1) 3 #[(c:Int)]:=by rw [<-j];have i:=Bk.new (w.alloc (.cells #[b,.int .i64 f,.int .i64 g] 157)) 3 #[(c:Int)];rw [show (w.alloc (.cells #[b,.int .i64 f,.int .i64 g] 157)).heap.size=w.heap.size+1 from by simp] at i;exact (i.alloc _).alloc _
 have z:Bk k (w.heap.size+1+1) 4 #[.bool a]:=by rw [<-j];have i:=Bk.new ((w.alloc (.cells #[b,.int .i64 f,.int .i64 g] 157)).alloc (.cells #[(c:Int)] 3)) 4 #[.bool a];rw [show ((w.alloc (.cells #[b,.int .i64 f,.int .i64 g] 157)).alloc (.cells #[(c:Int)] 3)).heap.size=w.heap.size+1+1 from by simp] at i;exact i.alloc _
 have A:Bk k (w.heap.size+1+1+1) 3 #[.int .i64 0]:=by rw [<-j];have i:=Bk.new (((w.alloc (.cells #[b,.int .i64 f,.int .i64 g] 157)).alloc (.cells #[(c:Int)] 3)).alloc (.cells #[.bool a] 4)) 3 #[.int .i64 0];rw [show (((w.alloc (.cells #[b,.int .i64 f,.int .i64 g] 157)).alloc (.cells #[(c:Int)] 3)).alloc (.cells #[.bool a] 4)).heap.size=w.heap.size+1+1+1 from by simp] at i;exact i
 have I:=r.below q r.lt;have G:=F.below q;obtain ⟨S,Q,K,L,M,P,s⟩:=hqq7 I G y z A j q;clear r F I G y z A j q;go_enter func114,ntmps114;go_wp2_with fail;rw [P.out];refine (aGW p b _ _ _ u n J f g _ o c a k S.out Q.out K.out L.out M.out U).mono ?_;rintro e w1 ⟨rfl,H,D,E⟩;have B:Vis w w1:=VisF.to_vis (VisF.trans (VisF.of_vis (Vis.of_below s.out)) H) (fun a T e=>by omega);have C:Keep (fun a=>a=p∨a=b) w w1:=(Keep.of_below s.out).trans' D (fun a T e=>by
  rcases e with e | e | e;exact .inl e;exact .inr e
  · omega)
 have V:w1.cell? ⟨w.heap.size+1+1+1,0,none⟩=some (.int .i64 (((o.take c).count a:Nat):Int)):=(E.cell 0).trans rfl;obtain ⟨N,O⟩:=hqq2 B C;clear H D E B C;go_wp2_with fail;go_ret;exact ⟨rfl,N.out,O.out⟩
def fW:(prog.info? 3).map (fun a=>(a.zero,a.size,a.bytes))=some (some (.int .i64 0),1,8):=by kernel_rfl
def pI (l:List Nat):∀a∈l.map sv,a.oneCell'=true:=by
 intro a b;obtain ⟨c,_,rfl⟩:=zAy.1 b;rfl
def dK (t:List UInt8):List Nat:=t.map (fun a=>a.toNat+1)
def aG (t:List UInt8):List Nat:=dK t++ [0]
def aM (t:List UInt8):(aG t).length=t.length+1:=by simp [aG,dK]
def eU (t:List UInt8):∀c∈aG t,c < 257:=by
 intro c b;unfold aG dK at b;rcases zCp.1 b with a | a;obtain ⟨e,_,rfl⟩:=zAy.1 a;have:=e.toNat_lt;omega;simp at a;omega
def oN (a:UInt8) (w:World):
 Calls prog 52 #[.int .u8 (a.toNat:Int)] w fun b w'=>b=.returned (.int .i64 ((a.toNat+1:Nat):Int))/\Below w.heap.size w w':=by
 have e:=a.toNat_lt;have c:IntKind.i64.wrap (a.toNat:Int)=(a.toNat:Int):=by rw [IntKind.wrap_i64];omega
 go_enter func52,ntmps52;go_wp2;go_ret;exact ⟨fG oM,Below.refl _ _⟩
def xU (k ag:Nat) (f:Option Addr) (m s C:Nat) (t:List UInt8) (w:World) (y:Bk w k 26 #[.slice f m s]) (x:Rd w C 1 f m (t.map bv)) (a2:C<=w.heap.size) (ai:m<=1000):
 Calls prog 143 #[.slice (some k) 1 1] w fun G w'=>∃g j,G=.returned (.slice g (m+1) j)/\Made w' w.heap.size 3 1 g (m+1) j ((aG t).map sv)/\Below w.heap.size w w':=by
 obtain ⟨V,K,S,T,U⟩:=info_parts fW;have Q:t.length=m:=by simpa using x.1
 have a1:w.cell? k=some (.slice f m s):=(y.cell 0).trans rfl;have a5:=y.lt;obtain ⟨a0,E⟩:=hqq2 (x.mono a2) Q;clear y x Q;go_enter func143,ntmps143;go_wp2_with fail;go_loopw [3,10] (fun B e wr=>∃a:Nat,a<=1/\e=.int .i64 a/\wr.ownsRow w.heap.size 3 1 B (if a=0 then 0 else m) ((if a=0 then [] else dK t).map sv)/\Below w.heap.size w wr) (fun _ e _=>1 -(intOf e).toNat)
 case atStart=>exact ⟨0,by omega,rfl,World.ownsRow_nil _ _ _ _,Below.refl _ _⟩
 case round=>
  obtain ⟨a,a6,rfl,b,c⟩:=hrel;have p:=c.size;rcases a with _ | a
  · have af:wr.cell? k=some (.slice f m s):=(c.cell a5).trans a1;obtain ⟨i,Y⟩:=hqq2 b c;clear b c;go_wp2_with fail;obtain ⟨F,a3⟩:∃F,F=wr:=⟨_,rfl⟩;subst a3;go_loopw [3,16] (fun B e W=>∃a:Nat,a<=m/\e=.int .i64 a/\W.ownsRow w.heap.size 3 1 B a ((dK (t.take a)).map sv)/\Below w.heap.size w W) (fun _ e _=>m -(intOf e).toNat)
    case atStart=>exact ⟨0,by omega,rfl,i.out,Y.out⟩
    case round=>
        obtain ⟨a,a6,rfl,b,c⟩:=hrel;have p:=c.size;by_cases M:a < m
        · have a8:a < t.length:=(by rw [E.out];exact M);obtain ⟨q,A⟩:∃q,t[a]?=some q:=⟨t[a],zAa a8⟩;obtain ⟨ae,aj,ak,rfl,ah,z,a4⟩:=(a0.out.below c).get M;rw [zAf,A] at z;simp at z;subst z;have P:t.take (a+1)=t.take a++ [q]:=(by rw [zAv,A];rfl);unfold bv at a4;obtain ⟨X,r⟩:=hqq2 P b;clear P A b;go_wp2_with fail;refine (oN q _).mono ?_;rintro G w1 ⟨rfl,I⟩;have N:=aR r.out I;have J:=c.trans (I.mono p);have O:=J.size;have D:=lhd N;clear N;go_wp2_with (at_builtin;refine bO _ rfl (.tmp 20) (.tmp 23) _ rfl w.heap.size 3 V (.int .i64 0) 1 8 underlying22 K S T U rfl dC _ a _ rfl D.out rfl rfl (by simp [Value.oneCell']) (by unfold maxLen;omega) oM O ?_;intro ac ad v o ab H);have u:=aZ J D.out o O;clear o H;go_roundw
          case rel=>refine ⟨a+1,by omega,by go_num,?_,u⟩;rw [X.out,dK,zAz,zAz];exact v
          case measure=>simp [intOf];omega
        · have a9:a=m:=oM;subst a9;rw [zAg (by rw [E.out];omega)] at b;have r:=lhd b;clear b;go_wp2_with fail;go_roundw
          case rel=>exact ⟨1,by omega,by go_num,r.out,c⟩
          case measure=>simp [intOf]
  · have a7:a=0:=oM;subst a7;rw [zBw oM,zBw oM] at b;have i:=lhd b;have L:(aG t).map sv=(dK t).map sv++ [.int .i64 0]:=(by simp [aG,sv]);have Z:=lhd L;clear b L;go_wp2_with (at_builtin;refine bO _ rfl (.tmp 27) (.tmp 28) _ rfl w.heap.size 3 V (.int .i64 0) 1 8 underlying22 K S T U rfl dC _ m _ rfl i.out rfl rfl (by simp [Value.oneCell']) (by unfold maxLen;omega) oM p ?_;intro ac ad v o ab H);have u:=aZ c i.out o p;obtain ⟨g,j,rfl,aa⟩:=aT v;go_ret;exact ⟨g,j,rfl,by rw [Z.out];exact aa,u⟩
def zR (i:Option Addr) (n b j:Nat) (l:List Nat) (w:World) (g:Rd w j 1 i n (l.map sv)) (q:j<=w.heap.size) (E:n<=1073741824):
 Calls prog 144 #[.slice i n b] w fun p w'=>∃e f,p=.returned (.slice e n f)/\Made w' w.heap.size 3 1 e n f (l.map sv)/\Below w.heap.size w w':=by
 obtain ⟨C,u,z,A,B⟩:=info_parts fW;have F:∀(w:World) (a:Option Addr) (n b:Nat),(binOp .eql 22 (.slice a n b) (.slice none 0 0)).run prog w=.ok (.bool a.isNone) w:=fun w a n b=>Lib.run_eql_slice_nil w _ _ a n b _ _ underlying22;rcases i with _ | a
 · have y:n=0:=by
    rcases zBa n with c | c;exact c
    · obtain ⟨_,_,c,_⟩:=g.2 c;cases c
   subst y;have v:l= []:=(by have:=g.1;simp only [zBc,Nat.zero_mul] at this;exact zBk this);subst v;go_enter func144,ntmps144;go_wp2;go_ret;exact ⟨none,0,rfl,⟨World.ownsRow_nil _ _ _ _,Rd.nil _ _ _ _,zAs _,zAp _⟩,Below.refl _ _⟩
 · have o:=lhd g;clear g;go_enter func144,ntmps144;go_wp2_with (at_builtin;refine bY _ rfl (.tmp 5) (.tmp 6) _ rfl w.heap.size 3 C (.int .i64 0) 1 8 underlying22 u z A B rfl dC (.slice (some ⟨w.heap.size,0,none⟩) 0 0) 0 [] rfl (nW w 3 1) w.heap.size (some a) n b _ rfl ((o.out.mono q).alloc nL _) (pI _) (by unfold maxLen;omega) oM (by simp) ?_;intro G H k s D);have r:=aZ ((Below.refl w.heap.size w).alloc nL _) (nW w 3 1) s (by simp);rw [zBi,List.nil_append] at k;obtain ⟨e,f,rfl,x⟩:=aT k;go_wp2;go_ret;exact ⟨e,f,rfl,x,r⟩
structure OrdAt (W:World) (gw gn gr:Nat) (w n:Nat) (A:Option Addr) (c:Nat) (R:List Nat):Prop where
 wide:W.cell? gw=some (.int .i64 (w:Int))
 len:W.cell? gn=some (.int .i64 (n:Int))
 rank:W.cell? gr=some (.slice A n c)
 rd:Rd W W.heap.size 1 A n (R.map sv)
def OrdAt.drewN {c:World} {gw gn gr w n e:Nat} {b:Option Addr} {R:List Nat} (a:OrdAt c gw gn gr w n b e R) (f:Nat):OrdAt (c.drewN f) gw gn gr w n b e R:=⟨a.wide,a.len,a.rank,a.rd⟩
def OrdAt.at {g:World} {gw gn gr w n j:Nat} {f:Option Addr} {R:List Nat} (k:OrdAt g gw gn gr w n f j R) {e:Nat} (p:e < n):∃(a b c:Nat),f=some ⟨a,b,none⟩/\R[e]?=some c/\g.cell? ⟨a,b+e,none⟩=some (.int .i64 (c:Int)):=by
 obtain ⟨a,b,s,rfl,r,i,o⟩:=k.rd.get p;rw [zAf] at i;obtain ⟨c,q,rfl⟩:=Option.map_eq_some_iff.1 i;exact ⟨a,b,c,rfl,q,o⟩
def aAA (gw gn gr w n j:Nat) (i:Option Addr) (R:List Nat) (b:Nat) (f:World) (a:OrdAt f gw gn gr w n i j R) (C:w<=1000) (B:n<=1000) (A:b < n):
 Calls prog 145 #[(b:Int),gw,gn,gr] f fun k w'=>k=.returned (.int .i64 (aN R (b+w)))/\∃r,w'=f.drewN r:=by
 have y:R.length=n:=by simpa using a.rd.1
 have u:=a.wide;have v:=a.len;have x:=a.rank;by_cases o:b+w < n
 · have q:(b:Int)+(w:Int) < (n:Int):=oM;obtain ⟨s,D,E,rfl,g,z⟩:=a.at o;have c:=kI g;have e:=lhd c;clear g a c;go_enter func145,ntmps145;go_wp2;go_ret;exact ⟨by rw [e.out];first | rfl | simp_all,0,rfl⟩
 · have q:¬((b:Int)+(w:Int) < (n:Int)):=oM;have c:=mO (l:=R) (p:=b+w) oM;have e:=lhd c;clear a c;go_enter func145,ntmps145;go_wp2;go_ret;exact ⟨by rw [e.out];rfl,0,rfl⟩
def aAz (gw gn gr G w n s:Nat) (M:Option Addr) (R:List Nat) (e f:Nat) (c:World) (a:OrdAt c gw gn gr w n M s R) (Z:c.cell? G=some (.func (.func 145) #[] #[gw,gn,gr])) (J:w<=1000) (I:n<=1000) (o:∀U∈R,U<=1000) (K:e < n) (L:f < n):
 Calls prog 146 #[(e:Int),(f:Int),gr,G] c fun i w'=>i=.returned (.int .i64 (jW (aN R) w e f))/\∃b,w'=c.drewN b:=by
 have X:=a.rank;have D:=lhd a;obtain ⟨V,a4,j,H,x,a0⟩:=a.at K;obtain ⟨W,a5,b,k,g,a1⟩:=a.at L;rw [H] at k;injection k with k;injection k with e1 e2;subst e1 e2;have a2:=o j (zAd x);have a3:=o b (zAd g);have E:=kI x;have F:=kI g;have r:∀y,-1<=aN R y/\aN R y<=1000:=by
  intro y;unfold aN;split
  · next z hz=>
    have:=o z (zAd hz);omega
  omega
 have b1:=r (e+w);have b2:=r (f+w);have v:jW (aN R) w e f=if (j:Int)≠(b:Int) then (j:Int) -(b:Int) else aN R (e+w) - aN R (f+w):=by unfold jW;rw [E,F]
 obtain ⟨A,p⟩:=eqx (aN R (e+w));obtain ⟨B,q⟩:=eqx (aN R (f+w));rw [p,q] at v;rw [p] at b1;rw [q] at b2;rw [v];subst H;obtain ⟨N,O⟩:=hqq2 p q;clear a x g E F r v p q o;by_cases Q:j=b
 · subst Q;rw [zBw (by simp)];go_enter func146,ntmps146;go_wp2;go_quiet (fail);go_wp2;have S:∀m:Nat,Calls prog 145 #[(e:Int),gw,gn,gr] (c.drewN (nq+m)) fun i C=>i=.returned (.int .i64 A)/\∃n,C=c.drewN (nq+n):=fun m=>by have a:=aAA gw gn gr w n s _ R e (c.drewN (nq+m)) (D.out.drewN _) J I K;rw [N.out] at a;exact a.mono fun _ _ ⟨u,b,g⟩=>⟨u,m+b,by rw [g,World.drewN_drewN,Nat.add_assoc]⟩
   have T:∀m:Nat,Calls prog 145 #[(f:Int),gw,gn,gr] (c.drewN (nq+m)) fun i C=>i=.returned (.int .i64 B)/\∃n,C=c.drewN (nq+n):=fun m=>by have a:=aAA gw gn gr w n s _ R f (c.drewN (nq+m)) (D.out.drewN _) J I L;rw [O.out] at a;exact a.mono fun _ _ ⟨u,b,g⟩=>⟨u,m+b,by rw [g,World.drewN_drewN,Nat.add_assoc]⟩
   have Y:IntKind.i64.wrap (A - B)=A - B:=(by rw [IntKind.wrap_i64];omega);go_quiet ((first |(with_reducible exact S _)|(with_reducible exact T _)));go_wp2;go_ret;exact ⟨fG (by first | omega | rfl),_,World.drewN_drewN _ _ _⟩
 · have P:¬((j:Int)=(b:Int)):=oM;rw [zBx P];go_enter func146,ntmps146;go_wp2;go_quiet (fail);go_wp2;go_quiet (fail);go_wp2;go_ret;exact ⟨fG oM,_,World.drewN_drewN _ _ _⟩
end
section
open Go.RowKit Go Go.Sort
def sufLt (l:List Nat) (a b:Nat):Prop:=∃w,ltW (aN l) w a b
def aA1 {a:Nat->Int} {w w' b c:Nat} (e:ltW a w b c) (j:w<=w'):ltW a w' b c:=by
 obtain ⟨g,i,f⟩:=e;exact ⟨g,by omega,f⟩
def sufLt.asymm {l:List Nat} {c e:Nat} (a:sufLt l c e) (b:sufLt l e c):False:=by
 obtain ⟨w,a⟩:=a;obtain ⟨w',b⟩:=b;exact (aA1 a (Nat.le_max_left w w')).asymm (aA1 b (Nat.le_max_right w w'))
def sufLt.trans {l:List Nat} {c e f:Nat} (a:sufLt l c e) (b:sufLt l e f):sufLt l c f:=by
 obtain ⟨w,a⟩:=a;obtain ⟨w',b⟩:=b;exact ⟨_,(aA1 a (Nat.le_max_left w w')).trans (aA1 b (Nat.le_max_right w w'))⟩
def sufLt.tri {l:List Nat} {c e:Nat} (f:c < l.length) (i:e < l.length) (g:c≠e):sufLt l c e∨sufLt l e c:=by
 rcases oB (a:=aN l) l.length c e with b | b | b;exact .inl ⟨_,b⟩;exact absurd b (aFk nL f i g);exact .inr ⟨_,b⟩
structure IsSuf (l rs:List Nat):Prop where
 perm:rs.Perm (List.range l.length)
 sorted:rs.Pairwise (sufLt l)
def IsSuf.len {l a:List Nat} (b:IsSuf l a):a.length=l.length:=by simpa using b.perm.length_eq
def IsSuf.lt {l a:List Nat} (b:IsSuf l a) {p:Nat} (c:p∈a):p < l.length:=by simpa using b.perm.mem_iff.1 c
def IsSuf.mem {l b:List Nat} (c:IsSuf l b) {a:Nat} (e:a < l.length):a∈b:=c.perm.mem_iff.2 (by simpa using e)
def IsSuf.nodup {l a:List Nat} (b:IsSuf l a):a.Nodup:=b.perm.nodup_iff.2 List.nodup_range
def IsSuf.unique {l c e:List Nat} (a:IsSuf l c) (b:IsSuf l e):c=e:=by
 refine List.Perm.eq_of_pairwise (le:=sufLt l) ?_ a.sorted b.sorted (a.perm.trans b.perm.symm);intro i j _ _ f g;exact (f.asymm g).elim
def fA (m:Nat) (a:Fin (m+1)):Value:=.int .i64 ((a.val:Nat):Int)
def lO (m:Nat) (a:Fin (m+1)):(fA m a).oneCell'=true:=rfl
section
variable {α : Type} [Inhabited α] {enc : α -> Value} {w : World} {blk : Nat} {t : TypeId} {d d' : Array α}
def aCG (d:Array α) (a:Nat) (b:a < d.size):d[a]! =d[a]:=getElem!_pos d a b
def aAW (c:d'.size=d.size):putCells enc 0 d' (d.map enc)=d'.map enc:=by
 apply Array.ext
 · simp [putCells,c]
 · intro e f a;have b:e < d'.size:=(by simpa using a);simp [putCells,b,aCG]
def aIX (a:Bk w blk t (d.map enc)) (e:d'.size=d.size) (n:Nat) (f:Array Obj):Bk (sortWorld enc w blk 0 n d' f) blk t (d'.map enc):=by
 have c:=a.lt;unfold Bk at a⊢;have b:(putRow enc (Sort.ahead w n) blk 0 d').heap[blk]?=some (.cells (d'.map enc) t (0,0)):=by show (w.heap.modify blk _)[blk]?=_;rw [Array.getElem?_modify,zBx rfl,a];simp only [Option.map_some,onCells];rw [aAW e]
 unfold sortWorld;rw [heap_grow_old _ _ (by show blk < (w.heap.modify blk _).size;simpa using c)];exact b
def jE (j:blk < w.heap.size) (i n:Nat) (d':Array α) (b:Array Obj):Keep (fun c=>c=blk) w (sortWorld enc w blk i n d' b):=by
 refine ⟨rfl,rfl,rfl,?_,fun a f g=>?_⟩
 · show w.heap.size<=((w.heap.modify blk _)++b).size;simp
 · unfold sortWorld;rw [heap_grow_old _ _ (by show a < (w.heap.modify blk _).size;simpa using f)];show (w.heap.modify blk _)[a]?=_;rw [Array.getElem?_modify,zBw (fun e=>g e.symm)]
def aIz (a:Bk w blk t (d.map enc)):Holds enc w blk 0 d:=by
 intro c b;rw [zBi];refine ⟨?_,a.frozen c⟩;rw [a.cell];simp [b,aCG]
end
def vY {α:Type} [Inhabited α] {d d':Array α} (a:PermIn 0 d.size d d'):d'.toList.Perm d.toList:=by
 have e:=a.2.2;have b:d'.extract 0 d.size=d':=by rw [<-a.1];exact Array.extract_size
 have c:d.extract 0 d.size=d:=Array.extract_size;rwa [b,c] at e
def eD {m:Nat} (d:Array (Fin (m+1))) (a:Nat):Nat:=(d[a]!).val
structure RowsOk (m:Nat) (d:Array (Fin (m+1))):Prop where
 size:d.size=m+1
 perm:d.toList.Perm (List.finRange (m+1))
def kQ {m:Nat} {d:Array (Fin (m+1))} {i:Nat} (a:i < d.size):(d.toList.map (·.val))[i]?=some (eD d i):=by
 rw [zAf,Array.getElem?_toList,zAq a];simp [eD,aCG d i a]
section
variable {m : Nat} {d : Array (Fin (m + 1))}
def RowsOk.lt (b:RowsOk m d) (a:Nat):eD d a < m+1:=(d[a]!).isLt
def RowsOk.vals (c:RowsOk m d):(d.toList.map (·.val)).Perm (List.range (m+1)):=by
 have a:=c.perm.map (·.val);have b:(List.finRange (m+1)).map (·.val)=List.range (m+1):=by
  apply List.ext_getElem
  · simp
  · intro f a e;simp
 rwa [b] at a
def RowsOk.nodup (a:RowsOk m d):(d.toList.map (·.val)).Nodup:=a.vals.nodup_iff.2 List.nodup_range
def RowsOk.inj (a:RowsOk m d) {i j:Nat} (b:i < m+1) (e:j < m+1) (c:eD d i=eD d j):i=j:=by
 refine (List.getElem?_inj (l:=d.toList.map (·.val)) (by simpa [a.size] using b) a.nodup).1 ?_;rw [kQ (by rw [a.size];exact b),kQ (by rw [a.size];exact e),c]
def RowsOk.sur (c:RowsOk m d) {p:Nat} (k:p < m+1):∃a,a < m+1/\eD d a=p:=by
 have g:p∈d.toList.map (·.val):=c.vals.mem_iff.2 (by simpa using k);obtain ⟨a,e,j⟩:=List.getElem_of_mem g;have f:a < m+1:=by simpa [c.size] using e
 refine ⟨a,f,?_⟩;have b:=kQ (d:=d) (i:=a) (by rw [c.size];exact f);rw [zAa e,j] at b;injection b with b;exact b.symm
def RowsOk.cell (b:RowsOk m d) {a:Nat} (c:a < m+1):(d.map (fA m))[a]?=some (.int .i64 ((eD d a:Nat):Int)):=by
 have:a < d.size:=by rw [b.size];exact c
 simp [fA,eD,this,aCG]
def RowsOk.of_perm {d':Array (Fin (m+1))} (a:RowsOk m d) (b:PermIn 0 d.size d d'):RowsOk m d':=
 ⟨b.1.trans a.size,(vY b).trans a.perm⟩
def RowsOk.suf (c:RowsOk m d) {l:List Nat} (q:l.length=m+1) {w:Nat} (r:∀a b,a < b->b < m+1->ltW (aN l) w (eD d a) (eD d b)):IsSuf l (d.toList.map (·.val)):=by
 refine ⟨by rw [q];exact c.vals,?_⟩;rw [zAr];intro a b g j p;have o:a < m+1:=by simpa [c.size] using g
 have k:b < m+1:=by simpa [c.size] using j
 have e:=kQ (d:=d) (i:=a) (by rw [c.size];exact o);have f:=kQ (d:=d) (i:=b) (by rw [c.size];exact k);rw [zAa g] at e;rw [zAa j] at f;injection e with e;injection f with f;rw [e,f];exact ⟨w,r a b p k⟩
end
def vT (m:Nat):Array (Fin (m+1)):=(List.finRange (m+1)).toArray
def aHx (m:Nat):RowsOk m (vT m):=⟨by simp [vT],by simp [vT]⟩
def aHH {n:Nat} {cs:Array Value} {f:Nat->Nat} {v:Nat->Nat} (z:n<=cs.size) (r:∀a,a < n->f a < n) (q:∀a,a < n->cs[f a]?=some (.int .i64 ((v a:Nat):Int))) (s:∀g,g < n->∃b,b < n/\f b=g):
 ∃R:List Nat,R.length=n/\(∀a,a < n->R[f a]?=some (v a))/\(∀(a:Nat) k,(R.map sv)[a]?=some k->cs[a]?=some k)/\∀u∈R,∃a,a < n/\u=v a:=by
 let p:Nat->Nat:=fun g=>match cs[g]? with
  | some (.int _ o)=>o.toNat
  | _=>0
 have i:∀a,a < n->p (f a)=v a:=by intro a e;show (match cs[f a]? with | some (.int _ o)=>o.toNat | _=>0)=v a;rw [q a e];simp
 refine ⟨(List.range n).map p,by simp,fun a e=>?_,fun a k j=>?_,fun u y=>?_⟩
 · simp [r a e,i a e]
 have e:a < n:=(by have:=(zAc.1 j).1;simpa using this);obtain ⟨b,c,rfl⟩:=s a e;simp [r b c,i b c] at j;rw [q b c,<-j];rfl;obtain ⟨g,x,rfl⟩:=zAy.1 y;obtain ⟨b,c,rfl⟩:=s g (by simpa using x);exact ⟨b,c,i b c⟩
def cfF (m w:Nat) (R:List Nat) (a b:Fin (m+1)):Int:=jW (aN R) w a.val b.val
def aJV {l R:List Nat} {w:Nat} (m:Nat) (b:RankOk (aN l) (aN R) w):SWO (ltOf (cfF m w R)) where
 irrefl x:=by unfold ltOf cfF;rw [decide_eq_false_iff_not,uW b];exact fun b=>b.irrefl
 trans x y z h1 h2:=by
  unfold ltOf cfF at*
  rw [decide_eq_true_iff,uW b] at*
  exact h1.trans h2
 ntrans x y z h1 h2:=by
  unfold ltOf cfF at*
  rw [decide_eq_false_iff_not,uW b] at*
  intro e;rcases oB (a:=aN l) (w+w) x.val y.val with c | c | c;exact h1 c;exact h2 (ltW.eq_left c.symm e);exact h2 (c.trans e)
def aHl {l R:List Nat} {w m:Nat} {d:Array (Fin (m+1))} (c:RankOk (aN l) (aN R) w) (g:d.size=m+1) (f:SortedIn (ltOf (cfF m w R)) 0 (m+1) d) (a:Nat) (e:a+1 < m+1):¬ltW (aN l) (w+w) (eD d (a+1)) (eD d a):=by
 have b:=f a (a+1) (zAp _) oM e;unfold ltOf cfF at b;rw [decide_eq_false_iff_not,uW c] at b;exact b
end
section
open Go.RowKit Go
open Go.Sort (SortedIn PermIn SWO Holds)
def mT (n:Nat) (i:n<=1000000) (w:World):(Instr.makeSlice 22 (.int .i64 (n:Int)) (.int .i64 (n:Int))).run prog w=.ok (.slice (some w.heap.size) n n) (w.alloc (.cells (Array.replicate n (.int .i64 0)) 3)):=by
 obtain ⟨g,b,c,e,f⟩:=info_parts fW;have:=run_make (P:=prog) w 22 3 g (.int .i64 0) underlying22 b c .i64 .i64 n n oM (Int.le_refl _) (by rw [f];omega) oM;rw [this,e];have a:madeCells #[.int .i64 0] n=Array.replicate n (.int .i64 0):=by apply Array.ext';rw [toList_madeCells_one];simp
 simp only [Value.cells,zBr,zBl];rw [a]
def iT (n b:Nat):Array Value:=((List.range n).map fun a=>Value.int .i64 (((if a < b then a else 0:Nat)):Int)).toArray
def wV (n a:Nat):(iT n a).size=n:=by simp [iT]
def aEz (n:Nat):iT n 0=Array.replicate n (.int .i64 0):=by
 apply Array.ext
 · simp [iT]
 · intro c a b;simp [iT]
def aEA (n a:Nat) (g:a < n):(iT n a).setIfInBounds a (.int .i64 (a:Int))=iT n (a+1):=by
 apply Array.ext
 · simp [iT]
 · intro e i f;rw [Array.getElem_setIfInBounds (by simpa [iT] using f)];by_cases b:a=e
   · subst b;simp [iT]
   · rw [zBw b];simp only [iT,List.getElem_toArray,List.getElem_map,List.getElem_range];by_cases c:e < a
     · rw [zBx c,zBx oM]
     · rw [zBw c,zBw oM]
def aGt (m:Nat):iT (m+1) (m+1)=(vT m).map (fA m):=by
 apply Array.ext
 · simp [iT,vT]
 · intro c a e;have b:c < m+1:=(by simpa [iT] using a);simp [iT,vT,fA,b]
def aFq {w:World} {b:Nat} {c:TypeId} {a:Array Value} {n B:Nat} (i:Bk w b c a) (j:B<=b) (g:a.size=n) (e:n<=maxLen):Made w B c 1 (some ⟨b,0,none⟩) n n a.toList:=by
 have f:w.ownsRow B c 1 (.slice (some b) n n) n a.toList:=⟨by simp [g],.inr ⟨b,n,a,rfl,j,i,zAs _,e,by omega,by rw [zAg (by simp [g])]⟩⟩;exact ⟨f,Rd.of_own f,zAs _,e⟩
def aI5 {m:Nat} (d:Array (Fin (m+1))):(d.map (fA m)).toList=(d.toList.map (·.val)).map sv:=by
 simp [fA,sv]
def aAi {f:Array Value} {c e:Nat->Nat} {b g:Nat} (j:∀a,a < b->f[c a]?=some (.int .i64 ((e a:Nat):Int))) (o:c b < f.size) (k:∀a,a < b->c a≠c b) (p:e b=g) (a:Nat) (r:a < b+1):(f.setIfInBounds (c b) (.int .i64 (g:Int)))[c a]?=some (.int .i64 ((e a:Nat):Int)):=by
 by_cases i:a=b
 · subst i;rw [zCd,zBx rfl,zBx o,p]
 rw [zCd,zBw (fun q=>k a oM q.symm)];exact j a oM
structure RInv (B0:Nat) (w0:World) (m n:Nat) (l:List Nat) (gn gr gx:Nat) (wr:World) (gw g6 g7 c6 c7 wd:Nat) (d:Array (Fin (m+1))) (R:List Nat):Prop where
 wide:Bk wr gw 3 #[(wd:Int)]
 len:Bk wr gn 3 #[(n:Int)]
 box:Bk wr gr 22 #[.slice (some g6) n c6]
 rank:∃cs:Array Value,Bk wr g6 3 cs/\n<=cs.size/\∀(j:Nat) u,(R.map sv)[j]?=some u->cs[j]?=some u
 next:∃cs:Array Value,Bk wr g7 3 cs/\n<=cs.size
 rows:Bk wr gx 3 (d.map (fA m))
 ok:RowsOk m d
 ap:gx≠gw/\gx≠gn/\gx≠g6/\gx≠g7/\g7≠gw/\g7≠gn/\g7≠g6/\g6≠gw/\g6≠gn
 lo:B0<=gx/\B0<=g6/\B0<=g7/\B0<=gr
 cap:n<=c6/\n<=c7
 rlen:R.length=n
 rle:∀r∈R,r<=1000
 rk:RankOk (aN l) (aN R) wd
 wd1:1<=wd
 wdn:wd<=n
 below:Below B0 w0 wr
structure SetT (B:Nat) (T:TypeId) (w w':World):Prop where
 below:Below B w w'
 other:∀b t cs,t≠T->Bk w b t cs->Bk w' b t cs
 one:∀b c,Bk w b T #[c]->∃c',Bk w' b T #[c']
def SetT.set {f:Nat} {g:TypeId} {w:World} {a:Nat} {j:Value} (o:Bk w a g #[j]) (q:f<=a) (e:Value):SetT f g w (w.setCell a e):=by
 refine ⟨bR.setCell q _,fun i t s r b=>?_,fun i k b=>?_⟩;exact b.far (fun c=>r (by subst c;exact (aL b o).1)) _;by_cases c:i=a;subst c;exact ⟨e,b.set 0 e⟩;exact ⟨k,b.far (p:=a) c _⟩
section
variable {B0 : Nat} {w0 : World} {m n : Nat} {l : List Nat} {gn gr gx : Nat} {wr w' : World} {gw g6 g7 c6 c7 wd : Nat} {d d' : Array (Fin (m + 1))} {R : List Nat}
def aCp {w:World} {e n:Nat} {R:List Nat} (j:R.length=n) (g:∃a:Array Value,Bk w e 3 a/\n<=a.size/\∀(b:Nat) c,(R.map sv)[b]?=some c->a[b]?=some c):Rd w w.heap.size 1 (some ⟨e,0,none⟩) n (R.map sv):=by
 obtain ⟨a,f,o,i⟩:=g;refine ⟨by simp [j],fun _=>⟨e,0,rfl,f.lt,fun b c k=>?_⟩⟩;rw [zBi,f.cell];exact i b c k
def RInv.ordk (a:RInv B0 w0 m n l gn gr gx wr gw g6 g7 c6 c7 wd d R) (b:Keep (fun g=>g=gx) wr w'):OrdAt w' gw gn gr wd n (some ⟨g6,0,none⟩) c6 R:=by
 obtain ⟨c,e,f,p,q,r,s,u,v⟩:=a.ap;obtain ⟨i,j,k,o⟩:=a.rank;exact ⟨((b.bk a.wide c.symm).cell 0).trans rfl,((b.bk a.len e.symm).cell 0).trans rfl,((b.bk a.box (Bk.ne a.box a.rows dC)).cell 0).trans rfl,aCp a.rlen ⟨i,b.bk j f.symm,k,o⟩⟩
def RInv.keepx (a:RInv B0 w0 m n l gn gr gx wr gw g6 g7 c6 c7 wd d R) (b:Keep (fun c=>c=gx) wr w') (v:Bk w' gx 3 (d'.map (fA m))) (u:RowsOk m d'):RInv B0 w0 m n l gn gr gx w' gw g6 g7 c6 c7 wd d' R:=by
 obtain ⟨e,f,g,i,x,y,z,A,B⟩:=a.ap;obtain ⟨j,o,p,q⟩:=a.rank;obtain ⟨k,r,s⟩:=a.next
 exact ⟨b.bk a.wide e.symm,b.bk a.len f.symm,b.bk a.box (Bk.ne a.box a.rows dC),⟨j,b.bk o g.symm,p,q⟩,⟨k,b.bk r i.symm,s⟩,v,u,a.ap,a.lo,a.cap,a.rlen,a.rle,a.rk,a.wd1,a.wdn,
  a.below.trans (b.to_below (by have:=a.lo.1;have:=a.rows.lt;omega) (fun c D C=>by have:=a.lo.1;omega))⟩
def RInv.keep7 (a:RInv B0 w0 m n l gn gr gx wr gw g6 g7 c6 c7 wd d R) (b:Keep (fun e=>e=g7) wr w') (r:∃c:Array Value,Bk w' g7 3 c/\n<=c.size):RInv B0 w0 m n l gn gr gx w' gw g6 g7 c6 c7 wd d R:=by
 obtain ⟨s,u,v,f,g,i,j,x,y⟩:=a.ap;obtain ⟨c,k,o,p⟩:=a.rank;obtain ⟨z,q,B⟩:=a.next
 exact ⟨b.bk a.wide g.symm,b.bk a.len i.symm,b.bk a.box (Bk.ne a.box q dC),⟨c,b.bk k j.symm,o,p⟩,r,b.bk a.rows f,a.ok,a.ap,a.lo,a.cap,a.rlen,a.rle,a.rk,a.wd1,a.wdn,
  a.below.trans (b.to_below (by have:=a.lo.1;have:=a.rows.lt;omega) (fun e C A=>by have:=a.lo.2.2.1;omega))⟩
def RInv.grow (a:RInv B0 w0 m n l gn gr gx wr gw g6 g7 c6 c7 wd d R) (c:Below wr.heap.size wr w'):RInv B0 w0 m n l gn gr gx w' gw g6 g7 c6 c7 wd d R:=
 a.keep7 (Keep.of_below c) (by
  obtain ⟨e,b,f⟩:=a.next;exact ⟨e,b.below c b.lt,f⟩)
end
def nI (G:Option Addr) (m k cd:Nat) (t:List UInt8) (w:World) (a2:Rd w cd 1 G m (t.map bv)) (e4:cd<=w.heap.size) (fc:m<=200):
 Calls prog 89 #[.slice G m k] w fun q w'=>∃dA aq a7,IsSuf (aG t) dA/\q=.returned (.slice aq (m+1) a7)/\Made w' w.heap.size 3 1 aq (m+1) a7 (dA.map sv)/\Below w.heap.size w w':=by
 have dn:t.length=m:=by simpa using a2.1
 obtain ⟨dH,cz⟩:=hqq2 a2 dn;clear a2 dn;go_enter func89,ntmps89;go_wp2_with fail;obtain ⟨n,bT⟩:=eqx (m+1);have bZ:=xU w.heap.size 0 G m k w.heap.size t (w.alloc (.cells #[.slice G m k] 26)) (Bk.new _ _ _) ((dH.out.mono e4).alloc nL _) (by simp) oM;rw [bT] at bZ;have fe:n<=201:=oM;have ed:1<=n:=oM;have x:=lhd bT;clear bT;refine bZ.mono ?_;clear bZ;rintro q w1 ⟨bg,bA,rfl,df,cZ⟩;have d0:=((Below.refl w.heap.size w).alloc nL _).trans (cZ.mono (by simp));obtain ⟨ct,aE⟩:=hqq2 df d0;clear df cZ d0;go_wp2_with fail;obtain ⟨gn,aZ⟩:=eqx w1.heap.size;have ay:Bk (w1.alloc (.cells #[(n:Int)] 3)) gn 3 #[(n:Int)]:=aZ ▸ Bk.new _ _ _;have b5:=ct.out.below (bR.alloc nL (.cells #[(n:Int)] 3));have bG:=aE.out.alloc aE.out.size (.cells #[(n:Int)] 3);have bF:=b5.rd;have eV:w.heap.size<=gn:=aZ ▸ aE.out.size;rw [aZ];generalize w1.alloc (.cells #[(n:Int)] 3)=W0 at ay b5 bG bF⊢;clear ct aE aZ;have d4:=ay.cell 0;have ds:=ay.lt;have bp:Hid (W0.cell? gn=some (.int .i64 (n:Int))):=lhd d4;obtain ⟨bq,cj,dE,aB,bl⟩:=hqq5 ds bF b5 bG ay;clear d4 ds bF b5 bG ay;refine wp_region_any kR ?_;refine vH [18,19,20,21,22,23,6,5,7] [6,19,21,23] 8 (SetT W0.heap.size 22) (Below W0.heap.size W0) [k0 (is (n:Int)),k0 (fun e s=>∃b,e=.slice (some ⟨b,0,none⟩) n n/\W0.heap.size<=b/\Bk s b 3 (Array.replicate n (.int .i64 0))),k0 (is (.slice bg n bA)),k0 (fun e s=>∃G k,e=.slice G n k/\Made s W0.heap.size 3 1 G n k ((aG t).map sv)),k0 (is (n:Int)),k0 (fun e s=>∃b,e=.slice (some ⟨b,0,none⟩) n n/\W0.heap.size<=b/\Bk s b 3 (Array.replicate n (.int .i64 0))),k0 (fun e s=>∃b k,e=.pointer (some ⟨b,0,none⟩)/\W0.heap.size<=b/\Bk s b 22 #[k]),kEq 19,kLk 6 21 (fun a3 e s=>∃b,a3=.pointer (some ⟨b,0,none⟩)/\W0.heap.size<=b/\Bk s b 22 #[e]),kEq 23] _ _ rfl kR kR (bR.drew) (xH rfl) (fun w w' H a=>a.elim (fun a=>H.trans (a.mono H.size)) (fun a=>H.trans a.below)) (by repeat' (first | exact aED _ | exact aFw _ | exact aJq _ _ _ |(refine zAe.2 ⟨?_,?_⟩)|(intro F P;cases P))) (by repeat' (first | exact uR _ _ | exact aB6 _ | exact qF _ _ | exact jB (fun _ _ _ ⟨b,z,r,A⟩ a=>⟨b,z,r,A.below a A.lt⟩)| exact jB (fun _ _ _ ⟨G,k,z,r⟩ a=>⟨G,k,z,r.below a⟩)| exact jB (fun _ _ _ ⟨b,k,z,r,A⟩ a=>⟨b,k,z,r,A.below a A.lt⟩)| exact jB (fun _ _ _ _ ⟨b,z,r,A⟩ a=>⟨b,z,r,A.below a A.lt⟩)| exact qE (fun _ _ _ ⟨b,z,r,A⟩ a=>⟨b,z,r,A.below a A.lt⟩)| exact qE (fun _ _ _ ⟨G,k,z,r⟩ a=>⟨G,k,z,r.below a⟩)| exact qE (fun _ _ _ ⟨b,k,z,r,A⟩ a=>⟨b,k,z,r,A.below a A.lt⟩)| exact qE (fun _ _ _ _ ⟨b,z,r,A⟩ a=>⟨b,z,r,A.below a A.lt⟩)|(refine zAe.2 ⟨?_,?_⟩)|(intro F P;cases P))) (by simp only [List.eraseIdx_cons_zero,List.eraseIdx_cons_succ,List.eraseIdx_nil];repeat' (first | exact uR _ _ | exact aB6 _ | exact qF _ _ | exact jB (fun _ _ _ ⟨b,z,r,A⟩ a=>⟨b,z,r,a.other _ _ _ dC A⟩)| exact jB (fun _ _ _ ⟨G,k,z,r⟩ a=>⟨G,k,z,nZ r fun Q C V=>a.other _ _ _ dC V⟩)| exact jB (fun _ _ _ ⟨b,k,z,r,A⟩ a=>let ⟨a7,cS⟩:=a.one _ _ A;⟨b,a7,z,r,cS⟩)|(refine zAe.2 ⟨?_,?_⟩)|(intro F P;cases P))) ?_ ?_
 · refine aO ?_;refine aC (cY rfl rfl fun y _ I _ _ _ B _ _ _ _ J=>?_) ?_
   · obtain ⟨D,O⟩:=I;have dZ:y (.tmp 4)=.pointer (some gn):=B 4 kR;clear B;have e7:=(D.cell (p:=gn) bq.out).trans bp.out;go_simp;exact J _ _ (dQ bR rfl rfl) rfl
   refine aC (cY rfl rfl fun _ _ I _ _ _ B E _ _ _ J=>?_) ?_
   · obtain ⟨D,O⟩:=I;have eG:_=_:=E 0 18 kR rfl;clear B;have em:=mT n oM;go_simp;exact J _ _ (jG (bR.alloc nL _) rfl (fun b M=>by simp [blk?] at M;subst M;simp)) ⟨_,rfl,D.size,Bk.new _ _ _⟩
   refine aC (cY rfl rfl fun y _ I _ _ _ B _ _ _ _ J=>?_) ?_
   · obtain ⟨D,O⟩:=I;have eJ:y (.tmp 3)=.slice bg n bA:=B 3 kR;clear B;go_simp;exact J _ _ (dQ bR rfl rfl) rfl
   refine aC (cY rfl rfl fun _ _ I _ _ _ B E cD _ _ J=>?_) ?_
   · obtain ⟨D,O⟩:=I;have eH:_=_:=E 2 20 kR rfl;clear B;go_simp;refine (zR bg n bA W0.heap.size (aG t) _ (cj.out.below D) D.size oM).mono ?_;rintro q fy ⟨aq,a7,rfl,bS,e5⟩;refine J _ _ (jG e5 rfl (fun b M=>?_)) ⟨aq,a7,rfl,bS.mono D.size⟩;obtain ⟨_,_,_,_,fn⟩:=aQ bS.own;rcases aq with _ | cD
     · simp [blk?] at M
     obtain ⟨et,dT,a1,_,aY⟩:=aQ bS.own;injection a1 with a1;have:=aY cD a1.symm;simp [blk?] at M;subst M;exact this
   refine aC (cY rfl rfl fun y _ I _ _ _ B _ _ _ _ J=>?_) ?_
   · obtain ⟨D,O⟩:=I;have dZ:y (.tmp 4)=.pointer (some gn):=B 4 kR;clear B;have e7:=(D.cell (p:=gn) bq.out).trans bp.out;go_simp;exact J _ _ (dQ bR rfl rfl) rfl
   refine aC (cY rfl rfl fun _ _ I _ _ _ B E _ _ _ J=>?_) ?_
   · obtain ⟨D,O⟩:=I;have eI:_=_:=E 4 22 kR rfl;clear B;have em:=mT n oM;go_simp;exact J _ _ (jG (bR.alloc nL _) rfl (fun b M=>by simp [blk?] at M;subst M;simp)) ⟨_,rfl,D.size,Bk.new _ _ _⟩
   refine aC (cY rfl rfl fun _ _ I _ _ _ B _ _ _ _ J=>?_) ?_
   · obtain ⟨D,O⟩:=I;clear B;go_simp;exact J _ _ (jG (bR.alloc nL _) rfl (fun b M=>by simp [blk?] at M;subst M;simp)) ⟨_,_,rfl,D.size,Bk.new _ _ _⟩
   refine aC (cY rfl rfl fun y ao I _ _ _ B E _ _ _ J=>?_) ?_
   · obtain ⟨D,O⟩:=I;have c5:(fun e s=>∃b,e=.slice (some ⟨b,0,none⟩) n n/\W0.heap.size<=b/\Bk s b 3 (Array.replicate n (.int .i64 0))) (y (.tmp 19)) ao:=E 1 19 kR rfl;clear B;clear c5;go_simp;exact J _ _ (dQ bR rfl rfl) (by first | exact e19.symm | rfl)
   refine aC (cY rfl rfl fun y ao I _ _ _ B E _ _ _ J=>?_) ?_
   · obtain ⟨D,O⟩:=I;have ca:(fun e s=>∃b k,e=.pointer (some ⟨b,0,none⟩)/\W0.heap.size<=b/\Bk s b 22 #[k]) (y (.tmp 6)) ao:=E 6 6 kR rfl;have c8:(fun e s=>∃G k,e=.slice G n k/\Made s W0.heap.size 3 1 G n k ((aG t).map sv)) (y (.tmp 21)) ao:=E 3 21 kR rfl;clear B;obtain ⟨b,k,e0,M,V⟩:=ca;obtain ⟨es,ez,dY,fd⟩:=c8;have c6:=V.cell 0;have eK:=V.frozen 0;have eT:=V.lt;go_simp;exact J (.bool true) _ (aH5 (SetT.set V M _) (by simp [World.setCell]) rfl) ⟨b,e0,M,by rw [dY];exact V.set 0 _⟩
   refine aC (cY rfl rfl fun y ao I _ _ _ B E _ _ _ J=>?_) ?_
   · obtain ⟨D,O⟩:=I;have c9:(fun e s=>∃b,e=.slice (some ⟨b,0,none⟩) n n/\W0.heap.size<=b/\Bk s b 3 (Array.replicate n (.int .i64 0))) (y (.tmp 23)) ao:=E 5 23 kR rfl;clear B;clear c9;go_simp;exact J _ _ (dQ bR rfl rfl) (by first | exact e23.symm | rfl)
   exact aD
 · intro y a4 D O E cX;have cP:y (.tmp 5)=y (.tmp 19):=E 7 5 rfl;have ca:(fun e s=>∃b k,e=.pointer (some ⟨b,0,none⟩)/\W0.heap.size<=b/\Bk s b 22 #[k]) (y (.tmp 6)) a4:=E 6 6 rfl;have cQ:y (.tmp 7)=y (.tmp 23):=E 9 7 rfl;have c5:(fun e s=>∃b,e=.slice (some ⟨b,0,none⟩) n n/\W0.heap.size<=b/\Bk s b 3 (Array.replicate n (.int .i64 0))) (y (.tmp 19)) a4:=E 1 19 rfl;have c8:(fun e s=>∃G k,e=.slice G n k/\Made s W0.heap.size 3 1 G n k ((aG t).map sv)) (y (.tmp 21)) a4:=E 3 21 rfl;have c9:(fun e s=>∃b,e=.slice (some ⟨b,0,none⟩) n n/\W0.heap.size<=b/\Bk s b 3 (Array.replicate n (.int .i64 0))) (y (.tmp 23)) a4:=E 5 23 rfl;obtain ⟨fx,dy⟩:=cX 8 dC;have eo:(fun a3 e s=>∃b,a3=.pointer (some ⟨b,0,none⟩)/\W0.heap.size<=b/\Bk s b 22 #[e]) (y (.tmp 6)) (y (.tmp 21)) a4:=dy;clear dy;simp only [zqq];clear E cX;obtain ⟨gx,b9,dr,c2⟩:=c5;obtain ⟨g7,aX,eQ,cV⟩:=c9;obtain ⟨dD,c6,aW,bE⟩:=c8;obtain ⟨gr,dj,fj,bY⟩:=eo;rw [aW] at bY;obtain ⟨g6,rfl,eP,cT⟩:∃g6,dD=some ⟨g6,0,none⟩/\W0.heap.size<=g6/\∃C:Array Value,Bk a4 g6 3 C/\n<=C.size/\∀(c:Nat) a3,((aG t).map sv)[c]?=some a3->C[c]?=some a3:=by
    rcases bE.own.2 with ⟨H,_⟩|⟨b,eA,dV,H,r,A,cS,eN,eO,e3⟩;injection H with aY a1;omega
    · injection H with aY a1 h10;refine ⟨b,aY,r,dV,A,by omega,fun c a3 b7=>?_⟩;rw [<-e3,zBs,Array.getElem?_toList] at b7;split at b7;exact b7
      · cases b7
   have d5:gx≠g7:=fun q=>O.2 19 (by simp) 23 (by simp) dC gx (by rw [b9];rfl) (by rw [aX,q];rfl);have d6:gx≠g6:=fun q=>O.2 19 (by simp) 21 (by simp) dC gx (by rw [b9];rfl) (by rw [aW,q];rfl);have d7:g7≠g6:=fun q=>O.2 23 (by simp) 21 (by simp) dC g7 (by rw [aX];rfl) (by rw [aW,q];rfl);have e8:=bl.out.lt;have d1:=bl.out.below D e8;have da:=aB.out.trans (D.mono aB.out.size);have eW:=aB.out.size;rw [<-aEz] at c2;have af:n<=c6:=bE.cap;rw [cP,cQ,b9,aX,dj];obtain ⟨aP,bi,ce,aK,bm,Y⟩:=hqq6 c2 cV cT bY d1 da;have cn:gx≠g7/\gx≠g6/\g7≠g6:=⟨d5,d6,d7⟩;have ci:=lhd cn;clear cP cQ b9 aX dj c2 cV cT bY d1 da cn d5 d6 d7 D O ca aW bE cj dE aB bl bp bq;go_wp2_with fail;go_loopw [26,8] (fun o _ wr=>∃a:Nat,a<=n/\o=.int .i64 a/\Bk wr gx 3 (iT n a)/\Keep (fun Q=>Q=gx) a4 wr) (fun o _ _=>n -(intOf o).toNat)
   case atStart=>exact ⟨0,by omega,rfl,aP.out,Keep.refl _ _⟩
   case round=>
    obtain ⟨a,ea,rfl,ad,X⟩:=hrel;by_cases b4:a < n
    · have cE:=ad.cell a;have e1:=ad.frozen a;rw [zAq (by rw [wV];exact b4)] at cE;obtain ⟨aF,a0⟩:=hqq2 ad X;clear ad X;generalize (iT n a)[a]'(by rw [wV];exact b4)=u0 at cE;go_wp2_with fail;go_roundw
      case rel=>exact ⟨a+1,by omega,by go_num,by rw [<-aEA _ _ b4];exact aF.out.set a _,a0.out.setCell (.inl rfl) _⟩
      case measure=>simp [intOf];omega
    · obtain rfl:n=a:=oM;obtain ⟨aF,a0⟩:=hqq2 ad X;clear ad X;go_wp2_with fail;obtain ⟨gw,bO⟩:=eqx wr.heap.size;have d2:Bk (wr.alloc (.cells #[(1:Int)] 3)) gw 3 #[(1:Int)]:=bO ▸ Bk.new _ _ _
      have ai:RInv w.heap.size w m n (aG t) gn gr gx (wr.alloc (.cells #[(1:Int)] 3)) gw g6 g7 c6 n 1 (vT m) (aG t):=by
         obtain ⟨cM,cO,dW⟩:=ci.out;obtain ⟨C,dt,ei,ej⟩:=ce.out;have aj:=a0.out;have ba:=aj.size;have fp:=aP.out.lt;have fq:=bm.out.lt;have fr:=bi.out.lt;have en:=dt.lt;have fu:=aK.out.lt;refine ⟨d2,(aj.bk bm.out (fun q=>by have:=dr;omega)).alloc _,(aj.bk aK.out (fun q=>by subst q;exact Bk.ne aK.out aP.out dC rfl)).alloc _,⟨C,(aj.bk dt (fun q=>cO q.symm)).alloc _,ei,ej⟩,⟨_,(aj.bk bi.out (fun q=>cM q.symm)).alloc _,by simp⟩,?_,aHx m,?_,?_,⟨af,zAs _⟩,?_,?_,aD8 _,zAs _,ed,?_⟩;have:=aF.out;rw [<-x.out,aGt] at this;exact this.alloc _
         · refine ⟨?_,?_,cO,cM,?_,?_,dW,?_,?_⟩<;> omega
         · refine ⟨?_,?_,?_,?_⟩<;> omega
         · rw [aM,cz.out,x.out]
         intro cc a2;have:=eU t cc a2;omega;refine (Y.out.trans ?_).alloc oM _;exact aj.to_below (by have:=Y.out.size;omega) (fun Q V q=>by have:=dr;omega)
      rw [bO];generalize wr.alloc (.cells #[(1:Int)] 3)=W8 at ai⊢;have au:=lhd ai;clear ai d2 bO aF a0 ci ce bm aK bi aP Y
      go_loopg [7,9] (n) (fun gk bd be wr=>∃gw g6 g7 c6 c7 wd d R,bd=.slice (some ⟨g7,0,none⟩) n c7/\be=.pointer (some ⟨gw,0,none⟩)/\n - wd<=gk/\RInv w.heap.size w m n (aG t) gn gr gx wr gw g6 g7 c6 c7 wd d R)
      case atStart=>exact ⟨_,_,_,_,_,_,_,_,rfl,rfl,by omega,au.out⟩
      case round=>
         clear au;obtain ⟨gw,g6,g7,c6,c7,wd,d,R,rfl,rfl,eX,ai⟩:=hrel;have au:=lhd ai;clear ai;go_wp2_with fail;obtain ⟨aa,bN⟩:=eqx wr.heap.size;have ac:Bk (wr.alloc (.cells #[.func (.func 145) #[] #[.pointer (some ⟨gw,0,none⟩),gn,gr]] 69)) aa 69 #[.func (.func 145) #[] #[.pointer (some ⟨gw,0,none⟩),gn,gr]]:=bN ▸ Bk.new _ _ _;have L:=au.out.grow ((Below.refl wr.heap.size wr).alloc nL (.cells #[.func (.func 145) #[] #[.pointer (some ⟨gw,0,none⟩),gn,gr]] 69));rw [bN];generalize wr.alloc (.cells #[.func (.func 145) #[] #[.pointer (some ⟨gw,0,none⟩),gn,gr]] 69)=W1 at ac L⊢;have bK:d.size=n:=(by rw [L.ok.size,x.out]);have d3:CmpReads prog 146 #[gr,aa] (fA m) (cfF m wd R) gx 0 d.size W1:=fun u al dX eS bd be=>by have a:=jE (enc:=fA m) L.rows.lt 0 u dX al;exact aAz gw gn gr aa wd n c6 (some ⟨g6,0,none⟩) R bd.val be.val _ (L.ordk a) (((a.bk ac (Bk.ne ac L.rows dC)).cell 0).trans rfl) (by have:=L.wdn;omega) oM L.rle (by have:=bd.isLt;have:=x.out;omega) (by have:=be.isLt;have:=x.out;omega)
         have c0:=Any.slices_SortFunc shSort (fA m) (lO m) (cfF m wd R) (aJV m L.rk) 146 #[gr,aa] gx 0 n d W1 (enters_of func146 kR rfl) d3.lays (aIz L.rows) L.rows.lt oM;rw [bK] at c0;refine c0.mono ?_;clear c0 d3;rintro q aR ⟨rfl,d',nq,al,bV,c1,rfl⟩;have di:RowsOk m d':=L.ok.of_perm (by rw [bK];exact bV);have b0:=L.keepx (jE (enc:=fA m) L.rows.lt 0 nq d' al) (aIX L.rows bV.1 nq al) di;have bH:=(jE (enc:=fA m) L.rows.lt 0 nq d' al).bk ac (Bk.ne ac L.rows dC);generalize Go.Proofs.sortWorld (fA m) W1 gx 0 nq d' al=aR at b0 bH⊢;have dl:∀o,o+1 < n->¬ltW (aN (aG t)) (wd+wd) (eD d' (o+1)) (eD d' o):=(by rw [<-x.out] at c1⊢;exact fun o ah=>aHl b0.rk di.size c1 o ah);obtain ⟨cy,a5,ck⟩:=hqq3 dl b0 bH;clear dl L b0 ac bH bV c1 bK au bN;have ax:=x.out;have de:=a5.out.ok.lt 0;have cL:aR.cell? gx=some (.int .i64 ((eD d' 0:Nat):Int)):=(a5.out.rows.cell 0).trans (a5.out.ok.cell oM);obtain ⟨dU,bc,dv⟩:=a5.out.next;obtain ⟨am,bU⟩:=eqx (eD d' 0);rw [bU] at cL de;have bB:=bc.cell am;rw [zAq oM] at bB;have e2:=bc.frozen am;generalize dU[am]' oM=u7 at bB;have ee:am < n:=oM;obtain ⟨cB,cv⟩:=hqq2 bc bU;clear bc bU ax de;go_wp2_with fail;clear cL bB e2;go_loopw [12] (fun o dB=>∃a:Nat,1<=a/\a<=n/\o=.int .i64 a/\∃C:Array Value,Bk dB g7 3 C/\n<=C.size/\(∀c,c < a->C[eD d' c]?=some (.int .i64 ((cN (jW (aN R) wd) (eD d') c:Nat):Int)))/\Keep (fun Q=>Q=g7) aR dB) (fun o _=>n -(intOf o).toNat)
         case atStart=>refine ⟨1,by omega,by omega,rfl,_,cB.out.set am _,by simpa using dv,fun c aA=>?_,(Keep.refl (fun Q=>Q=g7) aR).setCell (p:=⟨g7,am,none⟩) (.inl rfl) _⟩;obtain rfl:c=0:=oM;rw [cv.out,zCd,zBx rfl,zBx oM];rfl
         case round=>
          clear cB cv ee dv;obtain ⟨a,fa,ea,rfl,C,W,az,ae,X⟩:=hrel;have K:=a5.out.keep7 X ⟨C,W,az⟩;by_cases b4:a < n
          · obtain ⟨c,aA⟩:∃c,a=c+1:=⟨a - 1,by omega⟩;have ax:=x.out;have Z:wr.cell? ⟨gx,a,none⟩=some (.int .i64 ((eD d' a:Nat):Int)):=(K.rows.cell a).trans (K.ok.cell oM);have a8:wr.cell? ⟨gx,c,none⟩=some (.int .i64 ((eD d' c:Nat):Int)):=(K.rows.cell c).trans (K.ok.cell oM);have aT:=(W.cell (eD d' c)).trans (ae c oM);have dx:=K.ok.lt a;have dw:=K.ok.lt c;have aw:=W.cell (eD d' a);rw [zAq oM] at aw;have bD:=W.frozen (eD d' a);generalize C[eD d' a]' oM=uk at aw;have aS:=(K.len.cell 0).trans rfl;have aV:IntKind.i64.wrap ((a:Int) - 1)=(c:Int):=(by rw [IntKind.wrap_i64];omega);have eb:decide ((a:Int) < (n:Int))=true:=(by simp;omega);obtain ⟨N,bX⟩:=eqx (eD d' a);obtain ⟨an,bW⟩:=eqx (eD d' c);obtain ⟨e,b8⟩:=eqx (cN (jW (aN R) wd) (eD d') c);have dp:=tU (jW (aN R) wd) (eD d') 0 c;rw [zBi,b8] at dp;have fk:e<=1000:=(by have:cN (jW (aN R) wd) (eD d') 0=0:=rfl;omega);rw [bX] at Z dx aw bD;rw [bW] at a8 dw aT;rw [b8] at aT;have eg:N < n:=oM;have ef:an < n:=oM;have eZ:c < n:=oM;obtain ⟨ar,T,aH,a0,g,av,cw,dJ,aJ⟩:=hqq9 W az ae X K bX bW b8 aA;clear W az ae X K bX bW b8 dp ax dx dw aA;go_wp2_with fail;refine wp_region_still_tail 14 kR kR ?_;simp only [List.take_succ_cons,List.take_zero,List.drop_succ_cons,List.drop_zero];change wpStill _ _ wr.drew (fun dL=>wpList _ _ _ _ dL wr.drew) _ _;have cH:wr.drew.cell? ⟨gx,a,none⟩=_:=Z;have cG:wr.drew.cell? ⟨gx,c,none⟩=_:=a8;have cJ:wr.drew.cell? ⟨g7,an,none⟩=_:=aT;have cK:wr.drew.cell? ⟨g7,N,none⟩=_:=aw;have cR:wr.drew.frozen? ⟨g7,N,none⟩=false:=bD;obtain ⟨bn,bs,br⟩:=hqq3 ar.out.drew a0.out.drew (g.out.keep7 (Keep.refl _ _).drew ⟨C,ar.out.drew,T.out⟩);clear Z a8 aT aw bD aS ar a0 g;generalize wr.drew=W5 at cH cG cJ cK cR bn bs br⊢
            iterate 14 still_step
            refine wpStill_nil ?_;go_wp2_with fail;have af:=bn.out.set N (.int .i64 (e:Int));have b2:=bs.out.setCell (p:=⟨g7,N,none⟩) (.inl rfl) (.int .i64 (e:Int));have S:=br.out.keep7 ((Keep.refl (fun Q=>Q=g7) W5).setCell (p:=⟨g7,N,none⟩) (.inl rfl) (.int .i64 (e:Int))) ⟨_,af,by simpa using T.out⟩
            have bI:=b2.bk ck.out (fun q=>by
               obtain ⟨eE,a1,_⟩:=a5.out.next;subst q;exact Bk.ne ck.out a1 dC rfl)
            generalize W5.setCell ⟨g7,N,none⟩ (.int .i64 (e:Int))=W6 at af b2 S bI⊢;clear cH cG cJ cK cR bn bs br;have Z:W6.cell? ⟨gx,a,none⟩=some (.int .i64 (N:Int)):=(by rw [<-av.out];exact (S.rows.cell a).trans (S.ok.cell (by have:=x.out;omega)));have a8:W6.cell? ⟨gx,c,none⟩=some (.int .i64 (an:Int)):=(by rw [<-cw.out];exact (S.rows.cell c).trans (S.ok.cell (by have:=x.out;omega)));obtain ⟨bf,ba⟩:=eqx (jW (aN R) wd an N);have c4:∀u:Nat,Calls prog 146 #[(an:Int),(N:Int),gr,aa] (W6.drewN u) fun q w'=>q=.returned (.int .i64 bf)/\∃cb,w'=W6.drewN cb:=fun u=>by have H:=aAz gw gn gr aa wd n c6 (some ⟨g6,0,none⟩) R an N (W6.drewN u) ((S.ordk (Keep.refl _ _)).drewN u) ((bI.drewN u).cell 0) (by have:=S.wdn;omega) oM S.rle ef eg;rw [ba] at H;exact H.mono fun _ _ ⟨bL,cb,b6⟩=>⟨bL,u+cb,by rw [b6,World.drewN_drewN]⟩
            obtain ⟨aI,cq,dG,dK⟩:=hqq4 af b2 S ba;have aU:((a:Int) - 1).toNat=c:=(by have:=aJ.out;omega);have a9:(0:Int)<=(a:Int) - 1:=(by have:=aJ.out;omega);clear af b2 S bI ba;go_quiet ((with_reducible exact c4 _));have bM:eD d' a < C.size:=(by rw [av.out];have:=T.out;omega);have bP:∀bb,bb < a->eD d' bb≠eD d' a:=fun bb eY q=>by have:=dG.out.ok.inj (i:=bb) (j:=a) (by have:=x.out;omega) (by have:=x.out;omega) q;omega
            have ag:cN (jW (aN R) wd) (eD d') a=e+(if bf≠0 then 1 else 0):=(by rw [aJ.out,<-dJ.out];show cN _ _ c+(if jW (aN R) wd (eD d' c) (eD d' (c+1))≠0 then 1 else 0)=_;rw [<-aJ.out,av.out,cw.out,dK.out]);obtain ⟨co,cp⟩:=hqq2 bM bP;by_cases c3:bf=0
            · subst c3;rw [zBw (by simp),zBq] at ag;have bo:=lhd ag;clear ag bM bP Z a8 c4 aU a9 aV;go_wp2_with fail;go_roundw
              case rel=>refine ⟨a+1,by omega,by omega,by go_num,_,aI.out.drewN _,by simpa using T.out,?_,cq.out.drewN _⟩;have:=aAi aH.out co.out cp.out bo.out;rw [av.out] at this;exact this
              case measure=>simp [intOf];omega
            · rw [zBx c3] at ag;have bo:=lhd ag;have dT:W6.cell? ⟨g7,N,none⟩=some (.int .i64 (e:Int)):=(by rw [aI.out.cell,zCd,zBx rfl,zBx (by have:=T.out;omega)]);have eL:=aI.out.frozen N;have fl:IntKind.i64.wrap ((e:Int)+1)=((e+1:Nat):Int):=(by rw [IntKind.wrap_i64];omega);have fo:(bf==0)=false:=(by simpa using c3);clear ag bM bP a8 c4 aU a9 aV;go_wp2_with fail;go_roundw
              case rel=>refine ⟨a+1,by omega,by omega,by go_num,_,(aI.out.drewN nq).set N _,by simpa using T.out,?_,(cq.out.drewN nq).setCell (p:=⟨g7,N,none⟩) (.inl rfl) _⟩;have:=aAi aH.out co.out cp.out bo.out;rw [av.out] at this;rw [set_set];exact this
              case measure=>simp [intOf];omega
          · obtain rfl:n=a:=oM;have ax:=x.out;obtain ⟨u,b6⟩:∃u,n=u+1:=⟨n - 1,by omega⟩;obtain ⟨ak,b3⟩:=eqx (cN (jW (aN R) wd) (eD d') u);have d8:=tU (jW (aN R) wd) (eD d') 0 u;rw [zBi,b3] at d8;have fb:ak<=u:=(by have:cN (jW (aN R) wd) (eD d') 0=0:=rfl;omega);obtain ⟨F,P⟩:=eqx (eD d' u);have fg:F < n:=(by have:=K.ok.lt u;omega);have ab:=K.box;have eB:=(K.len.cell 0).trans rfl;have ev:=ab.cell 0;have e1:=ab.frozen 0;have b1:∀b C,Bk wr b 3 C->Bk (wr.setCell gr (.slice (some ⟨g7,0,none⟩) n c7)) b 3 C:=fun b C H=>H.far (p:=gr) (Bk.ne H ab dC) _;have Z:(wr.setCell gr (.slice (some ⟨g7,0,none⟩) n c7)).cell? ⟨gx,u,none⟩=some (.int .i64 (F:Int)):=(by rw [<-P];exact ((b1 _ _ K.rows).cell u).trans (K.ok.cell oM));have cI:(wr.setCell gr (.slice (some ⟨g7,0,none⟩) n c7)).cell? ⟨g7,F,none⟩=some (.int .i64 (ak:Int)):=(by rw [<-P,<-b3];exact ((b1 _ _ W).cell _).trans (ae u oM));have aS:=((b1 _ _ K.len).cell 0).trans rfl;have cF:=(ab.set 0 (.slice (some ⟨g7,0,none⟩) n c7)).cell 0;have bC:=((b1 _ _ K.wide).cell 0).trans rfl;have ec:u < n:=oM;have aV:IntKind.i64.wrap ((n:Int) - 1)=(u:Int):=(by rw [IntKind.wrap_i64];omega);obtain ⟨bw,cr,eu,g,ar,T,aH,dF,ch⟩:=hqq9 b6 b3 P K W az ae ab b1;have eb:decide ((n:Int) < (n:Int))=false:=(by simp);clear b6 b3 P K W az ae X ab b1 ax d8;go_wp2_with fail;have bJ:=dF.out.set 0 (.slice (some ⟨g7,0,none⟩) n c7);have bQ:=(Keep.refl (fun Q=>Q=gr) wr).setCell (p:=gr) (.inl rfl) (.slice (some ⟨g7,0,none⟩) n c7);have b1:=ch.out;generalize wr.setCell gr (.slice (some ⟨g7,0,none⟩) n c7)=W9 at Z cI aS cF bC bJ bQ b1⊢;have dk:=b1 _ _ g.out.rows;have cW:=b1 _ _ ar.out;have dq:=b1 _ _ g.out.wide;have dg:=b1 _ _ g.out.len;obtain ⟨eC,du,ek,el⟩:=g.out.rank;have cU:=b1 _ _ du;have db:=g.out.below.trans (bQ.to_below (by have:=g.out.lo.1;have:=g.out.rows.lt;omega) (fun Q V q=>by have:=g.out.lo.2.2.2;omega));obtain ⟨cm,cx,cg,cA,cu,cf,a6⟩:=hqq7 bJ dk cW dq dg cU db;clear bJ bQ b1 dk cW dq dg cU db du el ch;have aU:((n:Int) - 1).toNat=u:=(by have:=bw.out;omega);have a9:(0:Int)<=(n:Int) - 1:=(by have:=bw.out;omega);have dh:∀o c,jW (aN R) wd o c=0↔eqW (aN (aG t)) (wd+wd) o c:=aJd g.out.rk;have dc:(aG t).length=n:=(by rw [aM,cz.out,x.out]);obtain ⟨bu,U⟩:=hqq2 dh dc;clear dh dc;go_quiet (fail);clear aU a9 aV Z cI aS cF bC;obtain ⟨cl,aL,bj,bx,bt,bh⟩:=hqq6 (cm.out.drewN nq) (cx.out.drewN nq) (cg.out.drewN nq) (cA.out.drewN nq) (cu.out.drewN nq) (cf.out.drewN nq);have d9:Below w.heap.size w (W9.drewN nq):=⟨a6.out.os,a6.out.tape,a6.out.output,a6.out.size,a6.out.block⟩;have Y:=lhd d9;clear d9 cm cx cg cA cu cf a6;generalize W9.drewN nq=W10 at cl aL bj bx bt bh Y⊢;by_cases dd:ak=u
            · subst dd;have dm:=g.out.ok.suf (l:=aG t) (by rw [U.out,x.out]) (w:=wd+wd) (fun o c e9 aA=>aKj bu.out cy.out oM (by have:=bw.out;have:=cr.out;rw [show n - 1=ak by omega];exact this) o c e9 (by have:=x.out;omega));have dI:=lhd dm;clear dm;go_wp2_with fail;go_ret;refine ⟨_,some ⟨gx,0,none⟩,n,dI.out,by rw [x.out];rfl,?_,Y.out⟩;rw [<-aI5];have:=aFq aL.out g.out.lo.1 (n:=n) (by simp [g.out.ok.size,x.out]) (by unfold maxLen;omega);have e6:∀bz,Made W10 w.heap.size 3 1 (some ⟨gx,0,none⟩) n n bz->Made W10 w.heap.size 3 1 (some ⟨gx,0,none⟩) (m+1) n bz:=fun bz H=>by rw [x.out];exact H
              exact e6 _ this
            · have fh:((ak:Int)==(u:Int))=false:=(by simp;omega);have fi:(ak==u)=false:=(by simp;omega);have bC:=bx.out.cell 0;have eF:=bx.out.lt;have fm:wd<=201:=(by have:=g.out.wdn;omega);go_wp2_with fail;have ff:wd+wd < n:=by rcases zBe (wd+wd) n with H | H;exact H;exfalso;apply dd;rw [<-cr.out];refine aJw (n:=n) (fun o ah bL=>?_) u ec;have:=(bu.out _ _).1 bL;have eR:=x.out;refine aFk (l:=aG t) (by rw [U.out];exact H) (by rw [U.out];have:=g.out.ok.lt o;omega) (by rw [U.out];have:=g.out.ok.lt (o+1);omega) (fun q=>?_) this;have:=g.out.ok.inj oM oM q;omega
              go_roundg (n -(wd+wd))
              case measure=>have:=g.out.wd1;omega
              case rel=>
               obtain ⟨cC,dz,ep,eq,er⟩:=aHH (cs:=C) (f:=eD d') (v:=cN (jW (aN R) wd) (eD d')) T.out (fun c _=>by have:=g.out.ok.lt c;have:=x.out;omega) aH.out (fun F P=>by
                obtain ⟨o,z,r⟩:=g.out.ok.sur (p:=F) (by have:=x.out;omega);exact ⟨o,by have:=x.out;omega,r⟩)
               have eh:RankOk (aN (aG t)) (aN cC) (wd+wd):=(by refine aF8 (by have:=g.out.wd1;omega) bu.out (fun o ah=>cy.out o (by rw [<-U.out];exact ah)) (by rw [dz,U.out]) (fun o ah=>ep o (by rw [<-U.out];exact ah)) (fun F P=>?_);obtain ⟨o,z,r⟩:=g.out.ok.sur (p:=F) (by have:=x.out;rw [U.out] at P;omega);exact ⟨o,by have:=x.out;rw [U.out];omega,r⟩);obtain ⟨ew,dM,dN,dO,ex,dP,dR,ey,dS⟩:=g.out.ap;have fw:=aL.out.lt;have fv:=g.out.wd1;have fs:=bj.out.lt;have en:=bh.out.lt;have ft:=bt.out.lt;have a9:(wd:Int)*2=((wd+wd:Nat):Int):=oM;rw [a9];refine ⟨_,_,_,_,_,wd+wd,d',cC,rfl,rfl,zAs _,Bk.new _ _ _,bt.out.alloc _,cl.out.alloc _,⟨_,bj.out.alloc _,T.out,eq⟩,⟨_,bh.out.alloc _,ek⟩,aL.out.alloc _,g.out.ok,⟨?_,dM,dO,dN,?_,dS,dR.symm,?_,dP⟩,⟨g.out.lo.1,g.out.lo.2.2.1,g.out.lo.2.1,g.out.lo.2.2.2⟩,⟨g.out.cap.2,g.out.cap.1⟩,dz,?_,eh,by omega,by omega,Y.out.alloc Y.out.size _⟩;omega;omega;omega;intro cc a2;obtain ⟨c,aA,rfl⟩:=er cc a2;have:=tU (jW (aN R) wd) (eD d') 0 c;rw [zBi] at this;have eM:cN (jW (aN R) wd) (eD d') 0=0:=rfl;omega
end
end Go.Proofs.YthldmddkfbijhaaGreatDoor
