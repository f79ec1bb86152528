/- Lemmas of the walk. Conditions: each its own. -/
import Derived.Test.YtcoooelofcejbaaGreatDoorPd3
import Derived.Test.YtcoooelofcejbaaGreatDoorPd4
import Derived.Test.YtcoooelofcejbaaGreatDoorProg
set_option linter.all false
set_option maxRecDepth 100000
set_option maxHeartbeats 1000000
open Go.Proofs.Tryz
namespace Go.Proofs.YtcoooelofcejbaaGreatDoor
section
open Go.RowKit
structure LeafV (w:World) (B gt ga gl cl gb:Nat) (rt v:Int) (bs:List Bool):Prop where
 tree:Bk w gt 266 #[ga,.slice (some gl) 1 cl,.int .i64 rt,.int .i64 v]
 row:RowS B gl cl gb (bs.length:Int) ((bs.count true:Nat):Int) w
 blk:Bk w gb 297 (gP bs)
def Leaf.toV {l:World} {m i e g d f:Nat} {j k:Int} {c:List Bool} (b:Leaf l m i e g d f j k c):LeafV l 0 i e g d f j k c:=⟨b.tree,cD b.row (zAp _),b.blk⟩
def LeafV.vis {n w':World} {e l i k g j:Nat} {m p:Int} {f:List Bool} (b:LeafV n e l i k g j m p f) (c:Vis n w'):∃d,LeafV w' e l i k g j m d f:=by
 obtain ⟨d,o⟩:=c.tree b.tree;exact ⟨d,o,c.own b.row dC dC,c.bk b.blk dC dC⟩
def TreeAt (f:World) (d:Nat) (b:List Bool):Prop:=
 ∃(c:Nat) (e:Int),(b= []/\∃k,Bk f d 266 #[c,k,.int .i64 (-1),.int .i64 e])∨(b≠ []/\b.length<=128/\∃j g i,LeafV f 0 d c j g i 0 e b)
def TreeAt.vis {k w':World} {i:Nat} {f:List Bool} (o:TreeAt k i f) (j:Vis k w'):TreeAt w' i f:=by
 obtain ⟨g,r,⟨b,q,c⟩|⟨b,c,n,l,m,p⟩⟩:=o;obtain ⟨e,d⟩:=j.tree c;exact ⟨g,e,.inl ⟨b,q,d⟩⟩;obtain ⟨e,d⟩:=p.vis j;exact ⟨g,e,.inr ⟨b,c,n,l,m,d⟩⟩
def TreeAt.same {n w':World} {l:Nat} {j:List Bool} (r:TreeAt n l j) (b:∀c i d,i∈ [266,154,276,297,4]->Bk n c i d->Bk w' c i d):TreeAt w' l j:=by
 obtain ⟨k,m,⟨e,t,f⟩|⟨e,f,q,o,p,g⟩⟩:=r;exact ⟨k,m,.inl ⟨e,t,b _ _ _ dC f⟩⟩;exact ⟨k,m,.inr ⟨e,f,q,o,p,b _ _ _ dC g.tree,aA g.row fun c d _ s=>b _ _ _ dC s,b _ _ _ dC g.blk⟩⟩
def TreeAt.below {b f:World} {d:Nat} {c:List Bool} (g:TreeAt b d c) (i:Below b.heap.size b f):TreeAt f d c:=g.same fun j l k _ e=>e.below i e.lt
def TreeAt.lt {d:World} {b:Nat} {e:List Bool} (f:TreeAt d b e):b < d.heap.size:=by
 obtain ⟨k,n,⟨g,o,c⟩|⟨g,c,m,j,l,i⟩⟩:=f;exact c.lt;exact i.tree.lt
def TreeAt.blk {d:World} {b:Nat} {e:List Bool} (g:TreeAt d b e):∃f,Bk d b 266 f:=by
 obtain ⟨l,o,⟨i,p,c⟩|⟨i,c,n,k,m,j⟩⟩:=g;exact ⟨_,c⟩;exact ⟨_,j.tree⟩
def TreeB (f:World) (b e:Nat) (c:List Bool):Prop:=
 ∃(d:Nat) (i:Int),b<=e/\b<=d/\((c= []/\Bk f e 266 #[d,.slice none 0 0,.int .i64 (-1),.int .i64 i]/\Bk f d 154 #[.slice none 0 0,.slice none 0 0,.int .i64 268435456])∨(c≠ []/\c.length<=128/\∃k j g,b<=g/\Leaf f b e d k j g 0 i c))
def TreeB.at {j:World} {k f:Nat} {d:List Bool} (o:TreeB j k f d):TreeAt j f d:=by
 obtain ⟨e,i,_,_,⟨b,c,g⟩|⟨b,c,n,l,m,_,g⟩⟩:=o;exact ⟨e,i,.inl ⟨b,_,c⟩⟩;exact ⟨e,i,.inr ⟨b,c,n,l,m,g.toV⟩⟩
def TreeB.keep {q r:World} {F:Nat->Prop} {f m:Nat} {k:List Bool} (x:TreeB q f m k) (d:Keep F q r) (c:∀j,F j->j < f):TreeB r f m k:=by
 obtain ⟨l,p,n,o,⟨g,i,e⟩|⟨g,i,w,u,v,A,e⟩⟩:=x;exact ⟨l,p,n,o,.inl ⟨g,d.bk i (fun b=>by have:=c _ b;omega),d.bk e (fun b=>by have:=c _ b;omega)⟩⟩;obtain ⟨s,t,y,z⟩:=e.arena;exact ⟨l,p,n,o,.inr ⟨g,i,w,u,v,A,d.bk e.tree (fun b=>by have:=c _ b;omega),sZ e.row d c,d.bk e.blk (fun b=>by have:=c _ b;omega),s,t,d.bk y (fun b=>by have:=c _ b;omega),z.keepF d c⟩⟩
def TreeB.below {b e:World} {B d:Nat} {c:List Bool} (g:TreeB b B d c) (i:Below b.heap.size b e):TreeB e B d c:=g.keep (F:=fun _=>False) (Keep.of_below i) (fun _ f=>f.elim)
def TreeB.mono {j:World} {B B' g:Nat} {e:List Bool} (n:TreeB j B g e) (o:B'<=B):TreeB j B' g e:=by
 obtain ⟨f,i,p,q,⟨b,c,d⟩|⟨b,c,m,k,l,r,d⟩⟩:=n;exact ⟨f,i,by omega,by omega,.inl ⟨b,c,d⟩⟩;exact ⟨f,i,by omega,by omega,.inr ⟨b,c,m,k,l,by omega,d.mono o⟩⟩
def TreeB.base {f:World} {c d:Nat} {e:List Bool} (b:TreeB f c d e):c<=d:=by
 obtain ⟨_,_,b,_⟩:=b;exact b
def LeafV.cells {b:World} {n e j c i k:Nat} {l m:Int} {g:List Bool} (f:LeafV b n e j c i k l m g):
 b.cell? e=some (.pointer (some j))/\b.cell? ⟨e,1,none⟩=some (.slice (some c) 1 i)/\b.cell? ⟨e,2,none⟩=some (.int .i64 l)/\b.cell? ⟨e,3,none⟩=some (.int .i64 m)/\
 b.cell? c=some (.int .i64 (-1))/\b.cell? ⟨c,1,none⟩=some (.int .i64 (-1))/\b.cell? ⟨c,2,none⟩=some (.int .i64 0)/\b.cell? ⟨c,3,none⟩=some (.int .i64 (g.length:Int))/\b.cell? ⟨c,4,none⟩=some (.int .i64 ((g.count true:Nat):Int))/\b.cell? ⟨c,5,none⟩=some (.int .i64 0)/\b.cell? ⟨c,6,none⟩=some (.int .i64 0)/\b.cell? ⟨c,7,none⟩=some (.pointer (some k)):=by
 have d:=fun p o=>World.ownsRow.cellAt f.row p o;exact ⟨(f.tree.cell 0).trans rfl,(f.tree.cell 1).trans rfl,(f.tree.cell 2).trans rfl,(f.tree.cell 3).trans rfl,(d 0 oM).trans rfl,(d 1 oM).trans rfl,(d 2 oM).trans rfl,(d 3 oM).trans rfl,(d 4 oM).trans rfl,(d 5 oM).trans rfl,(d 6 oM).trans rfl,(d 7 oM).trans rfl⟩
def eG {c:Nat} {e:List Bool} {b:World} (j:TreeAt b c e):
 Calls prog 203 #[c] b fun i k=>i=.returned (.int .i64 (e.length:Int))/\Below b.heap.size b k:=by
 obtain ⟨x,B,⟨rfl,C,d⟩|⟨A,d,z,o,y,f⟩⟩:=j
 · have g:b.cell? ⟨c,2,none⟩=some (.int .i64 (-1)):=(d.cell 2).trans rfl;clear d;go_enter func203,ntmps203;go_wp2;go_ret;exact ⟨rfl,Below.refl _ _⟩
 · obtain ⟨l,m,g,n,p,q,r,s,t,u,v,w⟩:=f.cells;clear f;go_enter func203,ntmps203;go_wp2;go_quiet (fail);go_wp2;go_ret;exact ⟨rfl,⟨rfl,rfl,rfl,zAs _,fun _ _=>rfl⟩⟩
def TreeAt.visits {e:World} {c:Nat} {f:List Bool} (g:TreeAt e c f):∃b,e.cell? ⟨c,3,none⟩=some (.int .i64 b):=by
 obtain ⟨k,b,⟨rfl,o,d⟩|⟨n,d,m,j,l,i⟩⟩:=g;exact ⟨b,(d.cell 3).trans rfl⟩;exact ⟨b,i.cells.2.2.2.1⟩
def xH {c:Nat} {d:Int} {b:World} (g:b.cell? ⟨c,3,none⟩=some (.int .i64 d)):
 Calls prog 257 #[c] b fun e f=>e=.returned (.int .i64 d)/\Below b.heap.size b f:=by
 go_enter func257,ntmps257;go_wp2;go_ret;exact ⟨rfl,Below.refl _ _⟩
def wI {n o:Nat} (b:Bool) (c:World) (f:n<=128) (g:o<=n):
 Calls prog 268 #[(n:Int),(o:Int),.bool b] c fun d e=>d=.returned (.int .i64 ((if b then o else n - o:Nat):Int))/\Below c.heap.size c e:=by
 cases b
 · go_enter func268,ntmps268;go_wp2;go_ret;exact ⟨eS oM,Below.refl _ _⟩
 · go_enter func268,ntmps268;go_wp2;go_ret;exact ⟨eS (by simp),Below.refl _ _⟩
def pT (b:List Bool):b.count true+b.count false=b.length:=by
 induction b with
 | nil=>rfl
 | cons c b d=>cases c <;> simp <;> omega
def aBn {f:Nat} {c:List Bool} {b:Nat} (d:Bool) {n:World} (i:TreeAt n f c) (O:b<=c.length):
 Calls prog 261 #[f,(b:Int),.bool d] n fun r a8=>r=.returned (.int .i64 (((c.take b).count d:Nat):Int))/\VisK (fun d=>d=f) n a8:=by
 have M:c.length<=128:=by
  obtain ⟨G,x,⟨rfl,a7,g⟩|⟨j,g,J⟩⟩:=i
  · simp
  exact g
 have a5:∃q,Bk n f 266 q/\3 < q.size:=by obtain ⟨G,x,⟨rfl,a7,g⟩|⟨j,g,I,Y,H,J⟩⟩:=i;exact ⟨_,g,by simp⟩;exact ⟨_,J.tree,by simp⟩
 obtain ⟨q,m,a0⟩:=a5;have u:=VisK.set_tree m 0;have R:=i.vis u.1;have aq:=m.lt;have E:n.cell? ⟨f,3,none⟩=some q[3]:=by rw [m.cell 3];simp [a0]
 have F:=m.frozen 3;have ax:max (b:Int) 0=(b:Int):=oM;have ay:min (b:Int) (c.length:Int)=(b:Int):=oM;obtain ⟨z,C,W,D⟩:=hqq4 u i M R;obtain ⟨ae,K⟩:=eqx c.length;obtain ⟨ad,o⟩:=hqq2 K O;clear i M u R m K O;go_enter func261,ntmps261;go_wp2_with fail;clear E F;refine (eG D.out).mono ?_;rintro r a9 ⟨rfl,l⟩;have v:=z.out.below l;have S:=C.out.vis v.1;obtain ⟨A,X⟩:=hqq2 v S;clear v S z D l C;rcases zBa b with P | P
 · subst P;go_wp2_with fail;go_ret;exact ⟨rfl,A.out⟩
 · have av:¬((b:Int)=0):=oM;obtain ⟨G,x,⟨s,_,_⟩|⟨s,l,I,Y,H,e⟩⟩:=X.out;have j:=o.out;rw [s] at j;simp at j;omega;obtain ⟨af,ag,ah,E,ai,aj,ak,al,am,an,ao,ap⟩:=e.cells;have aw:=e.row.lt;have ar:=e.tree.lt;have au:f≠I:=e.row.bk_ne e.tree dC;have F:=e.tree.frozen 3;obtain ⟨p,V⟩:=hqq2 e l;clear e l s;go_wp2_with fail;go_loopw [1,7,8] (fun aa ab ac wr=>aa=.int .i64 (b:Int)/\ab=.int .i64 0/\ac=.int .i64 0/\wr=a9) (fun _ _ _ _=>0)
   case atStart=>exact ⟨rfl,rfl,rfl,rfl⟩
   case round=>obtain ⟨rfl,rfl,rfl,rfl⟩:=hrel;go_wp2_with fail;have a2:=Bk.ne p.out.blk p.out.tree dC;have T:=(VisK.set_tree p.out.tree (wrap64 (x+1))).alloc (.cells #[.int .i64 (-1),.int .i64 (-1),.int .i64 0,(c.length:Int),.int .i64 ((c.count true:Nat):Int),.int .i64 0,.int .i64 0,H] 276);refine (zG (k:=b) ((p.out.blk.far a2 _).alloc _) V.out o.out).mono ?_;rintro r aA ⟨rfl,L⟩;have U:=(A.out.trans T).below L;obtain ⟨w,t⟩:=eqx (List.count true (List.take b c));have a4:w<=b:=(by rw [<-t];exact zAk zBv (by rw [zAj];omega));have N:(if d then w else b - w)=(c.take b).count d:=(by have j:=pT (c.take b);have g:(c.take b).length=b:=(by rw [zAj];have:=o.out;omega);cases d;simp;omega;simp;omega);rw [t];obtain ⟨y,B⟩:=hqq2 N U;have a3:b<=128:=zAk o.out W.out;clear t N T L U;go_wp2_with fail;refine (wI d _ a3 a4).mono ?_;rintro r aB ⟨rfl,Z⟩;rw [y.out];have a6:=B.out.below Z;have a1:(c.take b).count d<=128:=zAk zBv (by rw [zAj];omega);obtain ⟨az,Q⟩:=eqx (List.count d (List.take b c));rw [Q] at a1⊢;clear y B;go_wp2_with fail;go_ret;exact ⟨eS (by rw [Q] <;> omega),a6⟩
def kI (e:World) (b:Nat) (c:TypeId) (d:Nat):e.ownsRow b c d (.slice none 0 0) 0 []:=World.ownsRow_nil _ _ _ _
def aCR {v:Option Addr} {d C w:Nat} {i:List Bool} {b:World} (u:Rd b w 1 v d (i.map Value.bool)) (X:w<=b.heap.size) (I:d<=128) (a0:d<=C):
 Calls prog 182 #[.slice v d C] b fun c N=>∃D,c=.returned (.pointer (some ⟨D,0,none⟩))/\TreeB N b.heap.size D i/\Below b.heap.size b N:=by
 have H:i.length=d:=by simpa using u.1
 obtain ⟨Q,s⟩:=hqq2 u H;clear u H;go_enter func182,ntmps182;go_wp2_with fail;refine (sQ _).mono ?_;rintro c w1 ⟨rfl,F,t⟩;obtain ⟨x,z⟩:=hqq2 F t;have l:=t.size;clear F t;rcases zBa d with E | E
 · subst E;have a2:i= []:=zBk s.out;go_wp2_with fail;go_ret;have Z:=z.out.alloc l (.cells #[b.heap.size,.slice none 0 0,.int .i64 (-1),.int .i64 0] 266);exact ⟨_,rfl,⟨_,0,l,zAs _,.inl ⟨a2,Bk.new _ _ _,x.out.alloc _⟩⟩,Z⟩
 · have aa:((d:Int)+128 - 1)/ 128=1:=oM;have a1:i≠ []:=(by intro c;have:=s.out;rw [c] at this;simp at this;omega);have o:=z.out.alloc l (.cells #[b.heap.size,.slice none 0 0,.int .i64 (-1),.int .i64 0] 266);have L:=Bk.new w1 266 #[b.heap.size,.slice none 0 0,.int .i64 (-1),.int .i64 0];have G:=x.out.alloc (.cells #[b.heap.size,.slice none 0 0,.int .i64 (-1),.int .i64 0] 266);have J:=((Q.out.mono X).below o).mono o.size;obtain ⟨a4,M⟩:=eqx (w1.alloc (.cells #[b.heap.size,.slice none 0 0,.int .i64 (-1),.int .i64 0] 266));obtain ⟨B,y,A,n⟩:=hqq4 L G J o;clear L G J o;go_wp2_with fail;rw [M] at B y A n;clear M;refine (aGq B.out y.out A.out nL I a0).mono ?_;rintro c m ⟨rfl,p,U,S,T,k,a9⟩;have a5:=k.tree.lt;have a7:=k.tree.frozen 2;have a6:m.cell? ⟨w1.heap.size,2,none⟩=some (.int .i64 (-1)):=(k.tree.cell 2).trans rfl;obtain ⟨g,P⟩:=hqq2 k p;clear k p;go_wp2_with fail;go_ret;have q:∀e r j,r≠266->Bk m e r j->Bk (m.setCell ⟨w1.heap.size,2,none⟩ (.int .i64 0)) e r j:=fun e r j a3 f=>f.far (Bk.ne f g.out.tree a3) _;obtain ⟨O,R,V,W⟩:=g.out.arena;have p:Below b.heap.size a4 m:=P.out.to_below n.out.size (fun e a8 c=>by rcases c with c | c <;> omega);have Y:Below b.heap.size b m:=n.out.trans p;have K:=n.out.size;refine ⟨_,rfl,⟨_,0,l,zAs _,.inr ⟨a1,by rw [s.out];exact I,U,S,T,by omega,g.out.tree.set 2 _,cD (aA g.out.row fun e j _ f=>q _ _ _ dC f) K,q _ _ _ dC g.out.blk,O,R,q _ _ _ dC V,(oD W fun e j f=>q _ _ _ dC f).mono K⟩⟩,?_⟩;exact Y.setCell l _
end
section
def aN (b:List Nat) (c:Nat):Int:=match b[c]? with
 | some d=>(d:Int)
 | none=>-1
def aJ2 {b:List Nat} {c:Nat} (d:c < b.length):aN b c=(b[c]:Int):=by
 unfold aN;rw [zAa d]
def mA {b:List Nat} {c x:Nat} (d:b[c]?=some x):aN b c=(x:Int):=by
 unfold aN;rw [d]
def mL {l:List Nat} {p:Nat} (b:l.length<=p):aN l p=-1:=by
 unfold aN;rw [zBg b]
def iW {l:List Nat} {p:Nat} (b:p < l.length):0<=aN l p:=by
 rw [aJ2 b];omega
section
variable (a : Nat -> Int)
def eqW (e c d:Nat):Prop:=∀b,b < e->a (c+b)=a (d+b)
def ltW (f d e:Nat):Prop:=∃b,b < f/\(∀c,c < b->a (d+c)=a (e+c))/\a (d+b) < a (e+b)
variable {a}
def eqW.symm {d b c:Nat} (e:eqW a d b c):eqW a d c b:=fun g f=>(e g f).symm
def eqW.trans {b d e f:Nat} (i:eqW a b d e) (j:eqW a b e f):eqW a b d f:=fun g c=>(i g c).trans (j g c)
def eqW.refl (c b:Nat):eqW a c b b:=fun _ _=>rfl
def qW (b e f:Nat):ltW a b e f∨eqW a b e f∨ltW a b f e:=by
 induction b with
 | zero=>exact .inr (.inl fun g k=>absurd k oM)
 | succ b l=>
   rcases l with ⟨j,c,d⟩| i |⟨j,c,d⟩;exact .inl ⟨j,by omega,d⟩;rcases Int.lt_trichotomy (a (e+b)) (a (f+b)) with c | c | c;exact .inl ⟨b,by omega,i,c⟩;refine .inr (.inl fun g k=>?_);rcases zBe g b with d | d;exact i g d;have:g=b:=oM;subst this;exact c;exact .inr (.inr ⟨b,by omega,i.symm,c⟩);exact .inr (.inr ⟨j,by omega,d⟩)
def ltW.not_eq {d b c:Nat} (e:ltW a d b c):¬eqW a d b c:=by
 obtain ⟨i,f,j,k⟩:=e;intro g;have:=g i f;omega
def ltW.trans {j k l m:Nat} (q:ltW a j k l) (r:ltW a j l m):ltW a j k m:=by
 obtain ⟨e,n,f,o⟩:=q;obtain ⟨i,s,g,p⟩:=r;rcases Nat.lt_trichotomy e i with d | d | d;exact ⟨e,n,fun b c=>(f b c).trans (g b oM),by rw [<-g e d];exact o⟩;subst d;exact ⟨e,n,fun b c=>(f b c).trans (g b c),Int.lt_trans o p⟩;exact ⟨i,s,fun b c=>(f b oM).trans (g b c),by rw [f i d];exact p⟩
def ltW.irrefl {d b:Nat} (c:ltW a d b b):False:=c.not_eq (eqW.refl _ _)
def ltW.asymm {d b c:Nat} (e:ltW a d b c) (f:ltW a d c b):False:=(e.trans f).irrefl
def ltW.eq_right {b d e f:Nat} (k:ltW a b d e) (c:eqW a b e f):ltW a b d f:=by
 obtain ⟨i,j,m,n⟩:=k;exact ⟨i,j,fun g l=>(m g l).trans (c g oM),by rw [<-c i j];exact n⟩
def ltW.eq_left {b d e f:Nat} (c:eqW a b d e) (k:ltW a b e f):ltW a b d f:=by
 obtain ⟨i,j,m,n⟩:=k;exact ⟨i,j,fun g l=>(c g oM).trans (m g l),by rw [c i j];exact n⟩
def ltW.le_right {c g d e:Nat} (f:ltW a c g d) (i:¬ltW a c e d):ltW a c g e:=by
 rcases qW (a:=a) c d e with b | b | b;exact f.trans b;exact f.eq_right b;exact absurd b i
def aEd (b e f:Nat):eqW a (b+b) e f↔eqW a b e f/\eqW a b (e+b) (f+b):=by
 constructor
 · intro d;refine ⟨fun c g=>d c oM,fun c g=>?_⟩;have:=d (b+c) oM;rwa [<-Nat.add_assoc,<-Nat.add_assoc] at this
 · intro ⟨i,j⟩ c g;rcases zBe c b with d | d;exact i c d
   · have:=j (c - b) oM;rwa [show e+b+(c - b)=e+c by omega,show f+b+(c - b)=f+c by omega] at this
def aD1 (b e f:Nat):ltW a (b+b) e f↔ltW a b e f∨(eqW a b e f/\ltW a b (e+b) (f+b)):=by
 constructor
 · intro ⟨c,k,g,j⟩;rcases zBe c b with i | i;exact .inl ⟨c,i,g,j⟩
   · refine .inr ⟨fun d l=>g d oM,c - b,by omega,fun d l=>?_,?_⟩
     · have:=g (b+d) oM;rwa [<-Nat.add_assoc,<-Nat.add_assoc] at this
     · rwa [show e+b+(c - b)=e+c by omega,show f+b+(c - b)=f+c by omega]
 · rintro (⟨c,k,g,j⟩|⟨m,c,k,g,j⟩);exact ⟨c,by omega,g,j⟩
   · refine ⟨b+c,by omega,fun d l=>?_,by rwa [<-Nat.add_assoc,<-Nat.add_assoc]⟩;rcases zBe d b with i | i;exact m d i
     · have:=g (d - b) oM;rwa [show e+b+(d - b)=e+d by omega,show f+b+(d - b)=f+d by omega] at this
def RankOk (a d:Nat->Int) (e:Nat):Prop:=∀b c,d b < d c↔ltW a e b c
def RankOk.eq {d:Nat->Int} {i:Nat} (f:RankOk a d i) (b c:Nat):d b=d c↔eqW a i b c:=by
 constructor;intro g;rcases qW (a:=a) i b c with e | e | e;have:=(f b c).2 e;omega;exact e;have:=(f c b).2 e;omega;intro g;have e:¬(d b < d c):=fun j=>((f b c).1 j).not_eq g;have k:¬(d c < d b):=fun j=>((f c b).1 j).not_eq g.symm;omega
def jM (b:Nat->Int) (e c d:Nat):Int:=if b c≠b d then b c - b d else b (c+e) - b (d+e)
def uS {j:Nat->Int} {e:Nat} (f:RankOk a j e) (c d:Nat):jM j e c d < 0↔ltW a (e+e) c d:=by
 unfold jM;rw [aD1];by_cases i:j c=j d
 · rw [zBw (by simpa using i)];have k:¬ltW a e c d:=fun m=>by have:=(f c d).2 m;omega
   have l:=(f.eq c d).1 i;have g:=f (c+e) (d+e);constructor;intro b;exact .inr ⟨l,g.1 oM⟩;rintro (b |⟨_,b⟩);exact absurd b k;have:=g.2 b;omega
 rw [zBx i];have g:=f c d;constructor;intro b;exact .inl (g.1 oM);rintro (b |⟨b,_⟩);have:=g.2 b;omega;exact absurd ((f.eq c d).2 b) i
def aJm {d:Nat->Int} {i:Nat} (g:RankOk a d i) (b c:Nat):jM d i b c=0↔eqW a (i+i) b c:=by
 unfold jM;rw [aEd];by_cases e:d b=d c;rw [zBw (by simpa using e)];constructor;intro f;exact ⟨(g.eq b c).1 e,(g.eq _ _).1 oM⟩;intro ⟨_,f⟩;have:=(g.eq _ _).2 f;omega;rw [zBx e];constructor;intro f;exact absurd (show d b=d c by omega) e;intro ⟨f,_⟩;exact absurd ((g.eq b c).2 f) e
def cN (c:Nat->Nat->Int) (b:Nat->Nat):Nat->Nat
 | 0=>0
 | i+1=>cN c b i+(if c (b i) (b (i+1))≠0 then 1 else 0)
def aJK (d:Nat->Nat->Int) (b:Nat->Nat) (c:Nat):cN d b c<=cN d b (c+1)/\cN d b (c+1)<=cN d b c+1:=by
 show cN d b c<=cN d b c+_/\cN d b c+_<=cN d b c+1;split <;> omega
def tZ (e:Nat->Nat->Int) (c:Nat->Nat) (d b:Nat):cN e c d<=cN e c (d+b)/\cN e c (d+b)<=cN e c d+b:=by
 induction b with
 | zero=>exact ⟨zAs _,zAs _⟩
 | succ b f=>
   have:=aJK e c (d+b);rw [<-Nat.add_assoc];omega
def aBg {f:Nat->Nat->Int} {c:Nat->Nat} {g q:Nat} (n:∀b p,f b p=0↔eqW a g b p) (t:∀b,b+1 < q->¬ltW a g (c (b+1)) (c b)) (b e:Nat) (w:b+e < q):
 (cN f c b < cN f c (b+e)↔ltW a g (c b) (c (b+e)))/\¬ltW a g (c (b+e)) (c b):=by
 induction e with
 | zero=>exact ⟨⟨fun d=>absurd d (by simp),fun d=>d.irrefl.elim⟩,fun d=>d.irrefl⟩
 | succ e u=>
   obtain ⟨r,k⟩:=u oM;have l:=t (b+e) oM;have v:=tZ f c b e;have j:cN f c (b+(e+1))=cN f c (b+e)+(if f (c (b+e)) (c (b+e+1))≠0 then 1 else 0):=rfl;rw [show b+(e+1)=b+e+1 from rfl] at j⊢;have s:¬ltW a g (c (b+e+1)) (c b):=fun d=>l (d.le_right k);refine ⟨?_,s⟩;by_cases i:f (c (b+e)) (c (b+e+1))=0;have o:=(n _ _).1 i;rw [j,zBw (by simpa using i),zBq,r];exact ⟨fun d=>d.eq_right o,fun d=>d.eq_right o.symm⟩;rw [j,zBx i];refine ⟨fun _=>?_,fun _=>by omega⟩;have m:ltW a g (c (b+e)) (c (b+e+1)):=(by rcases qW (a:=a) g (c (b+e)) (c (b+e+1)) with d | d | d;exact d;exact absurd ((n _ _).2 d) i;exact absurd d l);rcases qW (a:=a) g (c b) (c (b+e)) with d | d | d;exact d.trans m;exact ltW.eq_left d m;exact absurd d k
end
def aJr {l:List Nat} {f b c:Nat} (m:l.length<=f) (i:b < l.length) (k:c < l.length) (j:b≠c):¬eqW (aN l) f b c:=by
 intro e;rcases zBe b c with g | g;have d:=e (l.length - c) oM;rw [mL (show l.length<=c+(l.length - c) by omega)] at d;have:=iW (l:=l) (p:=b+(l.length - c)) oM;omega;have d:=e (l.length - b) oM;rw [mL (show l.length<=b+(l.length - b) by omega)] at d;have:=iW (l:=l) (p:=c+(l.length - b)) oM;omega
def aFX {c g:List Nat} {w:Nat->Nat->Int} {f:Nat->Nat} {q:Nat} (E:0 < q) (y:∀b d,w b d=0↔eqW (aN c) q b d) (z:∀b,b+1 < c.length->¬ltW (aN c) q (f (b+1)) (f b))
 (o:g.length=c.length) (x:∀b,b < c.length->g[f b]?=some (cN w f b)) (A:∀e,e < c.length->∃b,b < c.length/\f b=e):RankOk (aN c) (aN g) q:=by
 have G:∀b d,b < c.length->d < c.length->(aN g (f b) < aN g (f d)↔ltW (aN c) q (f b) (f d)):=by intro b d t u;rw [mA (x b t),mA (x d u)];rcases zBe b d with C | C;have:=(aBg y z b (d - b) oM).1;rw [show b+(d - b)=d by omega] at this;rw [<-this];omega;have n:=aBg y z d (b - d) oM;rw [show d+(b - d)=b by omega] at n;have s:=(tZ w f d (b - d)).1;rw [show d+(b - d)=b by omega] at s;exact ⟨fun j=>absurd j oM,fun j=>absurd j n.2⟩
 intro e k;rcases zBe e c.length with m | m;obtain ⟨b,t,rfl⟩:=A e m;rcases zBe k c.length with i | i;obtain ⟨d,u,rfl⟩:=A k i;exact G b d t u;have n:=iW (l:=g) (p:=f b) (by rw [o];exact m);have s:=mL (l:=g) (p:=k) (by rw [o];exact i);refine ⟨fun j=>absurd j oM,fun ⟨v,F,B,r⟩=>?_⟩;exfalso;have H:=iW (l:=c) (p:=f b) m;rcases v with _ | v;rw [zBq,zBq,mL i] at r;omega;have:=B 0 oM;rw [zBq,zBq,mL i] at this;omega;have s:=mL (l:=g) (p:=e) (by rw [o];exact m);rcases zBe k c.length with i | i;have n:=iW (l:=g) (p:=k) (by rw [o];exact i);refine ⟨fun _=>⟨0,E,fun I D=>absurd D oM,?_⟩,fun _=>by omega⟩;rw [zBq,zBq,mL m];have:=iW (l:=c) (p:=k) i;omega;have n:=mL (l:=g) (p:=k) (by rw [o];exact i);refine ⟨fun j=>absurd j oM,fun ⟨v,F,B,r⟩=>?_⟩;rw [mL oM,mL oM] at r;exact absurd r oM
def aKA {a:Nat->Int} {d:Nat->Nat->Int} {b:Nat->Nat} {e c:Nat} (m:∀i j,d i j=0↔eqW a e i j) (n:∀i,i+1 < c->¬ltW a e (b (i+1)) (b i)) (s:0 < c) (r:cN d b (c - 1)=c - 1) {i j:Nat} (p:i < j) (q:j < c):ltW a e (b i) (b j):=by
 have g:=tZ d b 0 i;have k:=tZ d b i (j - i);have l:=tZ d b j (c - 1 - j);have o:cN d b 0=0:=rfl;rw [zBi] at g;rw [show i+(j - i)=j by omega] at k;rw [show j+(c - 1 - j)=c - 1 by omega] at l;have f:=(aBg m n i (j - i) oM).1;rw [show i+(j - i)=j by omega] at f;exact f.1 oM
def aJL {d:Nat->Nat->Int} {c:Nat->Nat} {n:Nat} (e:∀b,b+1 < n->d (c b) (c (b+1))≠0) (b:Nat) (f:b < n):cN d c b=b:=by
 induction b with
 | zero=>rfl
 | succ b g=>
   show cN d c b+_=_;rw [zBx (e b f),g oM]
def aDJ (b:List Nat):RankOk (aN b) (aN b) 1:=by
 intro i j;constructor;intro c;exact ⟨0,by omega,fun k e=>absurd e oM,c⟩;rintro ⟨f,g,_,d⟩;have:f=0:=oM;subst this;exact d
end
section
open Go.RowKit
structure OrdAt (W:World) (gw gn gr:Nat) (w n:Nat) (A:Option Addr) (c:Nat) (R:List Nat):Prop where
 wide:W.cell? gw=some (.int .i64 (w:Int))
 len:W.cell? gn=some (.int .i64 (n:Int))
 rank:W.cell? gr=some (.slice A n c)
 rd:Rd W W.heap.size 1 A n (R.map sv)
def OrdAt.drewN {e:World} {j g i l k f:Nat} {c:Option Addr} {d:List Nat} (b:OrdAt e j g i l k c f d) (m:Nat):OrdAt (e.drewN m) j g i l k c f d:=⟨b.wide,b.len,b.rank,b.rd⟩
def OrdAt.at {i:World} {o m n t k l:Nat} {f:Option Addr} {g:List Nat} (p:OrdAt i o m n t k f l g) {e:Nat} (r:e < k):∃(b c d:Nat),f=some ⟨b,c,none⟩/\g[e]?=some d/\i.cell? ⟨b,c+e,none⟩=some (.int .i64 (d:Int)):=by
 obtain ⟨b,c,v,rfl,u,j,q⟩:=p.rd.get r;rw [zAf] at j;obtain ⟨d,s,rfl⟩:=Option.map_eq_some_iff.1 j;exact ⟨b,c,d,rfl,s,q⟩
def aAn {gw gn gr w n c:Nat} {g:Option Addr} {R:List Nat} {i:Nat} {W:World} (b:OrdAt W gw gn gr w n g c R) (A:w<=1000) (z:n<=1000) (y:i < n):
 Calls prog 64 #[(i:Int),gw,gn,gr] W fun j q=>j=.returned (.int .i64 (aN R (i+w)))/\∃o,q=W.drewN o:=by
 have v:R.length=n:=by simpa using b.rd.1
 have s:=b.wide;have t:=b.len;have u:=b.rank;by_cases k:i+w < n
 · have m:(i:Int)+(w:Int) < (n:Int):=oM;obtain ⟨r,B,C,rfl,f,x⟩:=b.at k;have d:=mA f;have e:=lhd d;clear f b d;go_enter func64,ntmps64;go_wp2;go_ret;exact ⟨by rw [e.out];first | rfl | simp_all,0,rfl⟩
 · have m:¬((i:Int)+(w:Int) < (n:Int)):=oM;have d:=mL (l:=R) (p:=i+w) oM;have e:=lhd d;clear b d;go_enter func64,ntmps64;go_wp2;go_ret;exact ⟨by rw [e.out];rfl,0,rfl⟩
def aAm {gw gn gr:Nat} (G:Nat) {w n c:Nat} {A:Option Addr} {R:List Nat} (g j:Nat) {W:World} (b:OrdAt W gw gn gr w n A c R) (a0:W.cell? G=some (.func (.func 64) #[] #[gw,gn,gr])) (J:w<=1000) (I:n<=1000) (r:∀T∈R,T<=1000) (K:g < n) (L:j < n):
 Calls prog 65 #[(g:Int),(j:Int),gr,G] W fun l U=>l=.returned (.int .i64 (jM (aN R) w g j))/\∃d,U=W.drewN d:=by
 have Y:=b.rank;have D:=lhd b;obtain ⟨V,a5,o,H,y,a1⟩:=b.at K;obtain ⟨X,a6,d,q,k,a2⟩:=b.at L;rw [H] at q;injection q with q;injection q with e1 e2;subst e1 e2;have a3:=r o (zAd y);have a4:=r d (zAd k);have E:=mA y;have F:=mA k;have u:∀m,-1<=aN R m/\aN R m<=1000:=by
  intro m;unfold aN;split
  · next z hz=>
    have:=r z (zAd hz);omega
  omega
 have b1:=u (g+w);have b2:=u (j+w);have x:jM (aN R) w g j=if (o:Int)≠(d:Int) then (o:Int) -(d:Int) else aN R (g+w) - aN R (j+w):=by unfold jM;rw [E,F]
 obtain ⟨B,s⟩:=eqx (aN R (g+w));obtain ⟨p,t⟩:=eqx (aN R (j+w));rw [s,t] at x;rw [s] at b1;rw [t] at b2;rw [x];subst H;obtain ⟨M,N⟩:=hqq2 s t;clear b y k E F u x s t r;by_cases P:o=d
 · subst P;rw [zBw (by simp)];go_enter func65,ntmps65;go_wp2;go_quiet (fail);go_wp2;have Q:∀f:Nat,Calls prog 64 #[(g:Int),gw,gn,gr] (W.drewN (nq+f)) fun l C=>l=.returned (.int .i64 B)/\∃n,C=W.drewN (nq+n):=fun f=>by have b:=aAn (gw:=gw) (gn:=gn) (gr:=gr) (w:=w) (n:=n) (c:=c) (R:=R) (i:=g) (W:=(W.drewN (nq+f))) (D.out.drewN _) J I K;rw [M.out] at b;exact b.mono fun _ _ ⟨v,d,k⟩=>⟨v,f+d,by rw [k,World.drewN_drewN,Nat.add_assoc]⟩
   have S:∀f:Nat,Calls prog 64 #[(j:Int),gw,gn,gr] (W.drewN (nq+f)) fun l C=>l=.returned (.int .i64 p)/\∃n,C=W.drewN (nq+n):=fun f=>by have b:=aAn (gw:=gw) (gn:=gn) (gr:=gr) (w:=w) (n:=n) (c:=c) (R:=R) (i:=j) (W:=(W.drewN (nq+f))) (D.out.drewN _) J I L;rw [N.out] at b;exact b.mono fun _ _ ⟨v,d,k⟩=>⟨v,f+d,by rw [k,World.drewN_drewN,Nat.add_assoc]⟩
   have Z:IntKind.i64.wrap (B - p)=B - p:=(by rw [IntKind.wrap_i64];omega);go_quiet ((first |(with_reducible exact Q _)|(with_reducible exact S _)));go_wp2;go_ret;exact ⟨eS (by first | omega | rfl),_,World.drewN_drewN _ _ _⟩
 · have O:¬((o:Int)=(d:Int)):=oM;rw [zBx O];go_enter func65,ntmps65;go_wp2;go_quiet (fail);go_wp2;go_quiet (fail);go_wp2;go_ret;exact ⟨eS oM,_,World.drewN_drewN _ _ _⟩
@[irreducible] def wcells (e:Nat->Value) (n p:Int):Array Value:=#[e 0,e 1,e 2,e 3,e 4,e 5,e 6,e 7,e 8,.int .i64 n,.int .i64 p]
def bV (b:Nat->Value) (c d:Int):(wcells b c d)[0]?=some (b 0)/\(wcells b c d)[1]?=some (b 1)/\(wcells b c d)[2]?=some (b 2)/\(wcells b c d)[3]?=some (b 3)/\(wcells b c d)[4]?=some (b 4)/\(wcells b c d)[5]?=some (b 5)/\(wcells b c d)[6]?=some (b 6)/\(wcells b c d)[7]?=some (b 7)/\(wcells b c d)[8]?=some (b 8)/\(wcells b c d)[9]?=some (.int .i64 c)/\(wcells b c d)[10]?=some (.int .i64 d):=by
 unfold wcells;exact ⟨rfl,rfl,rfl,rfl,rfl,rfl,rfl,rfl,rfl,rfl,rfl⟩
def dS (b:Nat->Value) (c e d:Int):(wcells b c e).setIfInBounds 10 (.int .i64 d)=wcells b c d:=by
 unfold wcells;rfl
def sS (b:Nat->Value) (c d:Int) {i:Nat} (p:i < 9):(wcells b c d)[i]?=some (b i):=by
 obtain ⟨e,f,g,j,k,l,m,n,o,_⟩:=bV b c d;rcases i with _ | _ | _ | _ | _ | _ | _ | _ | _ | i
 all_goals first | assumption | omega
def aDq (c:Nat->Value) (e g:Int) {b:Nat} (i:b < 9) (f:Value):(wcells c e g).setIfInBounds b f=wcells (fun d=>if d=b then f else c d) e g:=by
 unfold wcells;rcases b with _ | _ | _ | _ | _ | _ | _ | _ | _ | b
 all_goals first | rfl | omega
def Vis.waveC {i j:World} {e:Nat} {d:Nat->Value} {f g:Int} (k:Vis i j) (l:Bk i e 206 (wcells d f g)):∃c,Bk j e 206 (wcells d f c):=by
 rcases k.wave l with b |⟨c,b⟩;exact ⟨g,b⟩;rw [dS] at b;exact ⟨c,b⟩
def aGK {e gk j d:Nat} (x y:Int) {o:Value} {i:List Bool} {g:Nat} {c:Bool} {b:World} (q:TreeAt b e i) (l:Bk b gk 3 #[(g:Int)]) (k:Bk b j 4 #[.bool c]) (m:Bk b d 3 #[o]) (w:g<=i.length):
 Calls prog 260 #[.agg #[e,.int .i64 x,.int .i64 y],gk,j,d] b fun p z=>p=.returned (.tuple #[])/\
  ∃w1,VisK (fun c=>c=e) b w1/\Bk w1 d 3 #[o]/\z=w1.setCell d (.int .i64 (((i.take g).count c:Nat):Int)):=by
 have A:b.cell? gk=some (.int .i64 (g:Int)):=(l.cell 0).trans rfl;have B:b.cell? j=some (.bool c):=(k.cell 0).trans rfl;have E:=l.lt;have F:=k.lt;have G:=m.lt;obtain ⟨v,t⟩:=hqq2 q m;clear q l k m;go_enter func260,ntmps260;go_wp2_with fail;refine (aBn c (v.out.below (bR.alloc nL _)) w).mono ?_;rintro p w1 ⟨rfl,r⟩;have n:VisK (fun c=>c=e) b w1:=(VisK.of_below (bR.alloc nL _)).trans r;have f:=n.1.bk t.out dC dC;have C:w1.cell? d=some o:=(f.cell 0).trans rfl;have D:=f.frozen 0;obtain ⟨s,u⟩:=hqq2 n f;clear r n f;go_wp2_with fail;go_end0;exact ⟨rfl,w1,s.out,u.out,rfl⟩
def Vis.of_wave {e f:World} {d:Nat} {g:Nat->Value} {j o k:Int} (b:Keep (fun c=>c=d) e f) (l:Bk e d 206 (wcells g j o)) (m:Bk f d 206 (wcells g j k)):Vis e f:=by
 refine ⟨b.os,b.tape,b.output,b.size,fun c n _=>?_⟩;by_cases i:c=d;subst i;exact .inr (.inr ⟨_,k,l,by rw [dS];exact m⟩);exact .inl (b.block c n i)
def sD {w b i:Nat} {H r:Array Value} {S:Nat->Value} {n:Int} {v o:Int} {j:World} {q:World->Int->Int->Prop} (aa:∀r j,(callFunc w r).run prog j=.ok (.enter w r) j)
 (A:Calls prog w r (j.alloc (.cells #[i,.int .i64 v,.int .i64 o] 211)) fun s d=>s=.returned (.tuple #[])/\
  ∃c g:Int,(Bk d b 206 (wcells S n c)/\Bk d j.heap.size 211 #[i,.int .i64 v,.int .i64 o]/\i < d.heap.size/\i≠b/\d.cell? ⟨i,3,none⟩=some (.int .i64 g))/\q d c g)
 (a9:#[.agg #[i,.int .i64 v,.int .i64 o]]++H=r:=by simp):
 Calls prog 207 #[b,.agg #[i,.int .i64 v,.int .i64 o],.func (.func w) #[] H] j fun s L=>s=.returned (.tuple #[])/\
  ∃d c g,q d c g/\Bk d b 206 (wcells S n c)/\Keep (fun f=>f=b) d L/\Bk L b 206 (wcells S n (IntKind.i64.wrap (c+g))):=by
 obtain ⟨ac,B⟩:=eqx (Obj.cells #[i,.int .i64 v,.int .i64 o] 211);rw [B] at A;obtain ⟨E,P⟩:=hqq2 A B;clear A B;go_enter func207,ntmps207;go_wp2_with fail;rw [P.out];refine E.out.mono ?_;rintro s d ⟨rfl,c,g,⟨C,x,Y,X,K⟩,J⟩;have ab:=x.lt;have W:=Bk.ne C x dC;obtain ⟨G,R,T,Q⟩:=hqq4 C x K J;clear C x K J E;go_wp2_with fail;refine wp_region_any kR ?_;refine cT (pJ:=(fun _ y=>Bk y b 206 (wcells S n (IntKind.i64.wrap (c+g))))) [9,10,11,12,13,14,15,16,17,18] (fun f=>f=b) 10 [3,10] [is b,is b,is (.pointer (some ⟨b,10,none⟩)),is (.int .i64 c),is (.pointer (some ⟨j.heap.size,0,none⟩)),is i,is (.int .i64 g),is (.int .i64 (IntKind.i64.wrap (c+g))),is b,is (.pointer (some ⟨b,10,none⟩)),dJ] _ rfl kR kR (G.out) (fun y ae m _ V=>Bk.below m V m.lt) (fun _ _ _ m Z=>Bk.below m Z m.lt) tA1 ?_ ?_
 · refine aV ?_;refine pH3 0 (.pointer (some b)) ?_;refine pV3 0 9 ?_;refine pV3 1 10 ?_;refine sC3 (fun _ l _ z _ _ _ k _ _ _ t=>?_) ?_
   · have u:=z rfl;have a3:_=_:=k 2 11 kR rfl;have a1:l.cell? ⟨b,10,none⟩=some (.int .i64 c):=(u.cell 10).trans (bV _ _ _).2.2.2.2.2.2.2.2.2.2;go_simp;exact kq t rfl
   refine pH3 4 (.pointer (some ⟨j.heap.size,0,none⟩)) ?_;refine pL3 4 13 (fun l e=>have e:Keep (fun f=>f=b) d l:=kD e;(((e.bk R.out (fun m=>W (show j.heap.size=b from m).symm)).cell 0).trans rfl:l.cell? ⟨j.heap.size,0,none⟩=some (.pointer (some i)))) ?_;refine sC3 (fun _ l e _ _ _ _ k _ _ _ t=>?_) ?_
   · replace e:Keep (fun f=>f=b) d l:=kD e;have a4:_=_:=k 5 14 kR rfl;go_simp;refine (xH ((e.cell Y X).trans T.out)).mono ?_;rintro s af ⟨rfl,U⟩;exact t _ _ (aO U) rfl
   refine pW3 3 12 6 15 ?_;refine pV3 0 9 ?_;refine pV3 8 17 ?_;refine sC3 (fun _ l _ z _ _ _ k _ _ _ t=>?_) ?_
   · have u:=z rfl;have a6:_=_:=k 9 18 kR rfl;have a5:_=_:=k 7 16 kR rfl;have a2:l.cell? ⟨b,10,none⟩=some (.int .i64 c):=(u.cell 10).trans (bV _ _ _).2.2.2.2.2.2.2.2.2.2;have a8:=u.frozen 10;go_simp;refine t (.bool true) _ (bJ (Keep.setCell (F:=fun f=>f=b) (Keep.refl _ _) (p:=⟨b,10,none⟩) (.inl rfl) _)) ?_;rw [<-dS S n c];exact u.set 10 _
   exact aH
 · intro a7 M e k I;replace e:Keep (fun f=>f=b) d M:=kD e;obtain ⟨ad,D⟩:∃a0,(fun _ y=>Bk y b 206 (wcells S n (IntKind.i64.wrap (c+g)))) a0 M:=I 10 dC;simp only [zqq];clear k I;obtain ⟨N,O⟩:=hqq2 D e;clear D e;go_wp2_with fail;go_end0;exact ⟨rfl,d,c,g,Q.out,G.out,O.out,N.out⟩
def aGQ {j f gk H c:Nat} {z:Nat->Value} {C W:Int} (x k:Int) {ad:Value} {g:List Bool} {i:Nat} {b:Bool} {d:World} (m:Bk d j 206 (wcells z C W)) (T:TreeAt d f g) (l:Bk d gk 3 #[(i:Int)]) (A:Bk d H 4 #[.bool b]) (w:Bk d c 3 #[ad]) (a6:i<=g.length):
 Calls prog 207 #[j,.agg #[f,.int .i64 x,.int .i64 k],.func (.func 260) #[] #[gk,H,c]] d fun e y=>e=.returned (.tuple #[])/\
  VisF (fun b=>b=c) d y/\Keep (fun b=>b=j∨b=f∨b=c) d y/\Bk y c 3 #[.int .i64 (((g.take i).count b:Nat):Int)]:=by
 have J:=(Below.refl d.heap.size d).alloc nL (.cells #[f,.int .i64 x,.int .i64 k] 211);have Q:=Bk.new d 211 #[f,.int .i64 x,.int .i64 k];have ag:=l.lt;have ah:=A.lt;have ai:=w.lt;have aa:=m.lt;have ab:=Bk.ne w m dC;obtain ⟨v,E,Y,X,G,r,Z⟩:=hqq7 T w l A m J Q;clear T l A w m J Q;have a4:=aGK x k (v.out.below r.out) (Y.out.alloc _) (X.out.alloc _) (E.out.alloc _) a6;refine (sD (S:=z) (n:=C) (q:=fun s ac D=>VisF (fun b=>b=c) d s/\Keep (fun b=>b=j∨b=f∨b=c) d s/\Bk s c 3 #[.int .i64 (((g.take i).count b:Nat):Int)]) (kJ func260 kR kR) (a4.mono ?_)).mono ?_
 rotate_left
 rintro e y ⟨rfl,s,ac,D,⟨a2,t,I⟩,m,l,a8⟩;exact ⟨rfl,VisF.trans a2 (VisF.of_vis (Vis.of_wave l m a8)),t.trans (l.mono fun b _ e=>.inl e),l.bk I (fun e=>Bk.ne m I dC (show c=j from e).symm)⟩;rintro e ak ⟨rfl,w1,u,O,rfl⟩;have L:f≠j:=by rintro rfl;obtain ⟨_,t⟩:=v.out.blk;exact absurd (aL t G.out).1 dC
 have a9:=u.2.bk (G.out.below r.out aa) (fun e=>L (show j=f from e).symm);have af:c≠f:=by rintro rfl;obtain ⟨_,t⟩:=v.out.blk;exact absurd (aL t E.out).1 dC
 have V:=a9.far (p:=c) (fun o=>ab o.symm) (.int .i64 (((g.take i).count b:Nat):Int));have a7:=v.out.vis ((Vis.of_below r.out).trans u.1);have B:TreeAt (w1.setCell c (.int .i64 (((g.take i).count b:Nat):Int))) f g:=a7.same fun a0 aj ae M o=>o.far (fun e=>by
  have a1:a0=c:=e;subst a1;rw [<-(aL O o).1] at M;exact absurd M dC) _
 obtain ⟨D,U⟩:=B.visits;have R:=(u.1.bk Z.out dC dC).far (p:=c) (fun o=>absurd (show d.heap.size=c from o) oM) (.int .i64 (((g.take i).count b:Nat):Int));have P:=O.set 0 (.int .i64 (((g.take i).count b:Nat):Int));have K:VisF (fun b=>b=c) d (w1.setCell c (.int .i64 (((g.take i).count b:Nat):Int))):=VisF.put (F:=fun b=>b=c) (VisF.of_vis ((Vis.of_below r.out).trans u.1)) (p:=c) (.inl rfl) _;have N:Keep (fun b=>b=j∨b=f∨b=c) d (w1.setCell c (.int .i64 (((g.take i).count b:Nat):Int))):=Keep.setCell (F:=fun b=>b=j∨b=f∨b=c) ((Keep.of_below r.out).trans (u.2.mono fun b _ e=>.inr (.inl e))) (p:=c) (.inl (.inr (.inr rfl))) _;obtain ⟨s,a3⟩:=eqx (w1.setCell c (.int .i64 (((g.take i).count b:Nat):Int)));rw [a3] at V B U R P K N⊢;have a5:f≠j:=L;exact ⟨rfl,W,D,⟨V,R,B.lt,a5,U⟩,K,N,P⟩
def mC {gv gt:Nat} {S:Nat->Value} {n v:Int} (d e:Int) {bs:List Bool} {k:Nat} (b:Bool) {w:World} (l:Bk w gv 206 (wcells S n v)) (z:TreeAt w gt bs) (M:k<=bs.length):
 Calls prog 210 #[gv,.agg #[gt,.int .i64 d,.int .i64 e],(k:Int),.bool b] w fun c N=>c=.returned (.int .i64 (((bs.take k).count b:Nat):Int))/\VisK (fun b=>b=gv∨b=gt) w N:=by
 have P:∀(p:Fn) (first o:Array Value) (w:World),(Instr.makeFunc p first o).run prog w=.ok (.func p first o) w:=fun _ _ _ _=>rfl;obtain ⟨i,g⟩:=eqx ((((w.alloc (.cells #[gt,.int .i64 d,.int .i64 e] 211)).alloc (.cells #[(k:Int)] 3)).alloc (.cells #[.bool b] 4)).alloc (.cells #[.int .i64 0] 3));have j:Below w.heap.size w i:=by rw [<-g];exact (((bR.alloc nL _).alloc (by simp) _).alloc (by simp;omega) _).alloc (by simp;omega) _
 have q:Bk i (w.heap.size+1) 3 #[(k:Int)]:=by rw [<-g];have f:=Bk.new (w.alloc (.cells #[gt,.int .i64 d,.int .i64 e] 211)) 3 #[(k:Int)];rw [show (w.alloc (.cells #[gt,.int .i64 d,.int .i64 e] 211)).heap.size=w.heap.size+1 from by simp] at f;exact (f.alloc _).alloc _
 have r:Bk i (w.heap.size+1+1) 4 #[.bool b]:=by rw [<-g];have f:=Bk.new ((w.alloc (.cells #[gt,.int .i64 d,.int .i64 e] 211)).alloc (.cells #[(k:Int)] 3)) 4 #[.bool b];rw [show ((w.alloc (.cells #[gt,.int .i64 d,.int .i64 e] 211)).alloc (.cells #[(k:Int)] 3)).heap.size=w.heap.size+1+1 from by simp] at f;exact f.alloc _
 have s:Bk i (w.heap.size+1+1+1) 3 #[.int .i64 0]:=by rw [<-g];have f:=Bk.new (((w.alloc (.cells #[gt,.int .i64 d,.int .i64 e] 211)).alloc (.cells #[(k:Int)] 3)).alloc (.cells #[.bool b] 4)) 3 #[.int .i64 0];rw [show (((w.alloc (.cells #[gt,.int .i64 d,.int .i64 e] 211)).alloc (.cells #[(k:Int)] 3)).alloc (.cells #[.bool b] 4)).heap.size=w.heap.size+1+1+1 from by simp] at f;exact f
 have C:=l.below j l.lt;have A:=z.below j;obtain ⟨K,J,D,E,F,I,m⟩:=hqq7 C A q r s g j;clear l z C A q r s g j;go_enter func210,ntmps210;go_wp2_with fail;rw [I.out];refine (aGQ d e K.out J.out D.out E.out F.out M).mono ?_;rintro c w1 ⟨rfl,B,x,y⟩;have t:Vis w w1:=VisF.to_vis (VisF.trans (VisF.of_vis (Vis.of_below m.out)) B) (fun b L c=>by omega);have u:Keep (fun b=>b=gv∨b=gt) w w1:=(Keep.of_below m.out).trans' x (fun b L c=>by
  rcases c with c | c | c;exact .inl c;exact .inr c
  · omega)
 have O:w1.cell? ⟨w.heap.size+1+1+1,0,none⟩=some (.int .i64 (((bs.take k).count b:Nat):Int)):=(y.cell 0).trans rfl;obtain ⟨G,H⟩:=hqq2 t u;clear B x y t u;go_wp2_with fail;go_ret;exact ⟨rfl,G.out,H.out⟩
def sO {gb:Nat} {l:List Bool} {k:Nat} {w:World} (b:Bk w gb 297 (gP l)) (f:k < l.length):
 Calls prog 283 #[gb,(k:Int)] w fun c d=>c=.returned (.int .i64 0)/\Below w.heap.size w d:=by
 have e:w.cell? gb=some (.int .i64 (l.length:Int)):=(b.cell 0).trans rfl;have j:=b.lt;have g:¬(k:Int) < 0:=oM;have i:decide ((k:Int)>=(l.length:Int))=false:=by simp;omega
 clear b;go_enter func283,ntmps283;go_wp2_with fail;go_ret;exact ⟨rfl,Below.refl _ _⟩
def aKN (c:List Bool) (b:Nat):(if b < 64 then w0 c >>> b else w1 c >>>(b - 64))&&& 1=if c.getD b false then 1 else 0:=by
 by_cases e:b < 64
 · rw [zBx e];have:=jC (c.take 64) b;rw [Nat.and_one_is_mod,Nat.shiftRight_eq_div_pow,<-Nat.toNat_testBit,show (w0 c).testBit b=(c.take 64).getD b false from this];have d:(c.take 64).getD b false=c.getD b false:=(by simp [zAb,zBs,e]);rw [d];cases c.getD b false <;> rfl
 · rw [zBw e];have:=jC (c.drop 64) (b - 64);rw [Nat.and_one_is_mod,Nat.shiftRight_eq_div_pow,<-Nat.toNat_testBit,show (w1 c).testBit (b - 64)=(c.drop 64).getD (b - 64) false from this];have d:(c.drop 64).getD (b - 64) false=c.getD b false:=(by simp [zAb,zBt,show 64+(b - 64)=b by omega]);rw [d];cases c.getD b false <;> rfl
def aFl {c b:Nat} {d:Bool} (j:c < 18446744073709551616) (i:c >>> b&&& 1=if d then 1 else 0):(bits .and .u64 ((c:Int)/ 2 ^ b) 1==1)=d:=by
 have e:=aAD c b 1 (2 ^ b) j oM rfl;have f:((2 ^ b:Nat):Int)=(2:Int)^ b:=by push_cast;rfl
 rw [f] at e;have g:bits .and .u64 ((c:Int)/ 2 ^ b) 1=((c >>> b&&& 1:Nat):Int):=e;rw [g,i];cases d <;> rfl
def aBJ {i:Nat} {c:List Bool} {b:Nat} {j:World} (m:Bk j i 297 (gP c)) (z:c.length<=128) (y:b < c.length):
 Calls prog 259 #[i,(b:Int)] j fun n A=>n=.returned (.tuple #[.bool (c.getD b false),.int .i64 0])/\Below j.heap.size j A:=by
 have e:=lhd m;have d:=aKN c b;obtain ⟨B,p⟩:=eqx (c.getD b false);rw [p] at d⊢;clear p;have r:=mO c;have b1:=mJ z;have D:=m.lt;clear m;go_enter func259,ntmps259;go_wp2_with fail;refine (sO e.out y).mono ?_;rintro n q ⟨rfl,f⟩;have g:=e.out.below f e.out.lt;have s:q.cell? ⟨i,1,none⟩=some (.int .u64 ((w0 c:Nat):Int)):=(g.cell 1).trans rfl;have t:q.cell? ⟨i,2,none⟩=some (.int .u64 ((w1 c:Nat):Int)):=(g.cell 2).trans rfl;have E:=g.lt;by_cases o:b < 64
 · rw [zBx o] at d;have v:(b:Int).tdiv 64=0:=(by rw [Int.tdiv_eq_ediv_of_nonneg oM];omega);have w:(b:Int).tmod 64=(b:Int):=(by rw [Int.tmod_eq_emod_of_nonneg oM];omega);have x:IntKind.u64.wrap (b:Int)=(b:Int):=(by rw [IntKind.wrap_u64];omega);generalize w0 c=u at*
   obtain ⟨l,k⟩:=hqq2 d f;clear f g t e d;go_wp2_with fail;go_ret2;exact ⟨by rw [aFl r l.out];rfl,k.out⟩
 · rw [zBw o] at d;have v:(b:Int).tdiv 64=1:=(by rw [Int.tdiv_eq_ediv_of_nonneg oM];omega);have w:(b:Int).tmod 64=((b - 64:Nat):Int):=(by rw [Int.tmod_eq_emod_of_nonneg oM];omega);have x:IntKind.u64.wrap ((b - 64:Nat):Int)=((b - 64:Nat):Int):=(by rw [IntKind.wrap_u64];omega);have C:b - 64 < 64:=oM;generalize w1 c=u at*
   generalize b - 64=k2 at*
   obtain ⟨l,k⟩:=hqq2 d f;clear f g s e d;go_wp2_with fail;go_ret2;exact ⟨by rw [aFl b1 l.out];rfl,k.out⟩
end
end Go.Proofs.YtcoooelofcejbaaGreatDoor
