/- Lemmas of the walk. Conditions: each its own. -/
import Derived.Test.YtknjfpcdhdmghaaGreatDoorPt21
import Derived.Test.YtknjfpcdhdmghaaGreatDoorPt22
import Derived.Test.YtknjfpcdhdmghaaGreatDoorPt23
set_option linter.all false
set_option maxRecDepth 100000
set_option maxHeartbeats 4000000
open Go.Proofs.Tryz
namespace Go.Proofs.YtknjfpcdhdmghaaGreatDoor
open Go.RowKit Go.Shelf
def vG {A n} (d) {B b w} (r:Rd w B 1 A n (b.map bv)) (hB:B<=w.heap.size) (a3:n<=1000000):
 Calls prog 79 #[.slice A n d] w λe Q=>∃t C,e=.returned (.slice t (eE b).length C)/\Made Q w.heap.size 5 1 t (eE b).length C ((eE b).map bv)/\Below w.heap.size w Q:=by
 have I:b.length=n:=by have:=r.1;simpa using this
 obtain ⟨k0,q⟩:=eqx ((bW n).length);have a2:k0<=11:=by rw [<-q];exact bX n
 obtain ⟨o,p⟩:=eqx ((eE b).length);have a0:o<=2000000:=by rw [<-p,kW,I,q];omega
 have R:=(r.mono hB);have a1:=vA b;rw [p];clear r;go_enter func79,ntmps79;go_wp2_with fail;refine (aBd (l:=[n]) (bs:=(bW n)) (k:=k0) _ (tH n) q (Rd.made _ _ 1 1 _ rfl) nL zt oM).mono ?_;rintro e w1 ⟨u,D,rfl,K,F⟩;have i:=((kg w.heap.size w).alloc nL _).trans (F.mono zs);have O:=K.rd;have j:=(R.below i);have s:=i.size;clear K F;go_wp2_with fail;refine (xL (A:=A) (n:=n) (c:=d) (b:=b) _ (((j.alloc s _).mono zt)) oM (Rd.made _ _ 1 1 _ rfl)).mono ?_;rintro e a7 ⟨rfl,G⟩;have f:=((kg w1.heap.size w1).alloc nL _).trans (G.mono zs);have x:=(j.below (f.mono s));have z:=(O.below f);have y:=(i.trans (f.mono s));have a4:=f.size;clear f G j O i;go_wp2_with fail;refine (aCI (lP b) _).mono ?_;rintro e a ⟨v,E,rfl,L,g⟩;have X:=L.rd;have S:=(x.below (g.mono oM));have W:=(z.below (g.mono oM));have m:=(y.trans (g.mono oM));have a5:=g.size;clear g L x z y;go_wp2_with fail
 have J:=oX (A0:=(some ⟨a.heap.size,0,none⟩)) (m0:=3) (B:=(a.heap.size+1)) (ss:=[⟨u,k0,D,bW n⟩,⟨A,n,d,b⟩,⟨v,4,E,nD (lP b)⟩]) (T:=(eE b)) (N:=o) (w:=(a.alloc (.cells #[.slice u k0 D,.slice A n d,.slice v 4 E] 22))) 3 (by unfold eE;rw [I];simp [iV]) p ((Rd.made a _ 1 3 _ rfl).mono zs) (by
  intro a6 P;simp at P;rcases P with rfl | rfl | rfl;exact (W.mono oM).alloc oM _ |>.mono oM;exact (S.mono oM).alloc oM _ |>.mono oM
  .exact (X.alloc oM _).mono oM) zs oM oM
 refine J.mono ?_;clear J;rintro e a8 ⟨Y,Z,rfl,M,H⟩;have V:=(M.mono (B':=w.heap.size) (by simp;have:=m.size;omega));have U:=(m.trans ((((kg a.heap.size a).alloc nL _).trans (H.mono zs)).mono m.size));clear M H;go_wp2_with fail;go_ret;exact ⟨_,_,rfl,V,U⟩
def aFy {t e g u m d:Nat} (a:Nat) {b i} (f:i.ownsRow t 133 2 (.slice (some e) g u) g (bU b)) (j:a < b.length) (s:Bk i m 3 #[(d:Int)]) (E:aF b a<=1000000000000):
 Calls prog 170 #[.pointer (some ⟨e,a*2,none⟩),m] i λC z=>C=.returned (.tuple #[])/\z.ownsRow t 133 2 (.slice (some e) g u) g (bU (b.set a (bN (aF b a) d,aS b a)))/\Keep (λk=>k=e) i z:=by
 obtain ⟨x,y⟩:=cL b a j;have G:b.length=g:=by have D:=f.1;rw [dO] at D;omega
 have A:=(kh f (a*2) oM).trans x;have B:=(kh f (a*2+1) oM).trans y;have Q:i.cell? m=some (.int .i64 d):=(s.cell 0).trans rfl;obtain ⟨K,n⟩:=fE f;have M:=n.frozen (a*2);have N:=n.lt;have O:=s.lt;have r:=mW j;have w:=λI=>mA I j;obtain ⟨c,q⟩:=eqx (aF b a);obtain ⟨H,o⟩:=eqx (aS b a);rw [q] at A r E;rw [o] at B r w;rw [q,o];clear j s x y n G q o;by_cases P:d < c
 .have J:=zy ((c:Int) > d);have L:IntKind.i64.wrap (c - 1)=((c - 1:Nat):Int):=zu;have v:=(kk f (a*2) (.int .i64 (c - 1:Nat))).1;rw [w] at v;go_enter func170,ntmps170;go_wp2_with fail;go_quiet (fail);go_wp2_with fail;go_end0;refine ⟨rfl,?_,ka (F:=λk=>k=e) ((ke _ _).drewN _) (p:=⟨e,a*2,none⟩) (.inl rfl) _⟩;have l:bN (c) d=c - 1:=(by unfold bN;rw [zBx oM]);rw [l];exact v
 .have J:=zn ((c:Int) > d);go_enter func170,ntmps170;go_wp2_with fail;go_quiet (fail);go_wp2_with fail;go_end0;refine ⟨rfl,?_,(ke _ _).drewN _⟩;have l:bN (c) d=c:=(by unfold bN;rw [zBw oM]);rw [l,r];exact f
def aFA {t e g u m d:Nat} (a:Nat) {b i} (f:i.ownsRow t 133 2 (.slice (some e) g u) g (bU b)) (j:a < b.length) (s:Bk i m 3 #[(d:Int)]) (E:aS b a<=1000000000000):
 Calls prog 172 #[.pointer (some ⟨e,a*2,none⟩),m] i λC z=>C=.returned (.tuple #[])/\z.ownsRow t 133 2 (.slice (some e) g u) g (bU (b.set a (aF b a,bN (aS b a) d)))/\Keep (λk=>k=e) i z:=by
 obtain ⟨x,y⟩:=cL b a j;have G:b.length=g:=by have D:=f.1;rw [dO] at D;omega
 have A:=(kh f (a*2) oM).trans x;have B:=(kh f (a*2+1) oM).trans y;have Q:i.cell? m=some (.int .i64 d):=(s.cell 0).trans rfl;obtain ⟨J,n⟩:=fE f;have L:=n.frozen (a*2+1);have M:=n.lt;have N:=s.lt;have r:=mW j;have w:=λH=>pR b a H j;obtain ⟨P,q⟩:=eqx (aF b a);obtain ⟨c,o⟩:=eqx (aS b a);rw [q] at A r w;rw [o] at B r E;rw [q,o];clear j s x y n G q o;by_cases O:d < c
 .have I:=zy ((c:Int) > d);have K:IntKind.i64.wrap (c - 1)=((c - 1:Nat):Int):=zu;have v:=(kk f (a*2+1) (.int .i64 (c - 1:Nat))).1;rw [w] at v;go_enter func172,ntmps172;go_wp2_with fail;go_quiet (fail);go_wp2_with fail;go_end0;refine ⟨rfl,?_,ka (F:=λk=>k=e) ((ke _ _).drewN _) (p:=⟨e,a*2+1,none⟩) (.inl rfl) _⟩;have l:bN (c) d=c - 1:=(by unfold bN;rw [zBx oM]);rw [l];exact v
 .have I:=zn ((c:Int) > d);go_enter func172,ntmps172;go_wp2_with fail;go_quiet (fail);go_wp2_with fail;go_end0;refine ⟨rfl,?_,(ke _ _).drewN _⟩;have l:bN (c) d=c:=(by unfold bN;rw [zBw oM]);rw [l,r];exact f
def aBp {m j q k l:Nat} {f t u s} {o n:Nat} {c b r p g} (w:PermAt g m j q f t u s o n c b r p) (D:c.Nodup) (C:c.length<=1000000) (F:Bk g k 3 #[(l:Int)]) (A:∀e,f.ownBlock=some e->e≠k) (x:∀a,a∈c->aF b a<=1000000000000/\aS b a<=1000000000000):
 Calls prog 169 #[j,.func (.func 170) #[] #[k]] g λi v=>i=.returned (.tuple #[])/\Keep (λe=>f.ownBlock=some e) g v/\∃d,d.length=b.length/\(∀a,a∈c->(aF d a,aS d a)=(bN (aF b a) l,aS b a))/\PermAt v m j q f t u s o n c d r p:=
 qV (λH G=>(bN H l,G)) w D C x (mM func170 kR kR) λ_ _ _ a _ _ B E y z=>aFy a E y (B.d F λi=>A _ i rfl) z.1
def aBq {m j q k l:Nat} {f t u s} {o n:Nat} {c b r p g} (w:PermAt g m j q f t u s o n c b r p) (D:c.Nodup) (C:c.length<=1000000) (F:Bk g k 3 #[(l:Int)]) (A:∀e,f.ownBlock=some e->e≠k) (x:∀a,a∈c->aF b a<=1000000000000/\aS b a<=1000000000000):
 Calls prog 169 #[j,.func (.func 172) #[] #[k]] g λi v=>i=.returned (.tuple #[])/\Keep (λe=>f.ownBlock=some e) g v/\∃d,d.length=b.length/\(∀a,a∈c->(aF d a,aS d a)=(aF b a,bN (aS b a) l))/\PermAt v m j q f t u s o n c d r p:=
 qV (λH G=>(H,bN G l)) w D C x (mM func172 kR kR) λ_ _ _ a _ _ B E y z=>aFA a E y (B.d F λi=>A _ i rfl) z.2
def aKT {c e} (g:IsSuf c e) (d a) {b} (p:b < e.length):Pq c d a e[b]=decide (b < Nq c d a):=by
 have n:e.countP (Pq c d a)=Nq c d a:=g.count _;have ht:=wH (P:=Pq c d a) g.B (λj v s t=>aDM a s t);rw [n] at ht;rw [zEd,zCa];constructor;intro m;by_cases k:b < Nq c d a;exact k;exfalso;have o:∀j∈e.take (b+1),Pq c d a j=true:=(by intro j r;obtain ⟨i,q,rfl⟩:=zBo.1 r;rw [zAj] at q;rw [zEC];rcases zBe i b with f | f;exact aDM a (zAr.1 g.B i b oM p f) m;obtain rfl:i=b:=oM;exact m);have f:=zDJ.2 o;rw [zAj] at f;have u:(e.take (b+1)).countP (Pq c d a)<=e.countP (Pq c d a):=(zEY _ _).countP_le;omega;intro k;have l:e[b]∈e.take (Nq c d a):=(by rw [List.mem_take_iff_getElem];exact ⟨b,by omega,rfl⟩);rw [ht,zCx] at l;exact l.2
def aMN {c f} (g:IsSuf c f) (a) {b} (j:b < f.length):wJ c a f[b]=true↔Nq c false a<=b/\b < Nq c true a:=by
 obtain ⟨d,i⟩:=aMg c a f[b];rw [aKT g false a j,aKT g true a j] at d;rw [aKT g false a j] at i;constructor;intro l;rw [l] at d i;constructor;rcases zBe b (Nq c false a) with e | e;exact absurd ⟨zBz e,rfl⟩ i;exact e;simpa using d;rintro ⟨e,k⟩;rw [zBz k,zBy oM] at d;simpa using d.symm
def aGI {α:Type} (d:α->Bool) (b:List α) {a c} (q:a<=c) (r:c<=b.length) (k:∀j (s:j < b.length),d b[j]=true↔a<=j/\j < c):(b.drop a).take (c - a)=b.filter d:=by
 have m:b=b.take a++((b.drop a).take (c - a)++(b.drop a).drop (c - a)):=by rw [zAu,zAu]
 conv=>rhs;rw [m]
 rw [zEe,zEe];have n:(b.take a).filter d= []:=zFS.2 λl g f=>by obtain ⟨i,e,rfl⟩:=zBo.1 g;rw [zAj] at e;rw [zEC] at f;have:=(k i oM).1 f;omega
 have o:((b.drop a).take (c - a)).filter d=(b.drop a).take (c - a):=List.filter_eq_self.2 λl g=>by obtain ⟨i,e,rfl⟩:=zBo.1 g;rw [zAj,zAw] at e;rw [zEC,zED];exact (k (a+i) oM).2 ⟨by omega,by omega⟩
 have p:((b.drop a).drop (c - a)).filter d= []:=zFS.2 λl g f=>by obtain ⟨i,e,rfl⟩:=zBo.1 g;rw [zAw,zAw] at e;rw [zED,zED] at f;have:=(k (a+(c - a+i)) oM).1 f;omega
 rw [n,o,p];simp
def gZ (a b:List UInt8):List Nat:=(List.range (a.length+1)).filter (wJ (aG a) (dQ b))
def aEu {b d} (c:IsSuf (aG b) d) (a):((d.drop (Nq (aG b) false (dQ a))).take (Nq (aG b) true (dQ a) - Nq (aG b) false (dQ a))).Perm (gZ b a):=by
 have e:Nq (aG b) false (dQ a)<=Nq (aG b) true (dQ a):=by rw [aHx];omega
 rw [aGI (wJ (aG b) (dQ a)) d e (by rw [c.len];exact aNR _ _ _) (λg f=>aMN c (dQ a) f)];have:=c.perm.filter (wJ (aG b) (dQ a));rw [aO] at this;exact this
def uX:∀(c d:List Int),c.Pairwise (λa b=>a<=b)->d.Pairwise (λa b=>a<=b)->c.Perm d->c=d
 | [],d,_,_,e=>e.nil_eq.symm ▸ rfl
 | a::c, [],_,_,e=>by simp at e
 | a::c,b::d,ha,hb,e=>by obtain ⟨j,k⟩:=zEf.1 ha;obtain ⟨l,m⟩:=zEf.1 hb;have n:a=b:=(by have g:a∈b::d:=e.mem_iff.1 (by simp);have i:b∈a::c:=e.mem_iff.2 (by simp);rcases zDf.1 g with f | g;exact f;rcases zDf.1 i with f | i;exact f.symm;have:=j b i;have:=l a g;omega);subst n;rw [uX c d k m (List.perm_cons a |>.1 e)]
def aEp {b e} (d:IsSuf (aG b) e) (a):(((e.drop (Nq (aG b) false (dQ a))).take (Nq (aG b) true (dQ a) - Nq (aG b) false (dQ a))).map λc:Nat=>(c:Int)).mergeSort (λf g=>decide (f<=g))=(gZ b a).map λc:Nat=>(c:Int):=by
 refine uX _ _ ?_ ?_ ((List.mergeSort_perm _ _).trans ((aEu d a).map _));have:=List.pairwise_mergeSort (le:=λf g:Int=>decide (f<=g)) (λi j k l m=>by simp at*;omega) (λi j=>by simp;omega) (((e.drop (Nq (aG b) false (dQ a))).take (Nq (aG b) true (dQ a) - Nq (aG b) false (dQ a))).map λc:Nat=>(c:Int));exact this.imp λd=>by simpa using d
 rw [zDm];unfold gZ;refine (List.Pairwise.filter _ List.pairwise_lt_range).imp λ{i j} d=>?_;omega
attribute [local go_sem] Oper.semAt_some
def aD8 (b d c a):
 Calls prog 132 #[.slice b d c] a λe f=>e=.returned (.func (.func 186) #[] #[a.heap.size])/\f=a.alloc (.cells #[.slice b d c] 22):=by
 go_enter func132,ntmps132;go_wp2_with fail;go_ret;exact ⟨rfl,rfl⟩
def pK (a:List Nat) (c:Nat×Nat) (b:UInt8):Nat×Nat:=(cR a (b.toNat+1) c.1,cR a (b.toNat+1) c.2)
def iP (a:List Nat) (b:List UInt8):Nat×Nat:=b.reverse.foldl (pK a) (0,a.length)
def aH5 (b:List Nat) (c:List UInt8):∀a:Nat×Nat,a.1<=a.2->a.2<=b.length->(c.foldl (pK b) a).1<=(c.foldl (pK b) a).2/\(c.foldl (pK b) a).2<=b.length:=by
 induction c with
 | nil=>intro a d e;exact ⟨d,e⟩
 | cons g c f=>intro a d e;exact f _ (aIV b _ d) (zG b _ _)
def aNu (a):(bkL a a.length).map (·.2)=a.reverse:=by
 apply List.ext_getElem
 .simp [bkL]
 .intro b c e;have d:b < a.length:=(by simpa [bkL] using c);simp [bkL,List.getElem_reverse,d,show a.length - 1 - b < a.length by omega]
def aHR (a:Oper):Bool:=match a.op with
 | .defer _=>false
 | _=>true
def aK6 {d:Array Oper} (e:d.toList.all aHR=true):∀(c:Nat) (a:Oper),d[c]?=some a->∀b,a.op≠.defer b:=by
 intro c a g b f;have:=zBf.1 e a (zDv.2 (zFq g));unfold aHR at this;rw [f] at this;cases this
structure FInv (w0:World) (Bw gl gb glo gs b3:Nat) (sl:Value) (L:List Nat) (pre:List (Nat×UInt8)) (W:World):Prop where
 lo:Bk W glo 3 #[.int .i64 ((((pre.map (·.2)).foldl (pK L) (0,L.length)).1:Nat):Int)]
 hi:Bk W (glo+1) 3 #[.int .i64 ((((pre.map (·.2)).foldl (pK L) (0,L.length)).2:Nat):Int)]
 lv:LvW W Bw gl L
 box:Bk W gb 54 #[gl]
 bs:Bk W gs 22 #[sl]
 bm:∃t cs,Bk W b3 t cs/\t∈ [5,22]
 b:VB Bw w0 W
def FInv.own {w0 q v u w x t p C r} (hB:w0.heap.size<=p):OwnFrom p (λB k=>FInv w0 q v u w x t C r B k):=by
 intro E k s row a d n;have g:∀b i f,Bk k b i f->Bk s b i f:=by intro b i f e;refine (d.block b e.lt λc=>?_).trans e;obtain ⟨_,D,j,A⟩:=n b c.symm;unfold Bk at e;rw [e] at j;injection j with j;subst j;cases A
 obtain ⟨i,f,y,z⟩:=a.bm;refine ⟨g _ _ _ a.lo,g _ _ _ a.hi,a.lv.same g,g _ _ _ a.box,g _ _ _ a.bs,⟨i,f,g _ _ _ y,z⟩,⟨d.os.trans a.b.1.os,d.tape.trans a.b.1.tape,d.output.trans a.b.1.output,zAk a.b.1.size d.size,λb e m=>?_⟩,⟨d.os.trans a.b.1.os,d.tape.trans a.b.1.tape,d.output.trans a.b.1.output,zAk a.b.1.size d.size,λb e m=>(d.block b (zAl e a.b.1.size) λc=>?_).trans (a.b.2.block b e m)⟩⟩;rcases a.b.1.block b e m with c |⟨f,o,c,l⟩|⟨f,o,c,l⟩;refine .inl ((d.block b (zAl e a.b.1.size) λc=>?_).trans c);have:=(n b c.symm).1;omega;exact .inr (.inl ⟨f,o,c,g _ _ _ l⟩);exact .inr (.inr ⟨f,o,c,g _ _ _ l⟩);have:=(n b c.symm).1;omega
def aBB {g f k} (j:VisF g f k) (m:∀b e,g b->f.heap[b]?=some e->e.isCells=true):KeepsOthers f k:=by
 refine ⟨j.size,λb e c d=>?_⟩;by_cases i:g b
 .rw [m b e i c] at d;cases d
 .have n:b < f.heap.size:=(zAh.1 c).1;rcases j.block b n i with a |⟨l,o,a,_⟩|⟨l,o,a,_⟩;exact a.trans c
  .unfold Bk at a;rw [c] at a;injection a with a;subst a;cases d
  .unfold Bk at a;rw [c] at a;injection a with a;subst a;cases d
def vS {u y d n ak ah} (ap) {aH b4 t C} (bQ:iV b4=t) (ba:t.length=C) {l} (o:LvW l u y d) (W:d.length=n+1) (bZ:n<=900) (bP:∀H∈d,H < 257) (c4:Rd l aH 1 ak ah (b4.map slV)) (c5:∀ai∈b4,Rd l aH 1 ai.A ai.n (ai.l.map bv)) (hB:aH<=l.heap.size) (cE:ah<=1000000) (cF:C<=1000000):
 Calls prog 70 #[y,.slice ak ah ap] l λc bw=>c=.returned (.tuple #[.int .i64 ((iP d t).1:Nat),.int .i64 ((iP d t).2:Nat)])/\VB u l bw:=by
 refine (callsIn_wide (n:=6)).1 ?_;refine callsIn_of_wp_marks func70 rfl trivial ?_ rfl;simp only [ntmps70,List.size_toArray,zCg,zDM,Nat.reduceAdd,Nat.reduceSub,Array.replicate_succ,Array.replicate_zero,List.push_toArray,List.append_toArray,zDH,zEm];refine wpIn_wide.2 ?_;have cz:=o.lt;have b6:=o;clear o;go_wp2_with fail;have ae:Below l.heap.size l (l.alloc (.cells #[y] 54)):=bR.alloc nL _;refine (cD (b6.b (kb ae)) W oM).mono ?_;rintro c bw ⟨rfl,rfl⟩;have L:IntKind.i64.wrap (n+1)=((n+1:Nat):Int):=zu
 obtain ⟨a4,c1⟩:=eqx (n+1);have aq:(n:Int)+1=a4:=oM;have a8:=kd l 54 #[y];obtain ⟨a1,aQ⟩:=eqx l.heap.size;rw [aQ] at a8;rw [aQ];generalize l.alloc (.cells #[y] 54)=w1 at ae a8⊢;have Hn:=W;clear W aQ;go_wp2_with fail;have M:=(kd w1 3 #[o0]).alloc (.cells #[(a4:Int)] 3);have J:=kd (w1.alloc (.cells #[o0] 3)) 3 #[(a4:Int)];rw [sZ0] at J;have au:Below w1.heap.size w1 ((w1.alloc (.cells #[o0] 3)).alloc (.cells #[(a4:Int)] 3)):=(bR.alloc nL _).alloc zs _;obtain ⟨e,ab⟩:=eqx w1.heap.size;rw [ab] at M J;rw [ab];generalize (w1.alloc (.cells #[o0] 3)).alloc (.cells #[(a4:Int)] 3)=aG at M J au⊢;have X:=ae.trans (au.mono ae.size);have aw:=a8.below au a8.lt;have bY:l.heap.size<=e:=by rw [<-ab];exact ae.size
 have cy:a1 < e:=by rw [<-ab];exact a8.lt
 have bf:=oX ap bQ ba (c4.keep λb3 E=>X.cell oM) (λai aX=>(c5 ai aX).keep λb3 E=>X.cell oM) (zj X.size) oM oM;have ao:=M;have an:=J;clear M J au ab L aq;refine bf.mono ?_;clear bf;rintro c a5 ⟨K,V,rfl,bn,Q⟩;have P:=Q;clear Q;go_wp2_with fail;refine (aD8 K C V a5).mono ?_;rintro c Z ⟨rfl,aC⟩;have S:=kd a5 22 #[.slice K C V];rw [<-aC] at S;have R:Below a5.heap.size a5 Z:=aC ▸bR.alloc nL _;have cG:Z.heap.size=a5.heap.size+1:=by rw [aC];simp
 obtain ⟨I,bl⟩:=eqx a5.heap.size;rw [bl] at S;rw [bl];clear aC;have bm:=(ao.below P ao.lt).below R (zAl ao.lt P.size);have aR:=(an.below P an.lt).below R (zAl an.lt P.size);have be:=(aw.below P aw.lt).below R (zAl aw.lt P.size);have aA:Below l.heap.size l Z:=(X.trans (P.mono X.size)).trans (R.mono (zk X.size P.size));have az:=bn.below R;clear R ao an X aw bn;go_wp2_with fail;obtain ⟨B,Q⟩:∃B,(∀b aF,K=some ⟨b,aF,none⟩->0 < C->b=B)/\∃w z,Bk Z B w z/\w∈ [5,22]:=by rcases az.own.2 with ⟨c,bM⟩|⟨aM,bK,bL,c,_,bj,_⟩;exact ⟨I,λb aF _ ar=>by omega,_,_,S,by simp⟩;injection c with c;exact ⟨aM,λb aF o _=>by rw [c] at o;injection o with o;injection o with o _;exact o.symm,_,_,bj,by simp⟩
 have aO:0 < C->K=some ⟨B,0,none⟩:=by
  intro ar;rcases az.own.2 with ⟨c,bM⟩|⟨aM,bK,bL,c,_,bj,_⟩;omega
  .injection c with c;rw [c,Q.1 aM 0 c ar]
 have bg:∀T,T < t.length->Z.cell? ⟨B,0+T,none⟩=some (.int .u8 ((t.getD T 0).toNat:Int)):=by intro T ay;have c3:=az.rd;obtain ⟨b,aF,c,_,bV⟩:=c3.2 oM;rw [aO oM] at c;injection c with c;injection c with L aq;subst L aq;refine bV T _ ?_;rw [zAf,zAa ay];simp [bv,zAb,zAa ay]
 have aZ:SeqStopsK Fence.wide (6 - 1) prog 186 #[I] (λH:Nat×UInt8=>#[(H.1:Int),.int .u8 H.2.toNat]) (KpB I B) (λbx=>bx=bkL t t.length) (λ_=>True) C Z:=by intro aE cb bH j bb cv cw bS ar;have bW:=Q.2;obtain ⟨w,z,aa,ax⟩:=bW;exact aD9 Fence.wide (6 - 1) trivial rfl oM aE I B 0 V K t (λo=>aO oM) oM bH (λG H bI a6 b8=>bS G H bI a6 oM) (by rw [ba];exact (S.below bb S.lt).cell 0) (λT ay=>(bb.cell (p:=⟨B,0+T,none⟩) aa.lt).trans (bg T ay)) ar
 have aN:FInv l u y a1 e I B (.slice K C V) d [] Z:=⟨bm,by
  have:=aR;rw [show (([]:List (Nat×UInt8)).map (·.2)).foldl (pK d) (0,d.length)=(0,d.length) from rfl,Hn,c1];exact this,b6.b (kb aA),be,S,Q.2,kc aA⟩
 have cB:=S.lt;have R:=Q.2;have cA:=aR.lt;obtain ⟨cJ,ce,bh,bX⟩:=R;have cx:=bh.lt;clear bg aO Q bh bX bm aR be az S;refine (wpIn_wide (n:=6)).1 ?_
 refine wpIn_rangeFunc_ownF (F:=Fence.wide) (n:=6) rfl oM (gf:=186) (lb:=#[.pointer (some I)]) rfl trivial (enters_of func186 kR rfl) aZ (λo af=>o.trans af)
  (λj aE c8 cH bZ aT _ _ b3 E=>zDd (World.putObj_heap_other (λc=>by rcases E with E | E <;> omega))) bR (λ_=>rfl)
  (λG j=>FInv l u y a1 e I B (.slice K C V) d G j) (λ_ _ _=>False) (FInv.own aA.size) (λ_ _ _ _ _ aX _ _=>aX) aN
  (λH=> { tmps:=#[.pointer (some y),.slice ak ah ap,.pointer (some a1),undef,.int .i64 0,.int .i64 0,.pointer (some e),.pointer (some ⟨e+1,0,none⟩),undef,.int .u8 H.2.toNat,.pointer (some y),.bool false,.pointer (some y),.int .i64 n,.int .i64 a4,.slice ak ah ap,.slice K C V,.func (.func 186) #[] #[I],.int .i64 H.1,.int .u8 H.2.toNat,undef,undef,undef,undef,undef,undef,undef,undef,undef,undef,undef,undef,undef,undef],defers:= [] }) ?assign ?body ?done ?stop
 case assign=>
  intro aE H j cc g
  gi_wp2
  exact g
 case body=>
  rintro aE G ⟨bq,x⟩ j r _;obtain ⟨gk,bt,bu,cI,aS,c7⟩:=r.lv;obtain ⟨ag,M⟩:=eqx (((G.map (·.2)).foldl (pK d) (0,d.length)).1);obtain ⟨ad,J⟩:=eqx (((G.map (·.2)).foldl (pK d) (0,d.length)).2);have aP:=aH5 d (G.map (·.2)) (0,d.length) (zAp _) nL;rw [M,J] at aP;obtain ⟨Y,bc⟩:=eqx (cR d (x.toNat+1) ag);obtain ⟨U,s⟩:=eqx (cR d (x.toNat+1) ad);have a3:=r.lo;have ac:=r.hi;rw [M] at a3;rw [J] at ac;have bC:=r.box;have am:Hid (cR d (x.toNat+1) ag=Y/\cR d (x.toNat+1) ad=U):=lhd ⟨bc,s⟩;have bz:=r;have bE:Hid (((G.map (·.2)).foldl (pK d) (0,d.length))=(ag,ad)):=lhd (by rw [<-M,<-J]);clear bc s r M J aN aZ
  gi_wp2
  refine wpIn_region_any kR<|aFZ (λ⟨_,_,o⟩=>o) (aK6 kR) _ _ _ _ ?_;refine cC (pJ:=(λ_ aG=>Bk aG e 3 #[(Y:Int)])) u 13 [21,22,23,24,25,26,27,28,29,20,30,31] (λb=>b=e) 12 [0,1,2,3,4,5,6,7,8,9,10,12] [is y,is y,is y,is gk,is (ag:Int),is (ad:Int),is (.int .u8 x.toNat),is (.int .i64 (x.toNat+1:Nat)),is (.tuple #[(Y:Int),(U:Int)]),is (.tuple #[(Y:Int),(U:Int)]),is (Y:Int),is (U:Int),cO] _ rfl dC kR kR kR (kc bR.drew) (λ_ _ o _ af=>o.trans af) (λ_ _ _ o af=>af.1.d o dC dC) tA0 ?_ ?_
  .refine bB<|sC3 (λD v _ k _ _ N _ _ _ _ g=>?_) ?_
   .have a:=k rfl;have aq:D (.tmp 2)=.pointer (some a1):=N 2 kR;replace a:VB u j v:=(by first|exact a|exact bD a);have a0:=(a.1.d bC dC dC).cell 0;go_simp;exact g _ _ (aI vR) rfl
   refine sC3 (λ_ v _ k _ _ _ q _ _ _ g=>?_) ?_
   .have a:=k rfl;have cg:_=_:=q 0 21 kR rfl;replace a:VB u j v:=(by first|exact a|exact bD a);have a0:=(a.1.d aS dC dC).cell 0;go_simp;exact g _ _ (aI vR) rfl
   refine sC3 (λ_ v _ k _ _ _ q _ _ _ g=>?_) ?_
   .have a:=k rfl;have ch:_=_:=q 1 22 kR rfl;replace a:VB u j v:=(by first|exact a|exact bD a);have a0:=(a.1.d aS dC dC).cell 0;go_simp;exact g _ _ (aI vR) rfl
   refine sC3 (λ_ v _ k _ _ _ q _ _ _ g=>?_) ?_
   .have a:=k rfl;have ci:_=_:=q 2 23 kR rfl;replace a:VB u j v:=(by first|exact a|exact bD a);have a0:=(a.1.d aS dC dC).cell 0;go_simp;exact g _ _ (aI vR) rfl
   refine sC3 (λD v _ k _ _ N _ _ _ _ g=>?_) ?_
   .have a:=k rfl;have bO:D (.tmp 6)=.pointer (some e):=N 6 kR;replace a:VB u j v:=(by first|exact a|exact bD a);have a0:=(a.1.d a3 dC dC).cell 0;go_simp;exact g _ _ (aI vR) rfl
   refine sC3 (λD v _ k _ _ N _ _ _ _ g=>?_) ?_
   .have a:=k rfl;have cq:D (.tmp 7)=.pointer (some ⟨e+1,0,none⟩):=N 7 kR;replace a:VB u j v:=(by first|exact a|exact bD a);have a0:=(a.1.d ac dC dC).cell 0;go_simp;exact g _ _ (aI vR) rfl
   refine sC3 (λD _ _ k _ _ N _ _ _ _ g=>?_) ?_
   .have a:=k rfl;have cr:D (.tmp 9)=.int .u8 x.toNat:=N 9 kR;go_simp;exact g _ _ (aI vR) rfl
   refine sC3 (λ_ v _ k _ _ _ q _ _ _ g=>?_) ?_
   .have a:=k rfl;have cm:_=_:=q 6 27 kR rfl;go_simp;refine (rZ x v).mono ?_;rintro c ca ⟨rfl,bU⟩;exact g _ _ (aI (kc bU)) rfl
   refine sC3 (λ_ v _ k _ _ _ q _ _ _ g=>?_) ?_
   .have a:=k rfl;have cj:_=_:=q 3 24 kR rfl;have ck:_=_:=q 4 25 kR rfl;have cl:_=_:=q 5 26 kR rfl;have cn:_=_:=q 7 28 kR rfl;replace a:VB u j v:=(by first|exact a|exact bD a);go_simp;refine (aAU (x.toNat+1) (c7.b a.1) (zj x.toNat_lt) aP.1 aP.2 bP (by rw [Hn];omega)).mono ?_;rintro c ca ⟨rfl,c6⟩;rw [am.1,am.2];exact g _ _ (aI c6) rfl
   refine sC3 (λ_ _ _ k _ _ _ q _ _ _ g=>?_) ?_
   .have a:=k rfl;have co:_=_:=q 8 29 kR rfl;go_simp;exact g _ _ (aI vR) rfl
   refine sC3 (λ_ _ _ k _ _ _ q _ _ _ g=>?_) ?_
   .have a:=k rfl;have cf:_=_:=q 9 20 kR rfl;go_simp;exact g _ _ (aI vR) rfl
   refine pV3 9 20<|sC3 (λD v _ k _ _ N q _ _ _ g=>?_) ?_
   .have a:=k rfl;have bO:D (.tmp 6)=.pointer (some e):=N 6 kR;have cp:_=_:=q 10 30 kR rfl;replace a:VB u j v:=(by first|exact a|exact bD a);have b1:=a.1.d a3 dC dC;have a0:=b1.cell 0;have ct:=b1.frozen 0;go_simp;exact g (.bool true) _ (lC (VFB.put (F:=λb=>b=e) (VFB.i vR) (p:=e) (.inl rfl) _)) (b1.set 0 _)
   exact aB
  .intro D aj m a7 q bd;replace a7:VFB u (λb=>b=e) j aj:=fD a7;have bN:D (.tmp 31)=.int .i64 U:=q 11 31 dC rfl;obtain ⟨c9,br⟩:=bd 12 dC;have b2:(λ_ aG=>Bk aG e 3 #[(Y:Int)]) c9 aj:=br;clear br bd;simp only [zqq];rw [bN];clear q;have aD:=a7.1.d ac dC dC (λc=>by omega);have cd:=aD.cell 0;have cs:=aD.frozen 0;change wpAny prog Region.Mode.any _ _ (1+m) (bT 13 14) _ aj;rw [zCt 1 m];refine aY (f:=m) (i:=13) kR ?_;refine bJ rfl rfl ?_;generalize g:wpAny prog _ _ _ m _=K5;go_simp;subst g;refine bG kR ?_;have bi:((G++ [(bq,x)]).map (·.2)).foldl (pK d) (0,d.length)=(Y,U):=(by rw [zAz,zFt,bE.out];show (cR d (x.toNat+1) ag,cR d (x.toNat+1) ad)=_;rw [am.1,am.2]);have b0:l.heap.size<=e:=bY;have c2:e≠e+1:=oM;have bp:VFB u (λb=>b=e∨b=e+1) j (aj.setCell ⟨e+1,0,none⟩ (.int .i64 U)):=(by exact VFB.put (a7.wider λb c=>.inl c) (.inl (.inr rfl)) _);have bo:=bp.1;have r:=bz;obtain ⟨w,z,aa,ax⟩:=r.bm;have a2:w≠233/\w≠191/\w≠3:=by simp at ax;rcases ax with rfl | rfl <;> decide
   have a9:∀b w z,Bk j b w z->w≠233->w≠191->w≠3->Bk (aj.setCell ⟨e+1,0,none⟩ (.int .i64 U)) b w z:=λb w z s a6 b8 b9=>bo.d s a6 b8 (λm=>by
    rcases m with m | m;subst m;exact b9 (aU s a3).1
    .subst m;exact b9 (aU s ac).1)
   have c0:=r.lv.cz a7.1 a3 b2;change KeepsOthers j _/\KpB I B j _/\FInv l u y a1 e I B (.slice K C V) d (G++ [(bq,x)]) _;refine ⟨aBB bo (λb c8 m aT=>?_),?_,?_,?_,?_,a9 _ _ _ r.box dC dC dC,a9 _ _ _ r.bs dC dC dC,⟨w,z,a9 _ _ _ aa a2.1 a2.2.1 a2.2.2,ax⟩,?_⟩;rcases m with m | m;subst m;have:=a3;unfold Bk at this;rw [aT] at this;injection this with this;subst this;rfl;subst m;have:=ac;unfold Bk at this;rw [aT] at this;injection this with this;subst this;rfl
   .intro b3 E;rcases E with E | E
    .have L:=(a9 _ _ _ r.bs dC dC dC).trans r.bs.symm;rw [<-E] at L;exact zDd L
    .have L:=(a9 _ _ _ aa a2.1 a2.2.1 a2.2.2).trans aa.symm;rw [<-E] at L;exact zDd L
   rw [bi];exact b2.m (p:=⟨e+1,0,none⟩) c2 _;rw [bi];exact aD.set 0 _;exact c0.bh λb w z ht s=>s.m (p:=⟨e+1,0,none⟩) (λc=>by subst c;exact ht (aU s aD).1) _;have a6:VFB u (λb=>b=e∨b=e+1) l j:=VFB.i r.b;exact (a6.trans bp).y (λb s m=>by rcases m with m | m <;> omega)
 case done=>
  rintro al bx j cu rfl r g;have aJ:=r.lo.cell 0;have aK:=r.hi.cell 0;rw [aNu] at aJ aK;change j.cell? e=some (.int .i64 ((iP d t).1:Nat)) at aJ;change j.cell? ⟨e+1,0,none⟩=some (.int .i64 ((iP d t).2:Nat)) at aK;obtain ⟨bt,aV⟩:=eqx ((iP d t).1);obtain ⟨bu,aW⟩:=eqx ((iP d t).2);rw [aV] at aJ;rw [aW] at aK;have bF:=r.b;have b7:Hid ((iP d t).1=bt/\(iP d t).2=bu):=lhd ⟨aV,aW⟩;clear r aN aZ aV aW;go_wp2_with fail;go_quiet (fail);go_wp2_with fail;have bA:(j.drewN nq).heap[al]?=some (.deferred (some [])):=g;refine ⟨by simp,.inl ⟨_,_,rfl,run_takeDeferred bA,?_⟩⟩;refine ⟨_,results_tmp2 rfl _ _ _,by rw [b7.1,b7.2];rfl,?_⟩;have O:=bF;have av:∀b,b < l.heap.size->((j.drewN nq).putObj al (.deferred none)).heap[b]?=j.heap[b]?:=λb s=>World.putObj_heap_other (zj aA.size);have b0:l.heap.size<=((j.drewN nq).putObj al (.deferred none)).heap.size:=by have:=O.1.size;simpa using this
  refine ⟨⟨O.1.os,O.1.tape,O.1.output,b0,λb s W=>?_⟩,⟨O.1.os,O.1.tape,O.1.output,b0,λb s W=>(av b s).trans (O.2.block b s W)⟩⟩;rcases O.1.block b s W with c |⟨z,b5,c,aL⟩|⟨z,b5,c,aL⟩;exact .inl ((av b s).trans c);exact .inr (.inl ⟨z,b5,c,(av b s).trans aL⟩);exact .inr (.inr ⟨z,b5,c,(av b s).trans aL⟩)
 case stop=>intro al x G j _ _ o _;exact o.elim
def aEv {a d l} (c:IsSuf a d) (f:EndOk a l) (b):iP (aH a d) b=(Nq a false (dQ b),Nq a true (dQ b)):=by
 have j:(aH a d).length=a.length:=by rw [bY,c.len]
 unfold iP;rw [j]
 induction b with
 | nil=>
  obtain ⟨g,i⟩:=aOX a;show (0,a.length)=(Nq a false [],Nq a true []);rw [g,i]
 | cons e b k=>
  rw [List.reverse_cons,zFt,k];show (cR _ (e.toNat+1) (Nq a false (dQ b)),cR _ (e.toNat+1) (Nq a true (dQ b)))=_;rw [aHT c f _ _ _ oM,aHT c f _ _ _ oM];rfl
def aJk {a c} (d:IsSuf (aG a) c) (b):(iP (aH (aG a) c) b).2 -(iP (aH (aG a) c) b).1=occ (aG a) (dQ b):=by
 rw [aEv d (fA a),aHx];omega
def aBR {m q a z k g} (o) {e j b n} (D:iV j=b) (C:b.length=n) {c} (r:LvW c m q a) (G:a.length=z+1) (E:z<=900) (s:∀J∈a,J < 257) (w:Rd c e 1 k g (j.map slV)) (x:∀i∈j,Rd c e 1 i.A i.n (i.l.map bv)) (hB:e<=c.heap.size) (F:g<=1000000) (H:n<=1000000):
 Calls prog 26 #[q,.slice k g o] c λp B=>p=.returned (.int .i64 ((iP a b).2 -(iP a b).1:Nat))/\VB m c B:=by
 have v:=vS o D C r G E s w x hB F H;have d:=aH5 a b.reverse (0,a.length) (zAp _) nL;change (iP a b).1<=(iP a b).2/\(iP a b).2<=a.length at d;obtain ⟨y,u⟩:=eqx ((iP a b).1);obtain ⟨f,t⟩:=eqx ((iP a b).2);rw [u,t] at v d⊢;have L:=d.1;have M:f<=1000:=oM;have K:IntKind.i64.wrap (f -y)=((f - y:Nat):Int):=zu
 clear r w x u t d s;go_enter func26,ntmps26;go_wp2_with fail;refine v.mono ?_;rintro p B ⟨rfl,I⟩;go_wp2_with fail;go_ret;exact ⟨fM oM,I⟩
def aGA (e b:List UInt8):e.isPrefixOf b=true↔∀(d:Nat) (c:UInt8),e[d]?=some c->b[d]?=some c:=by
 rw [zEn];constructor;rintro ⟨i,rfl⟩ d c a;rw [zAn (by obtain ⟨j,_⟩:=zAc.1 a;exact j)];exact a
 .intro a
  induction e generalizing b with
  | nil=>exact List.nil_prefix
  | cons f e m=>
   cases b with
   | nil=>exact absurd (a 0 f rfl) zs
   | cons n b=>
    have g:=a 0 f rfl;simp at g;subst g;obtain ⟨i,l⟩:=m b λd c k=>by simpa using a (d+1) c (by simpa using k)
    exact ⟨i,by rw [zEm,l]⟩
def aEI (g f e):wJ (aG g) (dQ f) e=f.isPrefixOf (g.drop e):=by
 rw [zEd,aGC,aGA];constructor;intro b d a c;rw [zBt];exact b d a c;intro b d a c;have:=b d a c;rw [zBt] at this;exact this
def aGO (b c):∀a,b.length+1 - c.length<=a->a<=b.length+1->fY b c a=dY b c:=by
 intro a e
 induction a with
 | zero=>
  intro _;have:b.length+1 - c.length=0:=oM;rw [dY,this]
 | succ a g=>
  intro i;rcases zFL e with d | d
  .rw [dY,d]
  .rw [wQ,g oM oM];cases f:c.isPrefixOf (b.drop a) with
   | false=>rfl
   | true=>
    exfalso;have:=(zEn.1 f).length_le;rw [zAw] at this;omega
def uH (a b):gZ a b=dY a b:=by
 rw [<-aGO a b (a.length+1) oM nL];unfold gZ fY;congr 1;funext i;exact aEI a b i
def aGD (b a):(gZ b a).length=occ (aG b) (dQ a):=by
 unfold gZ occ;rw [zFk,aO]
def rW (a:List UInt8):(⟨a.toArray⟩:ByteArray).size=a.length:=by simp [ByteArray.size]
def aGe {c:List UInt8} {b:Nat} {d:UInt8} (e:c[b]?=some d):∀a,(Instr.index 9 (.string ⟨c.toArray⟩) (.int .i64 b)).run prog a=.ok (.int .u8 d.toNat) a:=λa=>by
 obtain ⟨f,g⟩:=zAc.1 e;rw [aEq (P:=prog) 9 underlying9 ⟨c.toArray⟩ b (by rw [rW];exact f) a];congr 4
def aEk {a b c d e} (j:a[b]?=some d) (k:a[c]?=some e):sufLt (aG a) b c↔d.toNat < e.toNat∨(d.toNat=e.toNat/\sufLt (aG a) (b+1) (c+1)):=by
 rw [jF,rY j,rY k];constructor;rintro (g |⟨i,f⟩);exact .inl oM;exact .inr ⟨by omega,f⟩;rintro (g |⟨i,f⟩);exact .inl oM;exact .inr ⟨by omega,f⟩
def aGb {t b} (a:b < t.length):sufLt (aG t) t.length b:=by
 rw [jF,aMa,rY (zAa a)];exact .inl oM
def aGa {t a} (c:a < t.length):¬sufLt (aG t) a t.length:=by
 rw [jF,aMa,rY (zAa c)];rintro (b |⟨b,_⟩);omega;omega
def aMi (f:List UInt8) (b c:Nat) (g:World) (d:Ending) (i:World):Prop:=∃a:Bool,d=.returned (.bool a)/\(a=true↔sufLt (aG f) b c)/\∃e,i=g.drewN e
def aLo {g} (k l:Nat) {f:Nat} (y) (m:g.length=f) (M:f<=1000) (E:k<=f) (H:l<=f) (F:k≠l):
 Calls prog 82 #[.string ⟨g.toArray⟩,(k:Int),(l:Int)] y (aMi g k l y):=by
 have P:(⟨g.toArray⟩:ByteArray).size=f:=(rW g).trans m;go_enter func82,ntmps82;go_wp2_with fail;go_loopw [1,2] (λz J wr=>∃e i v:Nat,e<=f/\i<=f/\e≠i/\z=.int .i64 e/\J=.int .i64 i/\(sufLt (aG g) k l↔sufLt (aG g) e i)/\wr=y.drewN v) (λz _ _=>f -(intOf z).toNat)
 case atStart=>exact ⟨k,l,0,E,H,F,rfl,rfl,Iff.rfl,rfl⟩
 case round=>
  obtain ⟨e,i,v,K,L,N,rfl,rfl,x,rfl⟩:=hrel;by_cases p:e < f/\i < f
  .obtain ⟨n,B⟩:=p;have q:g[e]?=some (g[e]'(by rw [m];exact n)):=zAa _;have r:g[i]?=some (g[i]'(by rw [m];exact B)):=zAa _;generalize g[e]'(by rw [m];exact n)=c at q;generalize g[i]'(by rw [m];exact B)=d at r;have C:=aEk q r;have I:=aGe q;have O:=aGe r;have A:(e:Int) < f:=oM;have D:(i:Int) < f:=oM;clear q r;by_cases s:c.toNat=d.toNat
   .have w:(c.toNat:Int)=d.toNat:=oM;rw [w] at I;have G:sufLt (aG g) k l↔sufLt (aG g) (e+1) (i+1):=(by rw [x,C];constructor;rintro (j | j);omega;exact j.2;exact λj=>.inr ⟨s,j⟩);clear w s;go_wp2_with fail;go_quiet (fail);go_wp2_with fail;go_roundw
    case rel=>exact ⟨e+1,i+1,_,by omega,by omega,by omega,by go_num,by go_num,G,rfl⟩
    case measure=>exact zr
   .have w:¬(c.toNat:Int)=d.toNat:=oM;have u:decide (c.toNat < d.toNat)=true↔sufLt (aG g) k l:=(by rw [x,C,zCa];constructor;exact λj=>.inl j;rintro (j | j);exact j;exact absurd j.1 s);clear s;go_wp2_with fail;go_quiet (fail);go_wp2_with fail;go_quiet (fail);go_wp2_with fail;go_ret;exact ⟨decide (c.toNat < d.toNat),bH zs,u,_,by rw [zEA,zEA]⟩
  .have u:decide ((i:Int) < e)=true↔sufLt (aG g) k l:=(by rw [x,zCa];by_cases n:e < f;obtain rfl:i=f:=(by have:¬i < f:=λj=>p ⟨n,j⟩;omega);constructor;intro j;omega;intro j;have o:=aGa (t:=g) (a:=e) (by rw [m];exact n);rw [m] at o;exact absurd j o;obtain rfl:e=f:=oM;have o:=aGb (t:=g) (b:=i) (by rw [m];omega);rw [m] at o;exact ⟨λ_=>o,λ_=>by omega⟩);by_cases n:e < f
   .have A:(e:Int) < f:=oM;have D:¬(i:Int) < f:=(by have:¬i < f:=λj=>p ⟨n,j⟩;omega);clear p;go_wp2_with fail;go_ret;exact ⟨decide ((i:Int) < e),bH zs,u,v,rfl⟩
   .have A:¬(e:Int) < f:=oM;clear p;go_wp2_with fail;go_ret;exact ⟨decide ((i:Int) < e),bH zs,u,v,rfl⟩
end Go.Proofs.YtknjfpcdhdmghaaGreatDoor
