/- Lemmas of the walk. Conditions: each its own. -/
import Derived.Test.YtcoooelofcejbaaGreatDoorPd21
import Derived.Test.YtcoooelofcejbaaGreatDoorPd22
import Derived.Test.YtcoooelofcejbaaGreatDoorPd23
import Derived.Test.YtcoooelofcejbaaGreatDoorProg
import Derived.Test.YtcoooelofcejbaaGreatDoorShl
import Derived.Test.YtcoooelofcejbaaGreatDoorShi
set_option linter.all false
set_option maxRecDepth 100000
set_option maxHeartbeats 4000000
open Go.Proofs.Tryz
namespace Go.Proofs.YtcoooelofcejbaaGreatDoor
section
open Go.RowKit Go.Shelf
open Go.Sort (Holds)
def yX {m gp:Nat} {q:Option Addr} {D r:Nat} {a:List (Nat×Nat)} (f g:Nat) {b:World} (e:PRd b m gp q D r a) (x:f < a.length) (y:g < a.length):
 Calls prog 222 #[(f:Int),(g:Int),m] b fun i w'=>i=.returned (.int .i64 (Lib.compareInt ((aC a f:Nat):Int) ((aC a g:Nat):Int)))/\∃c,w'=b.drewN c:=by
 obtain ⟨J,G,M,rfl,s,t⟩:=e.at x;obtain ⟨K,b1,N,d,u,v⟩:=e.at y;injection d with d;injection d with d e2;subst d e2;have H:=e.box;have I:=e.sl;obtain ⟨k,o⟩:=eqx (aC a f);obtain ⟨l,p⟩:=eqx (aC a g);rw [o] at s⊢;rw [p] at u⊢;obtain ⟨F,j⟩:=eqx (Lib.compareInt (k:Int) (l:Int));have C:∀c:Nat,Calls prog 111 #[(k:Int),(l:Int)] (b.drewN c) fun i w'=>i=.returned (.int .i64 F)/\∃E,w'=b.drewN E:=fun c=>by have n:=AnyG.cmp_Compare_int shCmp (k:Int) (l:Int) (b.drewN c);rw [j] at n;exact Calls.mono n fun _ _ ⟨z,A⟩=>⟨z,c,A⟩
 rw [j];clear e t v o p j;go_enter func222,ntmps222;go_wp2_with fail;go_quiet ((with_reducible exact C _));go_wp2_with fail;go_ret;exact ⟨rfl,_,rfl⟩
def aJt {b g f d:Nat} (a:mvR b g f=mvR b g d):f=d:=by
 unfold mvR inR aU at a;by_cases e:f=b
 · by_cases c:d=b;omega
   · rw [zBx e,zBw c] at a;split at a <;> split at a <;> omega
 · by_cases c:d=b
   · rw [zBw e,zBx c] at a;split at a <;> split at a <;> omega
   · rw [zBw e,zBw c] at a;split at a <;> split at a <;> split at a <;> split at a <;> omega
def aKi {a c b R:Nat} (e:a < R) (d:c < R) (f:b < R):mvR a c b < R:=by
 unfold mvR inR aU;split;exact d
 · split <;> split <;> omega
def PermX.drewN {w:World} {b:Nat->Prop} {gp d:Nat} {j k l i:Value} {R P:Nat} {f:List Nat} {a:List (Nat×Nat)} {g:List Bool} {c:List Nat} (e:PermX w b gp d j k l i R P f a g c) (m:Nat):PermX (w.drewN m) b gp d j k l i R P f a g c:=
 { e with at_:=e.at_.below (below_drewN bR _)}
def PermX.sorted {w w':World} {r:Nat->Prop} {gp t:Nat} {x g y v:Value} {R P:Nat} {m n:List Nat} {q:List (Nat×Nat)} {u:List Bool} {s:List Nat} (i:PermX w r gp t x g y v R P m q u s) (k:n.Perm m) (f:Keep (fun c=>g.ownBlock=some c) w w') (C:w'.ownsRow 0 3 1 g m.length (n.map sv)):PermX w' r gp t x g y v R P n q u s:=by
 have a:=i.at_;have j:∀c o d,Bk w c o d->o≠3->¬(g.ownBlock=some c):=fun c o d b D e=>by obtain ⟨F,z⟩:=eI a.orow e;exact D (aL b z).1
 refine { i with at_:=⟨f.bk a.blk (j _ _ _ a.blk dC),aA a.lrow fun c d _ b=>f.bk b (j _ _ _ b dC),by rw [k.length_eq];exact C,f.bk a.ar (j _ _ _ a.ar dC),aA a.trow fun c d _ b=>f.bk b (j _ _ _ b dC),aA a.frow fun c d b A=>f.bk A fun e=>?_,a.apart,fun p E=>a.lt p (k.subset E),a.lo⟩,nd:=k.nodup_iff.2 i.nd,tkk:=fun p=>(i.tkk p).trans k.mem_iff.symm };rcases a.apart with l | l
 · rw [l] at e;cases e
 exact l (e.trans b.symm)
def aBx {v:Nat->Prop} {gp S r R P:Nat} {a2 K a3 a1:Value} {b:List Nat} {d:List (Nat×Nat)} {a0:List Bool} {Q:List Nat} {w:World} (p:PermX w v gp S a2 K a3 a1 R P b d a0 Q) (A:Bk w r 72 #[gp]) (ai:b≠ []) (ae:∀t∈b,∀u∈b,aC d t=aC d u->t=u):
 ∃M o,K=.slice M b.length o/\Calls prog 66 #[.slice M b.length o,.func (.func 222) #[] #[r]] w fun l w'=>l=.returned (.tuple #[])/\∃H,H.Perm b/\H.Pairwise (fun e g=>aC d e < aC d g)/\PermX w' v gp S a2 K a3 a1 R P H d a0 Q/\Keep v w w':=by
 have G:0 < b.length:=List.length_pos_iff.2 ai;have e:=p.at_;obtain ⟨j,o,l,_,F⟩:=World.ownsRow.form e.orow G;refine ⟨_,o,l,?_⟩;have W:=e.orow;rw [l] at W;obtain ⟨ar,E,ab,ah,ag,av,a9⟩:=tA W G;obtain ⟨k0,af⟩:∃i,i∈b:=List.exists_mem_of_length_pos G;obtain ⟨a,D⟩:∃a,d.length=a+1:=⟨d.length - 1,by have:=e.lt k0 af;omega⟩;have V:∀i∈b,i < a+1:=fun i m=>by rw [<-D];exact e.lt i m
 have s:(fA a b).size=b.length:=by simp [fA]
 have a7:=pM (c:=a) E V (fU (by simp) oM a9);obtain ⟨a4,ao,a5,z,ax⟩:=e.prd (A.cell 0) (Below.refl w.heap.size w);have aa:CmpReads prog 222 #[r] (eM a) (cfK a (aC d)) j 0 (fA a b).size w:=fun I n y aw t u=>by
  have i:=iR (enc:=eM a) (w:=w) F 0 I y n;have C:∀g J x,Bk w g J x->J≠3->¬(g=j):=fun g J x a8 an q=>by subst q;exact an (aL a8 E).1
  have ak:PRd (sortWorld (eM a) w j 0 I y n) r gp a4 ao a5 d:=by refine ⟨((i.bk A (C _ _ _ A dC)).cell 0).trans rfl,((i.bk e.blk (C _ _ _ e.blk dC)).cell 1).trans (by rw [z];rfl),?_⟩;have U:=aA (w':=sortWorld (eM a) w j 0 I y n) e.lrow fun g x _ m=>i.bk m (C _ _ _ m dC);rw [z] at U;have a6:=aQ e.lrow;obtain ⟨ap,aq,O,_⟩:=a6;rw [z] at O;injection O with e81 e82 e83;subst e82;exact Rd.of_own U
  exact yX t.val u.val ak (by rw [D];exact t.isLt) (by rw [D];exact u.isLt)
 have Z:=Any.slices_SortFunc shSort (eM a) (lR a) (cfK a (aC d)) (aI2 a (aC d)) 222 #[r] j 0 o (fA a b) w (enters_of func222 kR rfl) aa.lays a7 F (by rw [s];have:=gG p.nd e.lt;have:=p.sz;omega);rw [s] at Z;refine Z.mono ?_;rintro au w' ⟨rfl,N,nq,n,Y,am,rfl⟩;obtain ⟨X,al⟩:=aBX (f:=aC d) V (by rw [s];exact Y) (by rw [s];exact am) p.nd ae;have ac:N.size=b.length:=by rw [Y.1,s]
 have m:=iR (enc:=eM a) (w:=w) F 0 nq N n;have aj:=aHj (base:=0) (k:=nq) (os:=n) ac E (zAp _) ah ag ab;have ad:v j:=p.fo j (by rw [l];rfl);exact ⟨rfl,_,X,al,p.sorted X (m.mono fun g _ q=>by rw [l,show g=j from q];rfl) (by rw [l];exact aj),m.mono fun g _ q=>by rw [show g=j from q];exact ad⟩
def fN {F:Nat->Prop} {gp R P:Nat} (d:Nat) {z1:Nat} {pr:List (Nat×Nat)} {w:World} (aB:PermE w F gp R P pr) (aG:d < R) (aH:z1 < R) (aT:R<=100000) (aS:P<=100000) (ah:pr≠ []):
 Calls prog 150 #[gp,(d:Int),(z1:Int)] w fun g w'=>g=.returned (.int .i64 0)/\(∃pr',pr'.Perm (pr.map fun f=>(mvR d z1 f.1,f.2))/\PermE w' F gp R P pr')/\Keep F w w':=by
 obtain ⟨⟨I,D,W,X,V,e,b,U,H,l,rfl⟩,ak,a7⟩:=aB;have v:=l.at_;have ag:e≠ []:=fun g=>ah (by rw [g];rfl);have aU:=v.blk.lt;have aY:decide ((d:Int) < 0)=false:=by simp
 have aZ:decide ((z1:Int) < 0)=false:=by simp
 have b0:¬R<=d:=oM;have b1:¬R<=z1:=oM;have b2:¬(d:Int)>=(R:Int):=oM;have b3:¬(z1:Int)>=(R:Int):=oM;obtain ⟨w1,p⟩:=eqx (((w.alloc (.cells #[gp] 72)).alloc (.cells #[(d:Int)] 3)).alloc (.cells #[(z1:Int)] 3));have J:Below w.heap.size w w1:=by rw [<-p];exact ((bR.alloc nL _).alloc (by simp) _).alloc (by simp;omega) _
 have y:Bk w1 w.heap.size 72 #[gp]:=by rw [<-p];exact ((Bk.new w _ _).alloc _).alloc _
 have z:Bk w1 (w.heap.size+1) 3 #[(d:Int)]:=by rw [<-p];have:=(Bk.new (w.alloc (.cells #[gp] 72)) 3 #[(d:Int)]).alloc (.cells #[(z1:Int)] 3);simpa using this
 have A:Bk w1 (w.heap.size+2) 3 #[(z1:Int)]:=by rw [<-p];have:=Bk.new ((w.alloc (.cells #[gp] 72)).alloc (.cells #[(d:Int)] 3)) 3 #[(z1:Int)];simpa using this
 have x:PermX w1 F gp I D W X V R P e b U H:= { l with at_:=v.below J };have al:∀i,D.ownBlock=some i->i < w.heap.size:=fun i n=>(v.lrow.lt i n).2;have aK:∀m,(w1.drewN m).cell? w.heap.size=some (.pointer (some gp)):=fun m=>(y.cell 0).trans rfl;have aL:∀m,(w1.drewN m).cell? ⟨w.heap.size+1,0,none⟩=some (.int .i64 (d:Int)):=fun m=>(z.cell 0).trans rfl;have aM:∀m,(w1.drewN m).cell? ⟨w.heap.size+2,0,none⟩=some (.int .i64 (z1:Int)):=fun m=>(A.cell 0).trans rfl;have aO:w1.cell? w.heap.size=some (.pointer (some gp)):=(y.cell 0).trans rfl;have aP:w1.cell? ⟨w.heap.size+1,0,none⟩=some (.int .i64 (d:Int)):=(z.cell 0).trans rfl;have aQ:w1.cell? ⟨w.heap.size+2,0,none⟩=some (.int .i64 (z1:Int)):=(A.cell 0).trans rfl;have aN:w1.cell? ⟨gp,3,none⟩=some (.int .i64 (R:Int)):=(x.at_.blk.cell 3).trans rfl;have aV:=x.at_.blk.lt;have a4:∀a,a∈e->aC b a < R/\aJ b a < P:=fun a j=>a7 (aC b a,aJ b a) (zAy.2 ⟨a,j,rfl⟩);have ab:∀f∈e,∀q∈e,aC b f=aC b q->f=q:=fun f aF q C g=>by have aj:=List.pairwise_map.1 ak;obtain ⟨r,aa,rfl⟩:=List.getElem_of_mem aF;obtain ⟨s,ac,rfl⟩:=List.getElem_of_mem C;rcases Nat.lt_trichotomy r s with k | k | k;have aD:aC b e[r] < aC b e[s]:=zAr.1 aj r s aa ac k;omega;subst k;rfl;have aD:aC b e[s] < aC b e[r]:=zAr.1 aj s r ac aa k;omega
 obtain ⟨c,Y,av,ao,ap,aq,ar,ay,G⟩:=hqq9 x a4 ab J y z A p al;have ax:=lhd ag;clear l v ak a7 x a4 ab J y z A p al ag ah;go_enter func150,ntmps150;go_wp2_with fail;rw [ay.out];go_quiet (fail)
 rename_i nq
 have aX:∀(a3:Fn) (first a1:Array Value) (w:World),(Instr.makeFunc a3 first a1).run prog w=.ok (.func a3 first a1) w:=fun _ _ _ _=>rfl;go_wp2_with fail;have o:=c.out.drewN nq;have aE:=gG o.nd o.at_.lt;refine (uK o.at_ o.nd (by have:=o.sz;omega) (aq.out.drewN nq) (fun i n g=>by have:=G.out i n;omega) (ar.out.drewN nq) (fun i n g=>by have:=G.out i n;omega) (fun a j=>by have:=Y.out a j;omega)).mono ?_;rintro g t ⟨rfl,N,E,O,M,a6⟩;have S:∀a,a∈e->aC E a=mvR d z1 (aC b a):=fun a j=>(Prod.mk.inj (M a j)).1;have u:PermX t F gp I D W X V R P e E U H:=⟨a6,c.out.fp,c.out.fa,c.out.fl,c.out.fo,c.out.ft,c.out.ff,c.out.nd,by rw [O];exact c.out.tkl,c.out.tkk,c.out.frn,c.out.frk,by rw [O];exact c.out.sz⟩;have K:Bk t w.heap.size 72 #[gp]:=N.bk (ap.out.drewN nq) fun g=>by have:=G.out _ g;omega
 have ae:Keep F w t:=(Keep.of_below (below_drewN ao.out nq)).trans (N.mono fun i _ n=>c.out.fl i n);obtain ⟨an,aA,a2,a8⟩:=aBx u K ax.out (fun f l q C g=>av.out f l q C (aJt (by rw [<-S f l,<-S q C,g])));have az:t.cell? ⟨gp,2,none⟩=some (.slice an e.length aA):=(u.at_.blk.cell 2).trans (by rw [a2];rfl);have aR:t.cell? w.heap.size=some (.pointer (some gp)):=(K.cell 0).trans rfl;have aW:=u.at_.blk.lt;obtain ⟨aw,Z,au⟩:=hqq3 ae M a8;clear ae M a8 u K N O a6 S o aE aO aP aQ aK aL aM aN a2;go_wp2_with fail;refine au.out.mono ?_;rintro g am ⟨rfl,aI,Q,ai,a5,ad⟩;have a9:(∃pr',pr'.Perm ((e.map fun a=>(aC b a,aJ b a)).map fun f=>(mvR d z1 f.1,f.2))/\PermE am F gp R P pr')/\Keep F w am:=by refine ⟨⟨_,?_,⟨I,D,W,X,V,aI,E,U,H,a5,rfl⟩,List.pairwise_map.2 ai,fun f l=>?_⟩,aw.out.trans ad⟩;refine (Q.map _).trans ?_;rw [zCh];refine List.Perm.of_eq (List.map_congr_left fun a j=>?_);exact Z.out a j;obtain ⟨a,j,rfl⟩:=zAy.1 l;have af:=Q.subset j;have k:=Y.out a af;rw [Z.out a af];exact ⟨aKi aG aH k.1,k.2⟩
 have a0:=lhd a9;clear a9 a5 ad Q ai az aR;go_wp2_with fail;go_ret;exact ⟨rfl,a0.out.1,a0.out.2⟩
end
section
open Go.RowKit Go.Shelf
def VisF.mono {F G:Nat->Prop} {w w':World} (b:VisF F w w') (e:∀a,a < w.heap.size->F a->G a):VisF G w w':=⟨b.os,b.tape,b.output,b.size,fun a c f=>b.block a c fun d=>f (e a c d)⟩
def VisF.trans' {b d:Nat->Prop} {w w1 w':World} (g:VisF b w w1) (k:VisF d w1 w') (j:∀a,a < w.heap.size->d a->b a):VisF b w w':=by
 have i:=VisF.trans (F:=fun a=>b a∨w.heap.size<=a) (g.mono fun a _ c=>.inl c) (k.mono fun a _ f=>by
  by_cases e:a < w.heap.size;exact .inl (j a e f)
  · exact .inr oM)
 exact i.mono fun a m c=>c.elim id fun l=>by omega
structure LF (B:Nat) (w w':World) (own own':Nat->Nat):Prop where
 old:∀b,b < w.heap.size->own' b=own b
 vis:VisF (fun b=>own b≠0) w w'
 keep:Keep (fun b=>B<=b) w w'
def LF.refl (B:Nat) (w:World) (own:Nat->Nat):LF B w w own own:=⟨fun _ _=>rfl,VisF.of_vis (Vis.refl w),Keep.refl _ _⟩
def LF.trans {B:Nat} {w w1 w':World} {own e own':Nat->Nat} (a:LF B w w1 own e) (d:LF B w1 w' e own'):LF B w w' own own':=by
 have g:=a.keep.size;refine ⟨fun b c=>(d.old b oM).trans (a.old b c),a.vis.trans' d.vis fun b c f=>?_,a.keep.trans d.keep⟩;rw [<-a.old b c];exact f
def LF.of_vb {B:Nat} {w w':World} {own:Nat->Nat} (a:VB B w w'):LF B w w' own own:=⟨fun _ _=>rfl,VisF.of_vis a.1,a.2⟩
structure LiveM (w:World) (B:Nat) (own:Nat->Nat) (gl gk gp rate:Nat) (mv:Int) (R P:Nat) (L T:List Nat) (pr:List (Nat×Nat)):Prop where
 blk:Bk w gl 74 #[gk,gp,(rate:Int),.int .i64 mv]
 col:own gl=3
 walk:WalkE w B own gk L T
 perm:PermE w (fun b=>own b=1) gp R P pr
section
variable {w w' : World} {B : Nat} {own own' : Nat -> Nat} {gl gk gp rate : Nat} {mv : Int} {R P R' P' : Nat} {L T L' T' : List Nat} {pr pr' : List (Nat × Nat)}
def LiveM.bnd (b:LiveM w B own gl gk gp rate mv R P L T pr):∀a,own a≠0->B<=a/\a < w.heap.size:=b.walk.bnd
def LiveM.lo (a:LiveM w B own gl gk gp rate mv R P L T pr):B<=gl:=(a.bnd gl (by rw [a.col];decide)).1
def LiveM.gw (c:LiveM w B own gl gk gp rate mv R P L T pr):∃a b,Bk w gk 151 #[.pointer (some ⟨a,0,none⟩),.pointer (some ⟨b,0,none⟩)]/\WaveAt w B a L:=by
 obtain ⟨a,b,d,_,e,_⟩:=c.walk;exact ⟨a,b,d,e.at⟩
def LiveM.vis (a:LiveM w B own gl gk gp rate mv R P L T pr) (b:Vis w w'):LiveM w' B own gl gk gp rate mv R P L T pr:=
 ⟨b.bk a.blk dC dC,a.col,a.walk.vis b,a.perm.vis b⟩
def LiveM.walkOp (c:LiveM w B own gl gk gp rate mv R P L T pr) (f:WalkE w' B own' gk L' T') (a:Grew w w' own own'):LiveM w' B own' gl gk gp rate mv R P L' T' pr/\LF B w w' own own':=by
 have e:=c.bnd;refine ⟨⟨a.keep.bk c.blk (fun d=>by have:=c.col;omega),by rw [a.old _ c.blk.lt];exact c.col,f,(c.perm.keep a.keep fun b d=>by omega).mono fun b _ d=>?_⟩,a.old,VisF.of_keep (a.keep.mono fun b _ d=>by omega),a.keep.mono fun b _ d=>(e b oM).1⟩;rw [a.old b (e b oM).2];exact d
def LiveM.permOp (c:LiveM w B own gl gk gp rate mv R P L T pr) (l:PermE w' (Gw (fun a=>own a=1) w.heap.size) gp R' P' pr') (e:Keep (fun a=>own a=1) w w'):LiveM w' B (dI own w.heap.size w'.heap.size 1) gl gk gp rate mv R' P' L T pr'/\LF B w w' own (dI own w.heap.size w'.heap.size 1):=by
 have g:=c.bnd;have j:∀a,a < w.heap.size->dI own w.heap.size w'.heap.size 1 a=own a:=fun a i=>by unfold dI;rw [zBx i]
 have n:B<=w.heap.size:=by have:=c.lo;have:=c.blk.lt;omega
 have o:=e.size;refine ⟨⟨e.bk c.blk (fun b=>by have:=c.col;omega),by rw [j _ c.blk.lt];exact c.col,(c.walk.far e fun a b=>⟨by omega,by omega⟩).paint (fun a i m=>?_) (fun a d=>?_),l.mono fun a i b=>?_⟩,j,VisF.of_keep (e.mono fun a _ b=>by omega),e.mono fun a _ b=>(g a oM).1⟩;by_cases f:a < w.heap.size;exact j a f;have:=(g a oM).2;omega;unfold dI at d;by_cases f:a < w.heap.size;rw [zBx f] at d;have:=g a d;exact ⟨this.1,by omega⟩;rw [zBw f] at d;by_cases k:a < w'.heap.size;exact ⟨by omega,k⟩;rw [zBw k] at d;exact absurd rfl d
 · rcases b with b | b;rw [j a (g a oM).2];exact b
   · unfold dI;rw [zBw oM,zBx i]
def LiveM.setMv (c:LiveM w B own gl gk gp rate mv R P L T pr) (f:Int):LiveM (w.setCell ⟨gl,3,none⟩ (.int .i64 f)) B own gl gk gp rate f R P L T pr/\LF B w (w.setCell ⟨gl,3,none⟩ (.int .i64 f)) own own:=by
 have e:Keep (fun a=>a=gl) w (w.setCell ⟨gl,3,none⟩ (.int .i64 f)):=Keep.setCell (F:=fun a=>a=gl) (Keep.refl _ _) (p:=⟨gl,3,none⟩) (.inl rfl) _;have i:=c.col;refine ⟨⟨c.blk.set 3 _,c.col,c.walk.far e fun a b=>?_,c.perm.keep e fun a b g=>?_⟩,fun _ _=>rfl,VisF.of_keep (e.mono fun a _ b=>?_),e.mono fun a _ b=>?_⟩;have g:a=gl:=b;subst g;exact ⟨by omega,by omega⟩;have d:a=gl:=g;subst d;omega;have d:a=gl:=b;subst d;show own a≠0;omega;have d:a=gl:=b;subst d;exact c.lo
def LiveM.len (b:LiveM w B own gl gk gp rate mv R P L T pr):LvW w B gl L∨¬T.Perm L:=by
 by_cases a:T.Perm L;exact .inl ⟨gk,_,_,_,b.blk,b.walk.at a⟩;exact .inr a
def LiveM.permR (g:LiveM w B own gl gk gp rate mv R P L T pr):PermR w gp R P pr:=by
 obtain ⟨⟨f,m,n,o,l,j,d,k,e,a,b⟩,c,p⟩:=g.perm;rw [b] at c;have i:=List.pairwise_map.1 c;have q:=gG a.nd a.at_.lt;exact ⟨0,f,m,n,o,l,j,d,k,e,a.at_,i,a.sz,by have:=a.sz;omega,b⟩
def LiveM.g (a:LiveM w B own gl gk gp rate mv R R L T pr) (b:T.Perm L):LiveG w B gl gk gp rate R L pr:=⟨⟨mv,a.blk⟩,a.walk.at b,a.permR⟩
end
section
variable {w : World} {B : Nat} {own : Nat -> Nat} {gl gk gp rate : Nat} {mv : Int} {R P : Nat} {L T : List Nat} {pr : List (Nat × Nat)}
def vB {i s:Nat} (a:LiveM w B own gl gk gp rate mv R P L T pr) (e:L[i]?=some s) (d:∀m∈L,m < 257) (l:L.length<=1000) (k:T.length<=1000):
 Calls prog 148 #[gl,(i:Int)] w fun c w'=>c=.returned (.int .i64 ((qU L T s i:Nat):Int))/\VB B w w':=by
 have b:=oV a.walk.atT e d l k;have n:=a.blk.cell 0;obtain ⟨o,f⟩:=eqx (qU L T s i);rw [f] at b⊢;clear a e d f;go_enter func148,ntmps148;go_wp2_with fail;refine b.mono ?_;rintro c w' ⟨rfl,g⟩;have j:=lhd g;clear b g;go_wp2_with fail;go_ret;exact ⟨rfl,j.out⟩
def nO (b:Nat) (w:World) (gl:Nat):
 Calls prog 138 #[gl,.int .i64 0,(b:Int)] w fun a w'=>a=.returned (.int .i64 (-1))/\w=w':=by
 go_enter func138,ntmps138;go_wp2_with fail;go_ret;exact ⟨rfl,rfl⟩
def pZ (b:Nat) {a e:Nat} (c:LiveM w B own gl gk gp rate mv R P L T pr) (q:0 < b) (i:L[a]?=some e) (g:∀o∈L,o < 257) (n:L.length<=1000) (m:T.length<=1000):
 Calls prog 138 #[gl,(b:Int),(a:Int)] w fun f w'=>f=.returned (.int .i64 ((qU L T e a:Nat):Int))/\VB B w w':=by
 have d:=oV c.walk.atT i g n m;have p:=c.blk.cell 0;have r:((b:Int)==0)=false:=by rw [zCb];omega
 obtain ⟨s,j⟩:=eqx (qU L T e a);rw [j] at d⊢;clear c i g j;go_enter func138,ntmps138;go_wp2_with fail;refine d.mono ?_;rintro f w' ⟨rfl,k⟩;have l:=lhd k;clear d k;go_wp2_with fail;go_ret;exact ⟨rfl,l.out⟩
end
def inI (a b:Int):Int:=if a>=b then a+1 else a
def aAU (a b:Int):Int:=if a > b then a - 1 else a
def uU (b a:Nat):inI (b:Int) (a:Int)=((inR b a:Nat):Int):=by
 unfold inI inR;split <;> split <;> omega
def kX (b a:Nat):aAU (b:Int) (a:Int)=((aU b a:Nat):Int):=by
 unfold aAU aU;split <;> split <;> omega
def aE7 (a:Nat):inI (-1) (a:Int)=-1:=by unfold inI;rw [zBw oM]
def aCj (a:Nat):aAU (-1) (a:Int)=-1:=by unfold aAU;rw [zBw oM]
def vC {r:Int} (a:Int) (w:World) (e:-1000000<=r/\r<=1000000):
 Calls prog 151 #[.int .i64 r,.int .i64 a] w fun c w'=>c=.returned (.int .i64 (inI r a))/\w=w':=by
 unfold inI;by_cases b:r>=a
 · rw [zBx b];have d:wrap64 (r+1)=r+1:=dK oM oM;go_enter func151,ntmps151;go_wp2_with fail;go_ret;exact ⟨rfl,rfl⟩
 · rw [zBw b];go_enter func151,ntmps151;go_wp2_with fail;go_ret;exact ⟨rfl,rfl⟩
def lJ (a b:Int) (w:World) (f:-1000000<=a/\a<=1000000):
 Calls prog 146 #[.int .i64 a,.int .i64 b] w fun d w'=>d=.returned (.int .i64 (aAU a b))/\w=w':=by
 unfold aAU;by_cases c:a > b
 · rw [zBx c];have e:IntKind.i64.wrap (a - 1)=a - 1:=(by rw [IntKind.wrap_i64];omega);go_enter func146,ntmps146;go_wp2_with fail;go_ret;exact ⟨rfl,rfl⟩
 · rw [zBw c];go_enter func146,ntmps146;go_wp2_with fail;go_ret;exact ⟨rfl,rfl⟩
def aEI (a d b:Nat) (w:World) (q:0 < a∨¬d < b) (p:a<=1000000):
 Calls prog 218 #[(a:Int),(d:Int),(b:Int)] w fun k w'=>k=.returned (.int .i64 ((aIH a d b:Nat):Int))/\w=w':=by
 unfold aIH;by_cases j:d < b
 · obtain ⟨c,o⟩:∃c,a=c+1:=⟨a - 1,by omega⟩;subst o;have n:(d:Int) < (b:Int):=oM;have l:IntKind.i64.wrap (((c+1:Nat):Int) - 1)=(c:Int):=(by rw [IntKind.wrap_i64];omega);obtain ⟨a,i⟩:=eqx (c+1);rw [i] at l⊢;have e:(if d < b then a - 1 else a)=c:=(by rw [zBx j];omega);simp only [e];by_cases f:b<=c
   · have g:(c:Int)>=(b:Int):=oM;have m:wrap64 ((c:Int)+1)=((c+1:Nat):Int):=(by rw [dK oM oM];rfl);rw [zBx f];clear e i;go_enter func218,ntmps218;go_wp2_with fail;go_ret;exact ⟨rfl,rfl⟩
   · have g:¬(c:Int)>=(b:Int):=oM;rw [zBw f];clear e i;go_enter func218,ntmps218;go_wp2_with fail;go_ret;exact ⟨rfl,rfl⟩
 · have n:¬(d:Int) < (b:Int):=oM;have e:(if d < b then a - 1 else a)=a:=(by rw [zBw j]);simp only [e];by_cases f:b<=a
   · have g:(a:Int)>=(b:Int):=oM;have m:wrap64 ((a:Int)+1)=((a+1:Nat):Int):=(by rw [dK oM oM];rfl);rw [zBx f];clear e;go_enter func218,ntmps218;go_wp2_with fail;go_ret;exact ⟨rfl,rfl⟩
   · have g:¬(a:Int)>=(b:Int):=oM;rw [zBw f];clear e;go_enter func218,ntmps218;go_wp2_with fail;go_ret;exact ⟨rfl,rfl⟩
def aBM {gl:Nat} {d e f:Value} {mv a b:Int} {w:World} (c:Bk w gl 74 #[d,e,f,.int .i64 mv]) (k:0<=a) (l:a<=b):
 Calls prog 137 #[gl,.int .i64 a,.int .i64 b] w fun g w'=>g=.returned (.int .i64 0)/\w'=w.setCell ⟨gl,3,none⟩ (.int .i64 0):=by
 have i:w.cell? ⟨gl,3,none⟩=some (.int .i64 mv):=(c.cell 3).trans rfl;have j:=c.frozen 3;have m:decide (a < 0)=false:=zBy oM;have n:¬a > b:=oM;have o:¬b < a:=oM;clear c;go_enter func137,ntmps137;go_wp2_with fail;go_ret;exact ⟨rfl,rfl⟩
def sA {y:Nat->Prop} {gp R P:Nat} (m:Nat) {pr:List (Nat×Nat)} {w:World} (X:PermE w y gp R P pr) (a5:m < pr.length):
 Calls prog 216 #[gp,(m:Int)] w fun f w'=>f=.returned (.tuple #[])/\PermE w' (Gw y w.heap.size) gp R P (aG pr m)/\Keep y w w':=by
 obtain ⟨⟨g,b1,b2,t,s,u,V,N,Q,E,rfl⟩,aX,aN⟩:=X;rw [zBc] at a5;have M:=E.at_;have c1:=gG E.nd M.lt;have bV:=E.sz;obtain ⟨b,Y⟩:∃b,u[m]?=some b:=⟨_,zAa a5⟩;have aj:=zAd Y;have aY:=(E.tkk b).2 aj;obtain ⟨o,J,a9,_,bu⟩:=World.ownsRow.form M.orow oM;have ab:=M.orow;rw [a9] at ab;have bg:w.cell? gp=some (.pointer (some g)):=(M.blk.cell 0).trans rfl;have a3:w.cell? ⟨gp,2,none⟩=some (.slice (some o) u.length J):=(M.blk.cell 2).trans (by rw [a9];rfl);have av:w.cell? ⟨o,m,none⟩=some (.int .i64 (b:Int)):=(World.ownsRow.cellAt ab m oM).trans (by rw [zAf,Y];rfl);have bv:=M.blk.lt;have bW:Q.length<=1000:=by have:=gG E.frn fun e H=>(zAc.1 ((E.frk e).1 H)).1;have:=E.tkl;omega
 obtain ⟨C,ak⟩:=eqx u.length;have c3:C<=1000:=oM;rw [ak] at a3 a5 ab;have c0:(m:Int) < (C:Int):=oM;have bZ:(0:Int)<=(m:Int):=oM;have bT:wrap64 ((m:Int)+1)=((m+1:Nat):Int):=by rw [dK oM oM];rfl
 obtain ⟨r,W,b8,ae,bc,b6,O,bK⟩:=hqq8 E ak Y aY aX aN a9 aj;clear E ak Y aY aX aN a9 ab M aj;go_enter func216,ntmps216;go_wp2_with fail;refine wp_region_any kR ?_;refine cT (pre:=(fun a1=>PermX a1 y gp g b1 b2 t s R P u V N Q)) (pJ:=(fun _ a1=>ArenaE a1 (Gw (AF g t s) w.heap.size) g (N.set b false) (Q++ [b]))) [4,5,6,7,8,9,10,11,12,13,14,15,16] (AF g t s) 12 [12] [is gp,is gp,is gp,is g,is gp,is gp,is (.pointer (some ⟨gp,2,none⟩)),is (.slice (some o) C J),is (m:Int),is (.pointer (some ⟨o,m,none⟩)),is (b:Int),vY (AF g t s) 3 #[(b:Int)] fun S=>.slice (some ⟨S,0,none⟩) 1 1,dJ] _ rfl kR kR (r.out.drewN 1) (fun a1 D X _ bt=> { X with at_:=X.at_.below bt }) (fun _ _ _ X b=>X.keep (G:=fun _=>False) (Keep.of_below b) fun _ _ _ _ _ _ q=>q) (by repeat' (first | exact nS _ _ | exact kQ _ | exact pG _ _ _ _ |(refine zAe.2 ⟨?_,?_⟩)|(intro ad bC;cases bC))) ?_ ?_
 · refine aV ?_;refine pH3 0 (.pointer (some gp)) ?_;refine pV3 0 4 ?_;refine pV3 1 5 ?_;refine pL3 2 6 (fun x j=>have j:Keep (AF g t s) w x:=kD j;(((j.bk r.out.at_.blk r.out.gp_af).cell 0).trans rfl:x.cell? gp=some (.pointer (some g)))) ?_;refine pH3 0 (.pointer (some gp)) ?_;refine pV3 4 8 ?_;refine pV3 5 9 ?_;refine pL3 6 10 (fun x j=>have j:Keep (AF g t s) w x:=kD j;((j.cell (p:=⟨gp,2,none⟩) bv r.out.gp_af).trans a3:x.cell? ⟨gp,2,none⟩=some (.slice (some o) C J))) ?_;refine pH3 1 (.int .i64 (m:Int)) ?_;refine pW3 7 11 8 12 ?_;refine pL3 9 13 (fun x j=>have j:Keep (AF g t s) w x:=kD j;((j.cell (p:=⟨o,m,none⟩) bu (r.out.ord_af (by rw [O.out];rfl))).trans av:x.cell? ⟨o,m,none⟩=some (.int .i64 (b:Int)))) ?_;refine sC3 (fun _ x j _ _ _ _ a0 _ _ _ ag=>?_) ?_
   · replace j:Keep (AF g t s) w x:=kD j;have bO:_=_:=a0 10 14 kR rfl;go_simp;exact ag _ _ (aO (bR.alloc nL _)) ⟨_,rfl,Bk.new _ _ _,fun q=>by have ay:=r.out.af_lt q;have az:=j.size;omega⟩
   refine sC3 (fun ax x j bo _ _ _ a0 _ _ _ ag=>?_) ?_
   · replace j:Keep (AF g t s) w x:=kD j;have bD:=bo rfl;have bQ:_=_:=a0 3 7 kR rfl;have bF:(vY (AF g t s) 3 #[(b:Int)] fun S=>.slice (some ⟨S,0,none⟩) 1 1) (ax (.tmp 15)) x:=a0 11 15 kR rfl;obtain ⟨bh,bP,bp,c2⟩:=bF;go_simp;refine (aDf (F:=(AF g t s)) (ga:=g) (gs:=bh) (k:=b) (tk:=N) (fr:=Q) (w:=x) bD.arena ae.out bp oM).mono ?_;rintro f c5 ⟨rfl,bn,bw⟩
     exact ag _ _ (bJ bw) (bn.mono fun a _ q=>by
        rcases q with q | q;exact .inl q
        · exact .inr (zAk j.size q))
   exact aH
 · intro ax ap j a0 aM;replace j:Keep (AF g t s) w ap:=kD j;obtain ⟨c4,ao⟩:∃bG,(fun _ a1=>ArenaE a1 (Gw (AF g t s) w.heap.size) g (N.set b false) (Q++ [b])) bG ap:=aM 12 dC;simp only [zqq];clear a0 aM;obtain ⟨D,bE⟩:∃D,D=ap:=⟨_,rfl⟩;subst bE;have a6:=j;have aE:=ao;clear bg a3 av;have aa:=a6.bk r.out.at_.blk r.out.gp_af;have aZ:=aA (w':=D) r.out.at_.lrow fun a z _ d=>a6.bk d (r.out.pair_af d);have ac:=aA (w':=D) r.out.at_.orow fun a z d Y=>a6.bk Y (r.out.ord_af d);rw [W.out,O.out,W.out] at ac;have a3:D.cell? ⟨gp,2,none⟩=some (.slice (some o) C J):=(aa.cell 2).trans (by rw [O.out,W.out];rfl);have bX:=aa.lt;have aR:Keep y w D:=(Keep.refl y w).trans (a6.mono fun a _ q=>r.out.af q);have aF:=ArenaE.mono aE (G:=fun a=>Gw (AF g t s) w.heap.size a/\a < D.heap.size) fun a d q=>⟨q,d⟩;have aP:=zE (B:=0) (A:=(some ⟨o,0,none⟩)) (n:=C) (c:=J) (i:=m) (ks:=u) (w:=D) ac a5 oM;obtain ⟨ar,bd,bf,b9,b4,aq⟩:=hqq6 aa aZ ac aR aF aP;clear aa aZ ac aR aE aF aP a6 ao j;go_wp2_with fail;refine aq.out.mono ?_;rintro f a2 ⟨rfl,aU,Z⟩;rw [show (Value.slice (some o) C J).ownBlock=some o from rfl] at Z;have an:∀a K z,K≠3->Bk D a K z->¬(some o=some a):=fun a K z a7 d f=>by obtain ⟨bM,bq⟩:=eI bf.out (show (Value.slice (some o) C J).ownBlock=some a from f);exact a7 (aL d bq).1
   have ai:¬(Gw (AF g t s) w.heap.size o/\o < D.heap.size):=fun q=>by have aw:b2.ownBlock=some o:=(by rw [O.out];rfl);rcases q.1 with q | q;exact r.out.ord_af aw q;have:=(r.out.at_.orow.lt o aw).2;omega
   have a4:=Z.bk ar.out (an _ _ _ dC ar.out);have b0:=aA (w':=a2) bd.out fun a z _ d=>Z.bk d (an _ _ _ dC d);have aI:=b4.out.keep Z fun a K z _ _ q f=>by injection f with f;subst f;exact ai q
   have bs:y o:=r.out.fo o (by rw [O.out];rfl);have aS:Keep y w a2:=b9.out.trans (Z.mono fun a _ f=>by
    injection f with f;subst f;exact bs)
   have a3:a2.cell? ⟨gp,2,none⟩=some (.slice (some o) C J):=(a4.cell 2).trans (by rw [O.out,W.out];rfl);have bS:=a4.frozen 2;have bY:=a4.lt;obtain ⟨au,be,b5,ba,bb,b7⟩:=hqq6 a4 b0 aI aS aU ai;clear a4 b0 aI aS aU ai an Z aq;go_wp2_with fail;go_end0;have al:Keep (fun a=>a=gp) a2 (a2.setCell ⟨gp,2,none⟩ (.slice (some o) (C - 1) J)):=Keep.setCell (F:=fun a=>a=gp) (Keep.refl _ _) (p:=⟨gp,2,none⟩) (.inl rfl) _;have ah:∀a K z,K≠110->Bk a2 a K z->¬(a=gp):=fun a K z a7 d f=>by subst f;exact a7 (aL d au.out).1
   obtain ⟨bU,bI,bN,bH,bL,ay,az,bi,bj,aB⟩:=b5.out.keep al fun a K z a7 d _=>ah a K z (fun f=>by subst f;revert a7;decide) d;have v:=r.out;have aW:(b::aG u m).Perm u:=eE b8.out;have bB:=aW.nodup_iff.2 v.nd;obtain ⟨bz,bA⟩:=List.nodup_cons.1 bB;have aT:∀e,e∈aG u m↔e∈u/\e≠b:=fun e=>by rw [<-aW.mem_iff,List.mem_cons];constructor;intro H;exact ⟨.inr H,fun f=>bz (by rw [<-f];exact H)⟩;rintro ⟨U | U,bl⟩;exact absurd U bl;exact U
   have br:(aG u m).length=C - 1:=(by have:=cM (l:=u) (k:=m) (by rw [W.out];exact a5);have:=W.out;omega);have aK:∀a,Gw (AF g t s) w.heap.size a/\a < D.heap.size->Gw y w.heap.size a:=fun a q=>by rcases q.1 with S | S;exact .inl (v.af S);exact .inr S
   have bx:b < N.length:=(zAc.1 ae.out).1;have aQ:∀e,(N.set b false)[e]?=if e=b then some false else N[e]?:=fun e=>by
    rw [zBm];by_cases I:b=e
    · subst I;simp [bx]
    · rw [zBw I,zBw (fun f=>I f.symm)]
   refine ⟨rfl,⟨⟨g,b1,.slice (some o) (C - 1) J,_,_,aG u m,V,N.set b false,Q++ [b],⟨⟨au.out.set 2 _,aA be.out fun a z _ d=>al.bk d (ah _ _ _ dC d),?_,ay,az,bi,.inr fun f=>b7.out (aB o f.symm),fun e H=>v.at_.lt e ((aT e).1 H).1,⟨zAp _,zAp _⟩⟩,.inl v.fp,.inl v.fa,fun a d=>.inl (v.fl a d),fun a d=>.inl (v.fo a (by rw [O.out];exact d)),fun a d=>aK a (bj a d),fun a d=>aK a (aB a d),bA,by rw [zAt];exact v.tkl,fun e=>?_,?_,fun e=>?_,v.sz⟩,(rJ _ _ _).symm⟩,?_,fun e H=>?_⟩,Keep.setCell (F:=y) ba.out (p:=⟨gp,2,none⟩) (.inl v.fp) _⟩;rw [br];exact aA bb.out fun a z _ d=>al.bk d (ah _ _ _ dC d)
   · rw [aQ,aT e,<-v.tkk e];by_cases I:e=b
     · simp [I]
     · simp [I]
   · rw [List.nodup_append];refine ⟨v.frn,by simp,fun e H b3 a8=>?_⟩;rw [List.mem_singleton] at a8;subst a8;intro f;subst f;have aD:=(v.frk e).1 H;have bm:=ae.out;rw [bm] at aD;cases aD
   · rw [aQ,zCp,v.frk e,List.mem_singleton];by_cases I:e=b
     · simp [I]
     · simp [I]
   unfold aG;rw [List.pairwise_append];have am:=bc.out;refine ⟨am.sublist (List.take_sublist _ _),am.sublist (List.drop_sublist _ _),fun e E b3 a8=>?_⟩;have:=List.pairwise_append.1 (show ((u.map fun b=>(aC V b,aJ V b)).take m++(u.map fun b=>(aC V b,aJ V b)).drop m).Pairwise (fun M a=>M.1 < a.1) by rw [zAu];exact am);refine this.2.2 e E b3 ?_;rw [<-List.drop_drop] at a8;exact List.mem_of_mem_drop a8;refine b6.out e ?_;unfold aG at H;rcases zCp.1 H with U | U;exact List.mem_of_mem_take U;exact List.mem_of_mem_drop U
def aFe {a:List (Nat×Nat)} {b:Nat} (p:a.Pairwise (fun c d=>c.1 < d.1)) (o:b < a.length) (e:Nat×Nat):e∈aG a b↔e∈a/\e.1≠a[b].1:=by
 have i:(a[b]::aG a b).Perm a:=eE (zAa o);have q:(a[b]::aG a b).Pairwise (fun c d:Nat×Nat=>c.1≠d.1):=i.symm.pairwise (p.imp fun {c d} g=>Nat.ne_of_lt g) fun {c d} g f=>g f.symm;obtain ⟨k,r⟩:=List.pairwise_cons.1 q;constructor;intro j;exact ⟨i.subset (by simp [j]),fun f=>k e j f.symm⟩;rintro ⟨l,m⟩;rcases List.mem_cons.1 (i.symm.subset l) with rfl | n;exact absurd rfl m;exact n
def xZ (b:Nat->Prop) (gp R P row:Nat) (pr:List (Nat×Nat)) (w:World) (e:Ending) (w':World):Prop:=
 ∃(d:Int) (c:List (Nat×Nat)),e=.returned (.int .i64 d)/\(∀a,a∈c↔a∈pr/\a.1≠row)/\PermE w' (Gw b w.heap.size) gp R P c/\Keep b w w'
def aBC {y:Nat->Prop} {gp R P:Nat} (row:Nat) {pr:List (Nat×Nat)} {w:World} (z:PermE w y gp R P pr):
 Calls prog 213 #[gp,(row:Int)] w (xZ y gp R P row pr w):=by
 have o:=z;obtain ⟨⟨U,Z,a0,a1,Y,j,c,X,S,b,rfl⟩,s,D⟩:=z;have x:=List.pairwise_map.1 s;have r:j.Pairwise (fun K u=>aC c K < aC c u):=x;have W:=gG b.nd b.at_.lt;have V:=b.sz;have d:=jK row b.at_ r oM;unfold xZ;by_cases i:∃a∈j,aC c a=row
 · rw [zBz i] at d;obtain ⟨a,q,m⟩:=(tG r row).2 i;obtain ⟨e,l⟩:∃e,(j.countP fun a=>decide (aC c a < row))=e:=⟨_,rfl⟩;rw [l] at d q;have v:=(zAc.1 q).1;obtain ⟨G,H,J,t⟩:=hqq4 q m s o;clear b s D r x i o q m l;go_enter func213,ntmps213;go_wp2_with fail;refine d.mono ?_;rintro n w1 ⟨rfl,k⟩;have f:=lhd k;clear d k;go_wp2_with fail;have A:=t.out.below f.out;refine (sA e A (by rw [zBc];exact v)).mono ?_;rintro n a2 ⟨rfl,C,m⟩;obtain ⟨E,I⟩:=hqq2 C m;clear A C m;go_wp2_with fail;go_ret;refine ⟨0,_,rfl,fun Q=>?_,E.out.mono fun u _ g=>?_,(Keep.of_below f.out).trans I.out⟩
   · have O:e < (j.map fun a=>(aC c a,aJ c a)).length:=(by rw [zBc];exact v);rw [aFe J.out O];have M:((j.map fun a=>(aC c a,aJ c a))[e]).1=row:=(by rw [List.getElem_map];have p:=G.out;rw [zAa v] at p;injection p with p;rw [p];exact H.out);rw [M]
   rcases g with g | g;exact .inl g;exact .inr (by have:=f.out.size;omega)
 · rw [zBy i] at d;obtain ⟨e,l⟩:∃e,(j.countP fun a=>decide (aC c a < row))=e:=⟨_,rfl⟩;rw [l] at d;obtain ⟨F,t⟩:=hqq2 i o;clear b s D r x i o l;go_enter func213,ntmps213;go_wp2_with fail;refine d.mono ?_;rintro n w1 ⟨rfl,k⟩;have f:=lhd k;clear d k;go_wp2_with fail;go_ret;refine ⟨7,_,rfl,fun Q=>?_,(t.out.below f.out).mono fun u _ g=>.inl g,Keep.of_below f.out⟩;constructor;intro b;refine ⟨b,fun n=>?_⟩;obtain ⟨a,N,rfl⟩:=zAy.1 b;exact F.out ⟨a,N,n⟩;intro b;exact b.1
def aJl {b c a:Nat} (d:b < c) (e:b≠a) (f:c≠a):aU b a < aU c a:=by
 unfold aU;split <;> split <;> omega
def xU {g:Nat->Prop} {gp R P:Nat} (c:Nat) {pr:List (Nat×Nat)} {w:World} (q:PermE w g gp R P pr) (a5:∀b,g b->b < w.heap.size) (aN:c < R) (aF:R<=100000) (b0:P<=100000):
 Calls prog 143 #[gp,(c:Int)] w fun m w'=>m=.returned (.int .i64 0)/\(∃K:List (Nat×Nat),(∀e,e∈K↔e∈pr/\e.1≠c)/\PermE w' (Gw g w.heap.size) gp (R - 1) P (K.map fun e=>(aU e.1 c,e.2)))/\Keep g w w':=by
 obtain ⟨d,rfl⟩:∃d,R=d+1:=⟨R - 1,by omega⟩;rw [zBb];have aK:gp < w.heap.size:=by obtain ⟨⟨D,y,O,Q,N,s,j,M,C,n,_⟩,_⟩:=q;exact n.at_.blk.lt
 have A:w.cell? ⟨gp,3,none⟩=some (.int .i64 ((d+1:Nat):Int)):=by obtain ⟨⟨D,y,O,Q,N,s,j,M,C,n,_⟩,_⟩:=q;exact (n.at_.blk.cell 3).trans rfl
 have aj:¬((c:Int)>=((d+1:Nat):Int)):=oM;have aO:¬d+1<=c:=oM;have aP:decide ((c:Int)>=((d+1:Nat):Int))=false:=zBy aj;have b5:decide ((c:Int) < 0)=false:=by simp
 have aB:IntKind.i64.wrap (((d+1:Nat):Int) - 1)=(d:Int):=by rw [IntKind.wrap_i64];omega
 obtain ⟨z,E⟩:=eqx (d+1);rw [E] at A aj aP aB q aF aN aO;obtain ⟨k,r⟩:=eqx (w.alloc (.cells #[(c:Int)] 3));have v:Below w.heap.size w k:=by rw [<-r];exact bR.alloc nL _
 have x:Bk k w.heap.size 3 #[(c:Int)]:=by rw [<-r];exact Bk.new w _ _
 have aQ:∀ak,(k.drewN ak).cell? w.heap.size=some (.int .i64 (c:Int)):=fun ak=>(x.cell 0).trans rfl;have aS:k.cell? w.heap.size=some (.int .i64 (c:Int)):=(x.cell 0).trans rfl;have aR:k.cell? ⟨gp,3,none⟩=some (.int .i64 (z:Int)):=(v.cell (p:=⟨gp,3,none⟩) aK).trans A;have ag:k.heap.size=w.heap.size+1:=by rw [<-r,World.size_alloc]
 have b2:gp < k.heap.size:=oM;have a2:=q.below v;obtain ⟨an,ar,au,av,ap,aq,az⟩:=hqq7 a2 r v x a5 E ag;clear q a2 r v x a5 E ag A;go_enter func143,ntmps143;go_wp2_with fail;rw [ar.out];go_quiet (fail)
 rename_i nq
 have b4:∀(Y:Fn) (first X:Array Value) (w:World),(Instr.makeFunc Y first X).run prog w=.ok (.func Y first X) w:=fun _ _ _ _=>rfl;go_wp2_with fail;have a3:=an.out.below (below_drewN bR nq);have G:=aBC c a3;unfold xZ at G;refine G.mono ?_;rintro m S ⟨aT,K,rfl,ae,aE,I⟩;obtain ⟨⟨D,y,O,Q,N,s,j,M,C,n,rfl⟩,af,a8⟩:=aE;have u:=n.at_;have aW:S.cell? ⟨gp,3,none⟩=some (.int .i64 (z:Int)):=(u.blk.cell 3).trans rfl;have aY:=u.blk.frozen 3;have b1:=u.blk.lt;have H:Bk S w.heap.size 3 #[(c:Int)]:=I.bk (av.out.drewN nq) fun m=>by have:=ap.out _ m;omega
 have b6:S.cell? w.heap.size=some (.int .i64 (c:Int)):=(H.cell 0).trans rfl;obtain ⟨a,ay,V,t,aw,W⟩:=hqq6 n af a8 ae I H;clear n af a8 ae I H u G a3 aQ aS aR;go_wp2_with fail;have a6:=a.out.at_.set_rows d;have ab:=W.out.far (p:=⟨gp,3,none⟩) (fun m=>by have aX:w.heap.size=gp:=m;omega) (.int .i64 (d:Int));have ah:∀b,y.ownBlock=some b->b≠w.heap.size:=fun b o m=>by subst m;obtain ⟨aV,aI⟩:=eI a.out.at_.lrow o;exact absurd (aL aI W.out).1 dC
 have a1:∀i,i∈s->aC j i<=1000000000000/\aJ j i<=1000000000000:=fun i aM=>by have:=V.out (aC j i,aJ j i) (zAy.2 ⟨i,aM,rfl⟩);have a0:aC j i < z:=this.1;have aD:aJ j i < P:=this.2;omega
 have b3:=gG a.out.nd a.out.at_.lt;refine (xX a6 a.out.nd (by have:=a.out.sz;omega) ab ah a1).mono ?_;rintro m al ⟨rfl,ac,am,J,a9,a7⟩;have aa:∀b,Gw g (k.drewN nq).heap.size b->Gw g w.heap.size b:=fun b l=>by rcases l with l | l;exact .inl l;exact .inr (by have:=az.out;simp at l;omega)
 have ad:Keep g w al:=((Keep.of_below (below_drewN au.out nq)).trans aw.out).trans' ((Keep.setCell (F:=Gw g (k.drewN nq).heap.size) (Keep.refl _ _) (p:=⟨gp,3,none⟩) (.inl a.out.fp) _).trans (ac.mono fun b _ o=>a.out.fl b o)) fun b o l=>by rcases aa b l with Z | Z;exact Z;omega
 have a4:PermE al (Gw g w.heap.size) gp d P ((s.map fun i=>(aC j i,aJ j i)).map fun e=>(aU e.1 c,e.2)):=by
  refine PermE.mono (F:=Gw g (k.drewN nq).heap.size) ⟨⟨D,y,O,Q,N,s,am,M,C,⟨a7,a.out.fp,a.out.fa,a.out.fl,a.out.fo,a.out.ft,a.out.ff,a.out.nd,by rw [J];exact a.out.tkl,a.out.tkk,a.out.frn,a.out.frk,by rw [J];exact a.out.sz⟩,(aAT (f:=fun e=>(aU e.1 c,e.2)) a9).symm⟩,?_,fun e n=>?_⟩ fun b _ l=>aa b l;refine List.pairwise_map.2 (List.Pairwise.imp_of_mem (fun {aA b} aG o aH=>?_) ay.out);exact aJl aH ((t.out aA).1 aG).2 ((t.out b).1 o).2
  · obtain ⟨U,ai,rfl⟩:=zAy.1 n;have a0:=V.out U ai;have aD:=((t.out U).1 ai).2;have aZ:=aq.out;refine ⟨?_,a0.2⟩;show aU U.1 c < d;unfold aU;split <;> omega
 obtain ⟨ao,ax⟩:=hqq2 a4 ad;clear ad a4 a7 a9 ac J a1 ah ab a6;go_wp2_with fail;go_ret;exact ⟨rfl,⟨_,t.out,ao.out⟩,ax.out⟩
def xV {j:Nat->Prop} {gp R P:Nat} (c:Nat) {pr:List (Nat×Nat)} {w:World} (k:PermE w j gp R P pr) (ar:∀q,j q->q < w.heap.size) (bq:c < P) (bA:R<=100000) (b7:P<=100000) (av:∀b∈pr,∀i∈pr,b.2=i.2->b=i):
 Calls prog 144 #[gp,(c:Int)] w fun d w'=>d=.returned (.int .i64 0)/\(∃J:List (Nat×Nat),(∀b,b∈J↔b∈pr/\b.2≠c)/\PermE w' (Gw j w.heap.size) gp R (P - 1) (J.map fun b=>(b.1,aU b.2 c)))/\Keep j w w':=by
 obtain ⟨m,rfl⟩:∃m,P=m+1:=⟨P - 1,by omega⟩;rw [zBb];have be:gp < w.heap.size:=by obtain ⟨⟨v,s,C,D,A,n,g,z,u,a,_⟩,_⟩:=k;exact a.at_.blk.lt
 have a5:w.cell? ⟨gp,4,none⟩=some (.int .i64 ((m+1:Nat):Int)):=by obtain ⟨⟨v,s,C,D,A,n,g,z,u,a,_⟩,_⟩:=k;exact (a.at_.blk.cell 4).trans rfl
 have aE:¬((c:Int)>=((m+1:Nat):Int)):=oM;have br:¬m+1<=c:=oM;have bs:decide ((c:Int)>=((m+1:Nat):Int))=false:=zBy aE;have bE:decide ((c:Int) < 0)=false:=by simp
 have b3:IntKind.i64.wrap (((m+1:Nat):Int) - 1)=(m:Int):=by rw [IntKind.wrap_i64];omega
 obtain ⟨M,a6⟩:=eqx (m+1);rw [a6] at a5 aE bs b3 k b7 bq br;obtain ⟨r,U⟩:=eqx (w.alloc (.cells #[(c:Int)] 3));have a0:Below w.heap.size w r:=by rw [<-U];exact bR.alloc nL _
 have a1:Bk r w.heap.size 3 #[(c:Int)]:=by rw [<-U];exact Bk.new w _ _
 have aF:∀a2,(r.drewN a2).cell? w.heap.size=some (.int .i64 (c:Int)):=fun a2=>(a1.cell 0).trans rfl;have aI:r.cell? w.heap.size=some (.int .i64 (c:Int)):=(a1.cell 0).trans rfl;have aH:r.cell? ⟨gp,4,none⟩=some (.int .i64 (M:Int)):=(a0.cell (p:=⟨gp,4,none⟩) be).trans a5;have aA:r.heap.size=w.heap.size+1:=by rw [<-U,World.size_alloc]
 have bB:gp < r.heap.size:=oM;have ao:=k.below a0;obtain ⟨aM,aR,ae,af,aP,aQ,a4,aV⟩:=hqq8 ao U a0 a1 ar a6 aA av;clear k ao U a0 a1 ar a6 aA a5 av;go_enter func144,ntmps144;go_wp2_with fail;rw [aR.out];go_quiet (fail)
 rename_i nq
 have bD:∀(ak:Fn) (first aj:Array Value) (w:World),(Instr.makeFunc ak first aj).run prog w=.ok (.func ak first aj) w:=fun _ _ _ _=>rfl;go_wp2_with fail;have Q:=aM.out.below (below_drewN bR nq);have a9:Calls prog 68 #[gp,(c:Int)] (r.drewN nq) fun d w'=>Below (r.drewN nq).heap.size (r.drewN nq) w'/\((d=.returned (.int .i64 (-1))/\∀b∈pr,b.2≠c)∨∃E b,d=.returned (.int .i64 ((E:Nat):Int))/\pr[E]?=some b/\b.2=c):=by
  obtain ⟨⟨v,s,C,D,A,n,g,z,u,a,rfl⟩,az,a7⟩:=Q;have bi:=gG a.nd a.at_.lt;have bz:=a.sz;refine (iI c a.at_ oM).mono ?_;rintro d w' ⟨rfl,N⟩;refine ⟨N,?_⟩;by_cases a8:∃e∈n,aJ g e=c
  · obtain ⟨a2,b,bj,bn,bo⟩:=tU (p:=fun e=>decide (aJ g e=c)) (l:=n) (by obtain ⟨e,bg,ab⟩:=a8;exact ⟨e,bg,zBz ab⟩) 0;rw [bj,zBi];exact .inr ⟨a2,_,rfl,by rw [zAf,bn];rfl,of_decide_eq_true bo⟩
  rw [jY (p:=fun e=>decide (aJ g e=c)) (l:=n) (fun e X=>zBy fun d=>a8 ⟨e,X,d⟩) 0];refine .inl ⟨rfl,fun b a=>?_⟩;obtain ⟨e,X,rfl⟩:=zAy.1 a;exact fun d=>a8 ⟨e,X,d⟩
 have ay:∀o (J:List (Nat×Nat)),(∀b,b∈J↔b∈pr/\b.2≠c)->PermE o (Gw j w.heap.size) gp R M J->Keep j w o->Bk o w.heap.size 3 #[(c:Int)]->∃v s C D A n g z u,PermX o (Gw j w.heap.size) gp v s C D A R M n g z u/\Calls prog 214 #[gp,.func (.func 217) #[] #[w.heap.size]] (o.setCell ⟨gp,4,none⟩ (.int .i64 (m:Int))) fun d w'=>d=.returned (.tuple #[])/\PermE w' (Gw j w.heap.size) gp R m (J.map fun b=>(b.1,aU b.2 c))/\Keep j w w':=by
  rintro o J Z ⟨⟨v,s,C,D,A,n,g,z,u,a,rfl⟩,az,a7⟩ ab y;refine ⟨v,s,C,D,A,n,g,z,u,a,?_⟩;have b9:=a.at_.set_places m;have W:=y.far (p:=⟨gp,4,none⟩) (fun d=>by have bw:w.heap.size=gp:=d;omega) (.int .i64 (m:Int));have bm:∀q,s.ownBlock=some q->q≠w.heap.size:=fun q N d=>by subst d;obtain ⟨bv,bb⟩:=eI a.at_.lrow N;exact absurd (aL bb y).1 dC
  have b6:∀e,e∈n->aC g e<=1000000000000/\aJ g e<=1000000000000:=fun e X=>by have:=a7 (aC g e,aJ g e) (zAy.2 ⟨e,X,rfl⟩);have am:aC g e < R:=this.1;have b5:aJ g e < M:=this.2;omega
  have bi:=gG a.nd a.at_.lt;refine (xY b9 a.nd (by have:=a.sz;omega) W bm b6).mono ?_;rintro d K ⟨rfl,bh,aK,ax,bd,ba⟩;refine ⟨rfl,⟨⟨v,s,C,D,A,n,aK,z,u,⟨ba,a.fp,a.fa,a.fl,a.fo,a.ft,a.ff,a.nd,by rw [ax];exact a.tkl,a.tkk,a.frn,a.frk,by rw [ax];exact a.sz⟩,(aAT (f:=fun b=>(b.1,aU b.2 c)) bd).symm⟩,List.pairwise_map.2 (az.imp fun {bu q} b8=>b8),fun b bp=>?_⟩,?_⟩
  · obtain ⟨i,I,rfl⟩:=zAy.1 bp;have am:=a7 i I;have b5:=((Z i).1 I).2;have bx:=aQ.out;refine ⟨am.1,?_⟩;show aU i.2 c < m;unfold aU;split <;> omega
  · refine ab.trans' ((Keep.setCell (F:=Gw j w.heap.size) (Keep.refl _ _) (p:=⟨gp,4,none⟩) (.inl a.fp) _).trans (bh.mono fun q _ N=>a.fl q N)) fun q N t=>by rcases t with al | al;exact al;omega
 have ah:=lhd ay;clear ay;refine a9.mono ?_;rintro d o ⟨x,⟨rfl,ac⟩|⟨E,b,rfl,ad,aD⟩⟩
 · have y:Bk o w.heap.size 3 #[(c:Int)]:=(af.out.drewN nq).below x (by have:=a4.out;simp;omega);have Y:Keep j w o:=(Keep.of_below (below_drewN ae.out nq)).trans (Keep.of_below x);have H:=(Q.below x).mono (G:=Gw j w.heap.size) fun q _ t=>.inl t;obtain ⟨v,s,C,D,A,n,g,z,u,a,V⟩:=ah.out o pr (fun b=>⟨fun k=>⟨k,ac b k⟩,fun k=>k.1⟩) H Y y;have b2:o.cell? ⟨gp,4,none⟩=some (.int .i64 (M:Int)):=(a.at_.blk.cell 4).trans rfl;have b4:=a.at_.blk.frozen 4;have bf:=a.at_.blk.lt;have bt:o.cell? w.heap.size=some (.int .i64 (c:Int)):=(y.cell 0).trans rfl;obtain ⟨a3,b0⟩:=hqq2 V ac;clear V ac a H Y y x Q a9 aF aI aH;go_wp2_with fail;refine a3.out.mono ?_;rintro d K ⟨rfl,S,O⟩;obtain ⟨aN,aX⟩:=hqq2 S O;clear S O;go_wp2_with fail;go_ret;exact ⟨rfl,⟨pr,fun b=>⟨fun k=>⟨k,b0.out b k⟩,fun k=>k.1⟩,aN.out⟩,aX.out⟩
 · have y:Bk o w.heap.size 3 #[(c:Int)]:=(af.out.drewN nq).below x (by have:=a4.out;simp;omega);have H:=Q.below x;have aa:=(zAc.1 ad).1;have au:=sA E H aa;have b1:=lhd H.2.1;have aW:=lhd (fun i (I:i∈pr) b (a:b∈pr) (d:i.1=b.1)=>H.inj I a d);have bC:decide ((E:Int)>=0)=true:=(by simp);have bl:=x.size;obtain ⟨ag,ai,aS,aT⟩:=hqq4 ad aD x y;clear ad aD y x H Q a9 aF aI aH;go_wp2_with fail;refine au.mono ?_;rintro d K ⟨rfl,S,O⟩;have W:Bk K w.heap.size 3 #[(c:Int)]:=O.bk aT.out fun d=>by have:=aP.out _ d;omega
   have Y:Keep j w K:=((Keep.of_below (below_drewN ae.out nq)).trans (Keep.of_below aS.out)).trans O;have Z:∀i,i∈aG pr E↔i∈pr/\i.2≠c:=fun i=>by
    rw [aFe b1.out aa];have bc:pr[E]=b:=(by have an:=ag.out;rw [zAa aa] at an;injection an);rw [bc];have aB:b∈pr:=zAd ag.out;refine and_congr_right fun I=>not_congr ⟨fun d=>?_,fun d=>?_⟩;rw [aW.out i I b aB d];exact ai.out
    · rw [aV.out i I b aB (by rw [d,ai.out])]
   have ap:=S.mono (G:=Gw j w.heap.size) fun q _ t=>by rcases t with t | t;exact .inl t;exact .inr (by have:=a4.out;simp at bl;omega)
   obtain ⟨v,s,C,D,A,n,g,z,u,a,V⟩:=ah.out K (aG pr E) Z ap Y W;have b2:K.cell? ⟨gp,4,none⟩=some (.int .i64 (M:Int)):=(a.at_.blk.cell 4).trans rfl;have b4:=a.at_.blk.frozen 4;have bf:=a.at_.blk.lt;have bt:K.cell? w.heap.size=some (.int .i64 (c:Int)):=(W.cell 0).trans rfl;obtain ⟨a3,aZ⟩:=hqq2 V Z;clear V Z a ap S Y W O au;go_wp2_with fail;refine a3.out.mono ?_;rintro d bF ⟨rfl,aq,aw⟩;obtain ⟨aO,aY⟩:=hqq2 aq aw;clear aq aw;go_wp2_with fail;go_ret;exact ⟨rfl,⟨_,aZ.out,aO.out⟩,aY.out⟩
end
end Go.Proofs.YtcoooelofcejbaaGreatDoor
