/- Lemmas of the walk. Conditions: each its own. -/
import Derived.Test.YtcoooelofcejbaaGreatDoorPd14
import Derived.Test.YtcoooelofcejbaaGreatDoorProg
import Derived.Test.YtcoooelofcejbaaGreatDoorShl
set_option linter.all false
set_option maxRecDepth 100000
set_option maxHeartbeats 4000000
open Go.Proofs.Tryz
namespace Go.Proofs.YtcoooelofcejbaaGreatDoor
section
open Go.RowKit
noncomputable def ltP (a:List Nat) (b c:Nat):Bool:=@decide (sufLt a c b) (Classical.propDecidable _)
def qX (a:List Nat) (b c:Nat):ltP a b c=true↔sufLt a c b:=by
 unfold ltP;exact @decide_eq_true_iff _ (Classical.propDecidable _)
def zY {b a:List Nat} (g:IsSuf b a) {i:Nat} (k:i < a.length):a.countP (ltP b a[i])=i:=by
 have n:(a.take i).countP (ltP b a[i])=i:=by rw [List.countP_eq_length.2 fun m f=>?_];rw [zAj];omega;obtain ⟨d,e,rfl⟩:=zBo.1 f;rw [zAj] at e;rw [List.getElem_take,qX];exact zAr.1 g.sorted d i oM k oM
 have o:(a.drop i).countP (ltP b a[i])=0:=List.countP_eq_zero.2 fun m f c=>by obtain ⟨d,e,rfl⟩:=zBo.1 f;rw [zAw] at e;rw [List.getElem_drop,qX] at c;rcases zBa d with j | j;subst j;exact sufLt.asymm c c;exact sufLt.asymm c (zAr.1 g.sorted i (i+d) k oM oM)
 have l:a.countP (ltP b a[i])=(a.take i++a.drop i).countP (ltP b a[i]):=congrArg (List.countP _) (zAu i a).symm;rw [l,List.countP_append];omega
def aBR {a d:List Nat} (e:IsSuf a d) (b:Nat->Bool) (k:∀g j,sufLt a g j->b j=true->b g=true) (f:Nat):((aD a d).take (d.countP b)).count f=(List.range a.length).countP (fun c=>decide (bE a c=f)&&b c):=by
 rw [aD,<-List.map_take,sT e.sorted k,<-e.count,List.count_eq_countP,List.countP_map,List.countP_filter];refine List.countP_congr fun c _=>?_;simp [Function.comp,and_comm]
def lf {a e:List Nat} {g:Nat} (f:IsSuf a e) (n:EndOk a g) {i o b:Nat} (q:i < e.length) (y:o < e.length) (x:e[i]=b+1) (z:e[o]=b):cB (aD a e) (a.getD b 0) i=o:=by
 have j:=n.len;have A:b < g:=by have:=f.lt (zBj q);omega
 have B:=n.pos b A;obtain ⟨d,r⟩:=eqx (a.getD b 0);rw [r] at B⊢;have p:=zY f q;have m:=zY f y;rw [x] at p;rw [z] at m;have s:=aBR f (ltP a (b+1)) (fun c F C u=>by rw [qX] at u⊢;exact C.trans u) d;rw [p] at s;rw [f.count] at m;unfold cB;rw [s];have v:(aD a e).countP (fun c=>decide (c < d))=(List.range (g+1)).countP (fun b=>decide (a.getD b 0 < d)):=by
  rw [aD,List.countP_map,f.count,j];refine fQ _ _ ?_ fun b D=>?_
  · show decide (bE a 0 < d)=_;rw [bI oM,j,zBb]
  · show decide (bE a (b+1) < d)=_;rw [aT oM]
 have w:(List.range a.length).countP (fun c=>decide (bE a c=d)&&ltP a (b+1) c)=(List.range (g+1)).countP (fun c=>decide (a.getD c 0=d)&&ltP a (b+1) (c+1)):=by
  rw [j];refine fQ _ _ ?_ fun c t=>?_;show (decide (bE a 0=d)&&_)=(decide (a.getD g 0=d)&&_);rw [bI oM,j,zBb,n.last];have:decide (0=d)=false:=(by simp;omega);rw [this];rfl
  · show (decide (bE a (c+1)=d)&&_)=_;rw [aT oM]
 rw [v,w,<-tF,<-m,j];refine List.countP_congr fun c t=>?_;have E:c < g+1:=(by simpa using t);rw [qX,pE,eJ (by omega:c < a.length),eJ (by omega:b < a.length),r];simp only [Bool.or_eq_true,zBd,zCa,qX];constructor;rintro (k |⟨k,l⟩);exact .inl oM;exact .inr ⟨by omega,l⟩;rintro (k |⟨k,l⟩);exact .inl oM;exact .inr ⟨by omega,l⟩;intro c _;simp only [zBd,zCa];rintro ⟨k,l,_⟩;omega
def rB {a c:List Nat} {d:Nat} (e:EndOk a d) {i b:Nat} (f:i < c.length) (g:c[i]=b+1) (k:b < d):(aD a c)[i]'(by rw [bF];exact f)=a.getD b 0:=by
 have j:=e.len;unfold aD;rw [List.getElem_map,g,aT oM]
def IsSuf.row {d b:List Nat} (f:IsSuf d b) {p:Nat} (g:p < d.length):∃a,∃c:a < b.length,b[a]=p:=by
 obtain ⟨a,c,e⟩:=zBo.1 (f.mem g);exact ⟨a,c,e⟩
def aBh {L:List Nat} {k:Nat} (a:Nat) (c:k < L.length):(aI L a (aW L[k] a))[fB L k L[k] a]?=some (fR L[k] a):=by
 unfold aI fB;have b:L=L.take k++L[k]::L.drop (k+1):=by rw [<-zAx c,zAu]
 generalize d:L[k]=s at b⊢;generalize L.take k=A at b⊢;rw [b,List.filter_append,List.filter_cons,zBx (by simp),zAz,List.countP_eq_length_filter,zAo (by simp)];simp
def aIU {e gk b:Nat} (y z:Int) {n:Value} {d:List Bool} {c:Nat} {a:World} (q:TreeAt a e d) (k:Bk a gk 3 #[(c:Int)]) (l:Bk a b 4 #[n]) (p:c < d.length):
 Calls prog 208 #[.agg #[e,.int .i64 y,.int .i64 z],gk,b] a fun o A=>o=.returned (.tuple #[])/\
  ∃w1,VisK (fun g=>g=e) a w1/\Bk w1 b 4 #[n]/\A=w1.setCell b (.bool (d.getD c false)):=by
 have C:a.cell? gk=some (.int .i64 (c:Int)):=(k.cell 0).trans rfl;have F:=k.lt;have G:=l.lt;obtain ⟨B,j⟩:=eqx (d.getD c false);rw [j];obtain ⟨t,x,v,u⟩:=hqq4 j q l p;clear q k l j p;go_enter func208,ntmps208;go_wp2_with fail;refine (aCS (x.out.below (bR.alloc nL _)) u.out).mono ?_;rintro o w1 ⟨rfl,r⟩;rw [t.out];have m:VisK (fun g=>g=e) a w1:=(VisK.of_below (bR.alloc nL _)).trans r;have f:=m.1.bk v.out dC dC;have D:w1.cell? b=some n:=(f.cell 0).trans rfl;have E:=f.frozen 0;obtain ⟨s,w⟩:=hqq2 m f;clear r m f;go_wp2_with fail;go_end0;exact ⟨rfl,w1,s.out,w.out,rfl⟩
def aAr {o m r a:Nat} {D l:Array Value} {S:Nat->Value} {A a1 z d:Int} {j:Nat->Prop} {τ:TypeId} {K g:Value} {L:List Bool} {w0 b:World} (U:∀l b,(callFunc o l).run prog b=.ok (.enter o l) b) (H:Bk b m 206 (wcells S A a1)) (X:TreeAt w0 r L) (Y:Vis w0 b) (V:w0.heap.size<=a) (G:Bk b a τ #[K]) (O:j m) (P:j a)
 (T:∀c,Below b.heap.size b c->Calls prog o l c fun f k=>f=.returned (.tuple #[])/\∃w1,VisK j c w1/\Bk w1 a τ #[K]/\k=w1.setCell a g) (J:τ≠206:=by first | decide)
 (Q:#[.agg #[r,.int .i64 z,.int .i64 d]]++D=l:=by simp):
 Calls prog 207 #[m,.agg #[r,.int .i64 z,.int .i64 d],.func (.func o) #[] D] b fun f k=>f=.returned (.tuple #[])/\
  VisF (fun e=>e=a) b k/\Keep j b k/\Bk k a τ #[g]:=by
 have u:=(Below.refl b.heap.size b).alloc nL (.cells #[r,.int .i64 z,.int .i64 d] 211);have a2:=G.lt;refine (sD (S:=S) (n:=A) (q:=fun c B C=>VisF (fun e=>e=a) b c/\Keep j b c/\Bk c a τ #[g]) U ((T _ u).mono ?_) Q).mono ?_
 rotate_left
 rintro f k ⟨rfl,c,B,C,⟨M,t,E⟩,I,v,s⟩;exact ⟨rfl,VisF.trans M (VisF.of_vis (Vis.of_wave v I s)),t.trans (v.mono fun e _ (f:e=m)=>by rw [f];exact O),v.bk E (show a≠m from Bk.ne E I J)⟩;rintro f a3 ⟨rfl,w1,x,W,rfl⟩;have y:=(Vis.of_below u).trans x.1;obtain ⟨B,a0⟩:=y.waveC H;have s:=a0.far (p:=a) (Bk.ne G H J).symm g;have w:=X.vis ((Y.trans y).fresh (p:=a) V g);obtain ⟨C,Z⟩:=w.visits;refine ⟨rfl,B,C,⟨s,(x.1.bk (Bk.new b _ _) dC dC).far (p:=a) (show b.heap.size≠a by omega) g,w.lt,?_,Z⟩,VisF.put (F:=fun e=>e=a) (VisF.of_vis y) (p:=a) (.inl rfl) _,Keep.setCell ((Keep.of_below u).trans x.2) (p:=a) (.inl P) _,W.set 0 g⟩;rintro rfl;obtain ⟨_,t⟩:=w.blk;exact absurd (aL t s).1 dC
def aGO {gv gt gk gn:Nat} {S:Nat->Value} {n v:Int} (l m:Int) {u:Value} {bs:List Bool} {k:Nat} {w0 w:World} (t:Bk w gv 206 (wcells S n v)) (g:TreeAt w0 gt bs) (j:Vis w0 w) (r:w0.heap.size<=gn) (f:Bk w gk 3 #[(k:Int)]) (e:Bk w gn 4 #[u]) (s:k < bs.length):
 Calls prog 207 #[gv,.agg #[gt,.int .i64 l,.int .i64 m],.func (.func 208) #[] #[gk,gn]] w fun b c=>b=.returned (.tuple #[])/\
  VisF (fun a=>a=gn) w c/\Keep (fun a=>a=gv∨a=gt∨a=gn) w c/\Bk c gn 4 #[.bool (bs.getD k false)]:=
 aAr (kJ func208 kR kR) t g j r e (.inl rfl) (.inr (.inr rfl)) fun x d=>(aIU l m ((g.vis j).below d) (f.below d f.lt) (e.below d e.lt) s).mono fun b c ⟨o,w1,p,q⟩=>⟨o,w1,p.mono fun a b=>.inr (.inl b),q⟩
def aID (N:Nat) (c:TypeId) (b:Array Value):Value->World->Prop:=fun d e=>∃a,d=.pointer (some ⟨a,0,none⟩)/\Bk e a c b/\N<=a
def aIC {d:Nat} {b:Nat->Prop} (N:Nat) (a:TypeId) (k:Array Value) (l:a≠266) (m:a≠206) (n:∀j,¬b j):aGz (VFB d b) (aID N a k):=fun _ _ _ ⟨c,e,f,g⟩ o=>⟨c,e,o.1.bk f l m (n c),g⟩
def WaveS.cells {d:World} {f:Nat} {own:Nat->Nat} {a:Nat} {S:Nat->Value} {g:Nat->List Nat} {b c:Int} (e:WaveS d f own a S g b c):(∀i,i < 9->d.cell? ⟨a,i,none⟩=some (S i))/\d.cell? ⟨a,9,none⟩=some (.int .i64 b)/\d.cell? ⟨a,10,none⟩=some (.int .i64 c):=by
 obtain ⟨m,n,o,p,q,r,s,t,u,k,j⟩:=bV S b c;exact ⟨fun i l=>(e.blk.cell i).trans (sS S b c l),(e.blk.cell 9).trans k,(e.blk.cell 10).trans j⟩
def aDr {S:Nat->Value} {b c d:Int} (e:wcells S b c=wcells S b d):c=d:=by
 have a:=(bV S b c).2.2.2.2.2.2.2.2.2.2;rw [e,(bV S b d).2.2.2.2.2.2.2.2.2.2] at a;injection a with a;injection a with _ a;exact a.symm
def WaveS.vis_eq {g c:World} {d:Nat} {own:Nat->Nat} {a:Nat} {S:Nat->Value} {e:Nat->List Nat} {b n v':Int} (k:WaveS g d own a S e b n) (m:Vis g c) (l:Bk c a 206 (wcells S b v')):WaveS c d own a S e b v':=by
 obtain ⟨o,f⟩:=k.vis m;have j:=aDr (aL f.blk l).2;subst j;exact f
def WaveS.below {b j:World} {B:Nat} {own:Nat->Nat} {d:Nat} {S:Nat->Value} {c:Nat->List Nat} {f g:Int} (a:WaveS b B own d S c f g) (e:Below b.heap.size b j):WaveS j B own d S c f g:=a.vis_eq (Vis.of_below e) (a.blk.below e a.blk.lt)
def xC {a8 j:Nat} {own:Nat->Nat} {q:List Nat} {o m:Nat} {l:World} (y:WaveE l a8 own j q) (ah:m < 257) (ay:o<=q.length) (aO:∀V∈q,V < 257) (c6:q.length<=127):
 Calls prog 220 #[j,(o:Int),(m:Int)] l fun t bc=>t=.returned (.int .i64 0)/\∃bb,WaveE bc a8 bb j (aP q o m)/\(∀a,a < l.heap.size->bb a=own a)/\(∀a,l.heap.size<=a->bb a≠1)/\Keep (fun a=>a=j∨16<=own a) l bc:=by
 have bD:=lE (L:=q) (k:=o) (s0:=m) ay aO ah;obtain ⟨S,dg,y⟩:=y;obtain ⟨x,aC⟩:=eqx q.length;rw [aC] at y ay c6;have c0:(aP q o m).length=x+1:=by rw [fJ _ _ oM,aC]
 obtain ⟨cR,cQ,cI⟩:=y.cells;have cT:=y.blk.frozen 10;have d4:=y.blk.lt;have dX:a8<=l.heap.size:=zAk y.base.1 (zCm d4);have ac:=y.vis_eq (v':=0) ((VisK.alloc (VB.set_wave y.blk y.base.1 0) (.cells #[(o:Int)] 3)).1) (by have:=(y.blk.set 10 (.int .i64 0)).alloc (.cells #[(o:Int)] 3);rw [dS] at this;exact this);have d0:j≠l.heap.size:=oM;have a3:=Bk.new (l.setCell ⟨j,10,none⟩ (.int .i64 0)) 3 #[(o:Int)];rw [show (l.setCell ⟨j,10,none⟩ (.int .i64 0)).heap.size=l.heap.size by simp [World.setCell]] at a3;have b1:Keep (fun a=>a=j∨16<=own a) l ((l.setCell ⟨j,10,none⟩ (.int .i64 0)).alloc (.cells #[(o:Int)] 3)):=(Keep.setCell (F:=fun a=>a=j∨16<=own a) (Keep.refl _ _) (p:=⟨j,10,none⟩) (.inl (.inl rfl)) _).alloc _;obtain ⟨I,aQ⟩:=eqx ((l.setCell ⟨j,10,none⟩ (.int .i64 0)).alloc (.cells #[(o:Int)] 3));rw [aQ] at ac a3 b1;obtain ⟨O,bt,cJ⟩:=ac.cells;have cH:∀c,(I.drewN c).cell? j=some (S 0):=fun c=>O 0 oM;have X:∀c,(I.drewN c).cell? ⟨j,1,none⟩=some (S 1):=fun c=>O 1 oM;have ao:∀c,(I.drewN c).cell? ⟨j,2,none⟩=some (S 2):=fun c=>O 2 oM;have cK:∀c,(I.drewN c).cell? ⟨j,3,none⟩=some (S 3):=fun c=>O 3 oM;have cL:∀c,(I.drewN c).cell? ⟨j,4,none⟩=some (S 4):=fun c=>O 4 oM;have cM:∀c,(I.drewN c).cell? ⟨j,5,none⟩=some (S 5):=fun c=>O 5 oM;have cN:∀c,(I.drewN c).cell? ⟨j,6,none⟩=some (S 6):=fun c=>O 6 oM;have cO:∀c,(I.drewN c).cell? ⟨j,7,none⟩=some (S 7):=fun c=>O 7 oM;have cP:∀c,(I.drewN c).cell? ⟨j,8,none⟩=some (S 8):=fun c=>O 8 oM;have bu:I.cell? ⟨j,9,none⟩=some (.int .i64 (x:Int)):=bt;have bv:I.cell? l.heap.size=some (.int .i64 (o:Int)):=(a3.cell 0).trans rfl;have d2:decide ((o:Int) < 0)=false:=by simp
 have e8:¬x < o:=oM;have e9:¬((o:Int) > (x:Int)):=oM;have bI:=ac.blk.lt;have aR:=a3.lt;obtain ⟨be,bj,bn,cf,du,cj,cv,bf,dw⟩:=hqq9 ac a3 b1 bD aO aC c0 aQ ay;obtain ⟨dv,bP⟩:=hqq2 y.base y.bnd;clear y ac a3 b1 bD aO aC c0 aQ cR O bt cJ ay;go_enter func220,ntmps220;go_wp2_with fail;rw [bf.out];clear cI cT cQ;refine (eP (s:=m) _ ah).mono ?_;rintro t w1 ⟨rfl,a1⟩;have ap:w1.cell? ⟨j,9,none⟩=some (.int .i64 (x:Int)):=(a1.cell (p:=⟨j,9,none⟩) bI).trans bu;have bw:w1.cell? l.heap.size=some (.int .i64 (o:Int)):=(a1.cell (p:=l.heap.size) aR).trans bv;have C:=be.out.below a1;have b0:=bj.out.below a1 aR;have c1:Keep (fun a=>a=j∨16<=own a) l w1:=bn.out.trans (Keep.of_below a1);have dF:∀c,(w1.drewN c).cell? j=some (S 0):=fun c=>C.cells.1 0 oM;have cS:∀c,(w1.drewN c).cell? ⟨j,1,none⟩=some (S 1):=fun c=>C.cells.1 1 oM;have dG:∀c,(w1.drewN c).cell? ⟨j,2,none⟩=some (S 2):=fun c=>C.cells.1 2 oM;have dH:∀c,(w1.drewN c).cell? ⟨j,3,none⟩=some (S 3):=fun c=>C.cells.1 3 oM;have dK:∀c,(w1.drewN c).cell? ⟨j,4,none⟩=some (S 4):=fun c=>C.cells.1 4 oM;have dQ:∀c,(w1.drewN c).cell? ⟨j,5,none⟩=some (S 5):=fun c=>C.cells.1 5 oM;have dR:∀c,(w1.drewN c).cell? ⟨j,6,none⟩=some (S 6):=fun c=>C.cells.1 6 oM;have dT:∀c,(w1.drewN c).cell? ⟨j,7,none⟩=some (S 7):=fun c=>C.cells.1 7 oM;have dU:∀c,(w1.drewN c).cell? ⟨j,8,none⟩=some (S 8):=fun c=>C.cells.1 8 oM;have e6:=C.blk.lt;have e1:=b0.lt;have dD:∀c,(w1.drewN c).cell? ⟨j,9,none⟩=some (.int .i64 (x:Int)):=fun c=>ap;have dE:∀c,(w1.drewN c).cell? l.heap.size=some (.int .i64 (o:Int)):=fun c=>bw;obtain ⟨ch,ct,cw⟩:=hqq3 C b0 c1;clear C b0 c1 a1 be bj bn cH X ao cK cL cM cN cO cP bu bv bI aR bf;go_wp2_with fail;go_quiet (fail);clear ap bw d2;go_wp2_with fail;go_loopw [35] (fun i wr=>∃(d:Nat) (B:Nat->Nat) (ak:Int),d<=9/\i=.int .i64 d/\WaveS wr a8 B j S (fun K=>if K < d then aP q o m else q) (x:Int) ak/\Bk wr l.heap.size 3 #[.int .i64 ((fB q o m d:Nat):Int)]/\(∀a,a < l.heap.size->B a=own a)/\(∀a,l.heap.size<=a->B a≠1)/\B l.heap.size=0/\Keep (fun a=>a=j∨16<=own a) l wr) (fun i _=>9 -(intOf i).toNat)
 case atStart=>refine ⟨0,own,0,by omega,rfl,?_,?_,fun _ _=>rfl,fun a T t=>?_,?_,?_⟩;have ar:=fun c=>ch.out.below (below_drewN (Below.refl w1.heap.size w1) c);simpa using ar _;rw [cf.out];exact ct.out.drewN _;have:=(bP.out a oM).2;omega;rcases zBa (own l.heap.size) with t | t;exact t;have:=(bP.out l.heap.size oM).2;omega;exact cw.out.drewN _
 case round=>
  obtain ⟨d,B,ak,ea,rfl,Y,av,aD,aF,b2,az⟩:=hrel;by_cases a5:d < 9
  · have d1:=ix9 (lv:=d) S a5;obtain ⟨G,a6,d6,b7⟩:=Y.rows d a5;obtain ⟨aj,aA⟩:=eqx (2 ^ d);obtain ⟨e,U⟩:=eqx (aW m d);have b3:e < aj:=(by rw [<-aA,<-U];exact lP (s:=m) d ah oM);have d7:e < 2 ^ d:=(by rw [aA];exact b3);have cY:=lhd a6;rw [aA] at a6 b7;obtain ⟨a0,ab,bG,eb,e5⟩:=World.ownsRow.form a6 oM;rw [bG] at d1 a6;obtain ⟨V,ai⟩:=eqx (fB q o m d);obtain ⟨E,a7⟩:=eqx (fB q o m (d+1));obtain ⟨a,au⟩:=eqx (fR m d);have b9:=lF (lv:=d) q o m a5;have b8:=aFn q o m d;have aU:=aEq q o m d;have aY:=yL q o m d;have aX:(aI q d (aW m d)).length<=127:=(by rw [jG];exact zAk zBh (by rw [cj.out];exact c6));rw [U,ai,au,a7] at b9;rw [U,ai] at b8;rw [U,ai,au] at aU;rw [U] at aX aY;rw [ai] at av;have c9:TreeE wr (fun a=>B a=TC d e) (G e) (aI q d e):=(by have:=b7 e b3;rw [zBw oM] at this;exact this);have ec:(e:Int) < (aj:Int):=oM;obtain ⟨cA,bq,cF,an,cm,cp,co,cB,cl⟩:=hqq9 a6 c9 b9 b8 aU aY aX U au;obtain ⟨cG,am,aJ,aa,aK,bp,bo⟩:=hqq7 a7 Y av aD aF b2 az;clear a6 b7 bG aA U ai a7 au b9 b8 aU aY aX Y av aD aF b2 az c9 d6;go_wp2_with fail;refine wp_region_any kR ?_;refine bQ (pre:=(fun _=>True)) (pJ:=(is (.bool a))) wr.heap.size 11 [39,40,41,42,43,44,45,46,47,9,10] (fun _=>False) 8 [] [is (.slice (some a0) aj ab),is (m:Int),is (d:Int),is (e:Int),is (.pointer (some ⟨a0,e*3,none⟩)),is (.agg #[.pointer (some ⟨G e,0,none⟩),(d:Int),(e:Int)]),is (m:Int),is (d:Int),dJ,aID wr.heap.size 211 #[.pointer none,.int .i64 0,.int .i64 0],aID wr.heap.size 4 #[.bool false]] _ rfl dC kR kR kR (trivial) (fun _ _ _ _ _=>trivial) (gW _ _) (by repeat' (first | exact gW _ _ | exact iZ _ | exact aIC _ _ _ dC dC (fun _ g=>g)|(refine zAe.2 ⟨?_,?_⟩)|(intro e U;cases U))) ?_ ?_
    · refine bH ?_;refine pH3 8 (.slice (some a0) aj ab) ?_;refine pH3 2 (.int .i64 (m:Int)) ?_;refine pH3 7 (.int .i64 (d:Int)) ?_;refine sC3 (fun _ D _ _ _ _ _ A _ _ _ z=>?_) ?_
      · have dL:_=_:=A 1 40 kR rfl;have dM:_=_:=A 2 41 kR rfl;go_simp;refine (kE (s:=m) d D ah oM).mono ?_;rintro t di ⟨rfl,aT⟩;rw [cB.out];exact z _ _ (aE (VisK.of_below aT)) rfl
      refine pW3 0 39 3 42 ?_;refine sC3 (fun _ D u _ _ _ _ A _ _ _ z=>?_) ?_
      · replace u:VFB wr.heap.size (fun _=>False) wr D:=fD u;have dN:_=_:=A 4 43 kR rfl;have d9:=u.1.to_vis (fun _ _ g=>g);have b5:=d9.own cA.out dC dC;obtain ⟨dd,de,df⟩:=eU G d aj e b3;have dx:D.cell? ⟨a0,e*3,none⟩=_:=(World.ownsRow.cellAt b5 (e*3) oM).trans dd;have dy:D.cell? ⟨a0,e*3+1,none⟩=_:=(World.ownsRow.cellAt b5 (e*3+1) oM).trans de;have dz:D.cell? ⟨a0,e*3+2,none⟩=_:=(World.ownsRow.cellAt b5 (e*3+2) oM).trans df;go_simp;exact z _ _ (aE vR) rfl
      refine pH3 2 (.int .i64 (m:Int)) ?_;refine pH3 7 (.int .i64 (d:Int)) ?_;refine sC3 (fun _ D _ _ _ _ _ A _ _ _ z=>?_) ?_
      · have dO:_=_:=A 6 45 kR rfl;have dP:_=_:=A 7 46 kR rfl;go_simp;refine (mD (s:=m) (lv:=d) D ah oM).mono ?_;rintro t di ⟨rfl,aT⟩;rw [cl.out];exact z _ _ (aE (VisK.of_below aT)) rfl
      refine sC3 (fun _ D u _ _ _ _ _ _ _ _ z=>?_) ?_
      · replace u:VFB wr.heap.size (fun _=>False) wr D:=fD u;go_simp;exact z _ _ (aE (VisK.of_below (bR.alloc nL _))) ⟨_,rfl,Bk.new _ _ _,u.1.size⟩
      refine sC3 (fun _ D u _ _ _ _ _ _ _ _ z=>?_) ?_
      · replace u:VFB wr.heap.size (fun _=>False) wr D:=fD u;go_simp;exact z _ _ (aE (VisK.of_below (bR.alloc nL _))) ⟨_,rfl,Bk.new _ _ _,u.1.size⟩
      exact aH
    · intro aq M g u A bJ;replace u:VFB wr.heap.size (fun _=>False) wr M:=fD u;have bx:aq (.tmp 44)=.agg #[.pointer (some ⟨G e,0,none⟩),(d:Int),(e:Int)]:=A 5 44 dC rfl;have bz:aq (.tmp 47)=.bool a:=A 8 47 dC rfl;have dc:(aID wr.heap.size 211 #[.pointer none,.int .i64 0,.int .i64 0]) (aq (.tmp 9)) M:=A 9 9 dC rfl;have db:(aID wr.heap.size 4 #[.bool false]) (aq (.tmp 10)) M:=A 10 10 dC rfl;obtain ⟨dh,cc⟩:=bJ 8 dC;have cb:(is (.bool a)) dh M:=cc;clear cc bJ;simp only [zqq];rw [bx];rw [bz];clear A;obtain ⟨r,ce,P,aw⟩:=dc;obtain ⟨Q,cd,a2,bU⟩:=db;rw [ce,cd];have ca:Below wr.heap.size wr M:=u.2.to_below nL (fun a T g=>by rcases g with g | g;exact g;omega);have dr:M.cell? r=some (.pointer none):=(P.cell 0).trans rfl;have ds:M.cell? ⟨r,1,none⟩=some (.int .i64 0):=(P.cell 1).trans rfl;have dt:M.cell? ⟨r,2,none⟩=some (.int .i64 0):=(P.cell 2).trans rfl;have cV:=P.frozen 0;have cW:=P.frozen 1;have cX:=P.frozen 2;have bd:M.cell? Q=some (.bool false):=(a2.cell 0).trans rfl;have cU:=a2.frozen 0;have aB:r≠Q:=Bk.ne P a2 dC;have a5:=P.lt;have d3:=a2.lt;obtain ⟨bi,bg,br⟩:=hqq3 P a2 ca;clear P a2 ca u cb bx bz ce cd;change wpAny prog Region.Mode.any _ _ (2+g) (bX 11 13) _ M;rw [show 2+g=g+1+1 by omega];refine bL (f:=g+1) (i:=11) kR ?_;refine bY rfl rfl ?_;generalize z:wpAny prog _ _ _ (g+1) _=K5;go_simp;subst z;refine bL (f:=g) (i:=12) kR ?_;refine bY rfl rfl ?_;generalize z:wpAny prog _ _ _ g _=K5;go_simp;subst z;refine bO kR ?_;obtain ⟨J,ae⟩:=eqx (((((M.setCell r (.pointer (some ⟨G e,0,none⟩))).setCell ⟨r,1,none⟩ (.int .i64 (d:Int))).setCell ⟨r,2,none⟩ (.int .i64 (e:Int))).setCell Q (.bool a)));have bM:Bk J r 211 #[.pointer (some ⟨G e,0,none⟩),(d:Int),(e:Int)]:=(by rw [<-ae];exact (((bi.out.set 0 _).set 1 _).set 2 _).far (p:=Q) aB _);have bK:Bk J Q 4 #[.bool a]:=(by rw [<-ae];exact (((bg.out.far (p:=r) (fun t=>aB t.symm) _).far (p:=⟨r,1,none⟩) (fun t=>aB t.symm) _).far (p:=⟨r,2,none⟩) (fun t=>aB t.symm) _).set 0 _);have c2:Keep (fun _=>False) wr J:=(by rw [<-ae];exact Keep.setCell (F:=fun _=>False) (Keep.setCell (F:=fun _=>False) (Keep.setCell (F:=fun _=>False) (Keep.setCell (F:=fun _=>False) (Keep.of_below br.out) (p:=r) (.inr aw) _) (p:=⟨r,1,none⟩) (.inr aw) _) (p:=⟨r,2,none⟩) (.inr aw) _) (p:=Q) (.inr bU) _);rw [ae];have bN:Below wr.heap.size wr J:=c2.to_below nL (fun _ _ g=>g);obtain ⟨a9,bh,Z⟩:=hqq3 bM bK bN;clear bM bK c2 bN ae dr ds dt cV cW cX bd cU bi bg br a5 d3;have bC:=am.out.below Z.out;have bW:=aJ.out.below Z.out aJ.out.lt;have c7:=bq.out.below Z.out;have bZ:=am.out.base.2;have bS:=am.out.bnd;have ee:=Z.out.size;have e4:=aJ.out.lt;have dj:J.cell? r=some (.pointer (some ⟨G e,0,none⟩)):=(a9.out.cell 0).trans rfl;have dk:J.cell? ⟨r,1,none⟩=some (.int .i64 (d:Int)):=(a9.out.cell 1).trans rfl;have dl:J.cell? ⟨r,2,none⟩=some (.int .i64 (e:Int)):=(a9.out.cell 2).trans rfl;have dZ:=a9.out.lt;have d5:∀(bA:Fn) (first ab:Array Value) (l:World),(Instr.makeFunc bA first ab).run prog l=.ok (.func bA first ab) l:=fun _ _ _ _=>rfl;obtain ⟨al,bl,cD,bm,cq⟩:=hqq5 bC bW c7 bZ bS;clear bC bW c7 bZ bS;go_wp2_with fail;refine (aGN (gv:=j) (gt:=(G e)) (gk:=l.heap.size) (gb:=Q) (S:=S) (n:=x) (v:=ak) (F:=(fun a=>B a=TC d e)) (bs:=(aI q d e)) (k:=V) (b:=a) (w:=J) d e al.out.blk cD.out (fun g=>by rw [bm.out] at g;unfold TC at g;omega) (fun E a7=>(al.out.bnd E (by rw [a7];unfold TC;omega)).2) bl.out bh.out co.out an.out).mono ?_;rintro t W ⟨rfl,b6,a4,dB,aV⟩;have aZ:=al.out.edit (lv:=d) (p:=e) (gx:=j) a5 d7 (aM cY.out Z.out) (by rw [bm.out];omega) (fun dA cZ=>absurd (aL cZ al.out.blk).1 dC) b6 (a4.mono fun E _ g=>by rcases g with g | g;exact .inl g;exact .inr (.inl g)) aV (L':=aP q o m) cm.out (fun c d8=>by rw [zBw (zCl _)];exact cp.out c (fun t=>d8 t.symm));have bT:(fun K=>if K=d then aP q o m else if K < d then aP q o m else q)=fun K=>if K < d+1 then aP q o m else q:=by
       funext K;by_cases X:K=d
       · rw [zBx X,zBx oM]
       · by_cases ao:K < d
         · rw [zBw X,zBx ao,zBx oM]
         · rw [zBw X,zBw ao,zBw oM]
      rw [bT] at aZ;have ba:∀E,wr.heap.size<=E->¬(B E=TC d e∨E=j):=fun E a7 g=>by rcases g with g | g;have:=(cq.out E (by rw [g];unfold TC;omega)).2;omega;have:=am.out.blk.lt;omega
      have ax:=a4.bk bl.out (fun g=>by
       rcases g with g | g;rw [bp.out] at g;unfold TC at g;omega
       · exact d0 g.symm)
      have af:=a4.bk a9.out (ba r aw);have aS:=a4.bk bh.out (ba Q bU);have bd:W.cell? r=some (.pointer (some ⟨G e,0,none⟩)):=(af.cell 0).trans rfl;have dm:W.cell? ⟨r,1,none⟩=some (.int .i64 (d:Int)):=(af.cell 1).trans rfl;have dn:W.cell? ⟨r,2,none⟩=some (.int .i64 (e:Int)):=(af.cell 2).trans rfl;have dq:W.cell? l.heap.size=some (.int .i64 (V:Int)):=(ax.cell 0).trans rfl;have dp:W.cell? Q=some (.bool a):=(aS.cell 0).trans rfl;have e0:=af.lt;have dY:=aS.lt;have e2:=ax.lt;have c8:=b6.at
      have bE:B (G e)=TC d e:=bq.out.fg;obtain ⟨cr,cx,cu,cE,cn,ci⟩:=hqq6 aZ a4 ax c8 aV bE;have da:V<=(aP (aI q d e) V a).length:=(by rw [fJ _ _ an.out];have:=an.out;omega);clear b6 a4 aV aZ bT ba ax af aS c8 dj dk dl d5 bE;go_wp2_with fail;refine (mC (gv:=j) (gt:=(G e)) (S:=S) (n:=x) (bs:=(aP (aI q d e) V a)) (k:=V) (w:=W) d e a cn.out cE.out da).mono ?_;rintro t aN ⟨rfl,aG⟩;rw [aFx _ an.out,cF.out];obtain ⟨ap,ar⟩:=cr.out.vis aG.1;have ag:=aG.1.bk cu.out dC dC;have eg:aN.cell? l.heap.size=some (.int .i64 (V:Int)):=(ag.cell 0).trans rfl;have dW:=ag.frozen 0;have e3:=ag.lt;have bV:=ag.set 0 (.int .i64 (E:Int));have b4:dI B J.heap.size W.heap.size (TC d e) l.heap.size=0:=(by unfold dI;rw [zBx oM];exact bp.out);have bB:=ar.far (w':=aN.setCell l.heap.size (.int .i64 (E:Int))) (H:=fun a=>a=l.heap.size) (Keep.setCell (F:=fun a=>a=l.heap.size) (Keep.refl _ _) (p:=l.heap.size) (.inl rfl) _) (fun a t=>by rw [show a=l.heap.size from t,b4];omega);have ed:=bo.out.size;have c3:Keep (fun a=>a=j∨16<=own a) l (aN.setCell l.heap.size (.int .i64 (E:Int))):=Keep.setCell (F:=fun a=>a=j∨16<=own a) (((bo.out.trans (Keep.of_below Z.out)).trans' cx.out (fun a T g=>by
       rcases g with g | g;right;rw [<-aa.out a T,g];unfold TC;omega
       · exact .inl g)).trans' aG.2 (fun a T g=>by
       rcases g with g | g;exact .inl g
       · right;rw [<-aa.out a T,g,ci.out];unfold TC;omega)) (p:=l.heap.size) (.inr nL) _
      obtain ⟨cg,cs,cy,cC⟩:=hqq4 bB bV c3 b4;clear aG ar ag bV bB c3 b4 bd dm dn dq dp;go_wp2_with fail;go_roundw
      case rel=>
       refine ⟨d+1,dI B J.heap.size W.heap.size (TC d e),ap,by omega,by go_num,cg.out,?_,fun a T=>?_,fun a T=>?_,cC.out,cy.out⟩;rw [cG.out];exact cs.out;unfold dI;rw [zBx oM];exact aa.out a T
       · unfold dI;by_cases X:a < J.heap.size;rw [zBx X];exact aK.out a T
         · rw [zBw X];unfold TC;split <;> omega
      case measure=>simp [intOf];omega
  · obtain rfl:d=9:=oM;have ad:WaveS wr a8 B j S (fun _=>aP q o m) (x:Int) ak:=⟨Y.blk,Y.base,fun K c5=>by have:=Y.rows K c5;simpa [c5] using this,Y.bnd⟩;obtain ⟨_,ef,_⟩:=ad.cells;have dV:=ad.blk.frozen 9;have e7:=ad.blk.lt;have bF:=ad.set_n ((x:Int)+1);have cS:wrap64 ((x:Int)+1)=(x:Int)+1:=(by unfold wrap64;omega);have c4:Keep (fun a=>a=j∨16<=own a) l (wr.setCell ⟨j,9,none⟩ (.int .i64 ((x:Int)+1))):=Keep.setCell (F:=fun a=>a=j∨16<=own a) az (p:=⟨j,9,none⟩) (.inl (.inl rfl)) _;obtain ⟨ck,cz,aa,aK⟩:=hqq4 bF c4 aD aF;clear Y ad bF az c4 av aD aF b2;go_wp2_with fail;go_ret;refine ⟨rfl,B,⟨S,ak,?_⟩,aa.out,aK.out,cz.out⟩;rw [cv.out];exact ck.out
end
section
def inR (a b:Nat):Nat:=if b<=a then a+1 else a
def aU (a b:Nat):Nat:=if b < a then a - 1 else a
abbrev ro (R:List Nat) (a:Nat):Nat:=R.idxOf a
def bT {R:List Nat} {a:Nat} (b:a∈R):R[ro R a]?=some a:=zAc.2 ⟨List.idxOf_lt_length_iff.2 b,List.getElem_idxOf _⟩
def fF {R:List Nat} (e:R.Nodup) {a b:Nat} (d:R[a]?=some b):ro R b=a:=by
 obtain ⟨f,c⟩:=zAc.1 d;subst c;exact e.idxOf_getElem a f
def eH {R:List Nat} {b c:Nat} (e:b∈R) (f:c∈R) (d:ro R b=ro R c):b=c:=by
 have a:=bT e;rw [d,bT f] at a;injection a with a;exact a.symm
def uR {R:List Nat} (n:R.Nodup) {a t d:Nat} (g:R[a]?=some d) (u:t < R.length):
 (aP (aG R a) t d).Perm R/\ro (aP (aG R a) t d) d=t/\∀c∈R,c≠d->ro (aP (aG R a) t d) c=inR (aU (ro R c) a) t:=by
 have f:=(zAc.1 g).1;have q:=cM f;have l:(aP (aG R a) t d).Perm R:=(eO _ _ _).trans (eE g);have k:(aP (aG R a) t d).Nodup:=l.nodup_iff.2 n;refine ⟨l,?_,fun c o p=>?_⟩
 · refine fF k ?_;rw [iE _ _ oM,zBw oM,zBx rfl]
 · have b:=bT o;have s:ro R c≠a:=fun m=>by rw [m,g] at b;injection b with b;exact p b.symm
   refine fF k ?_;have r:=(zAc.1 b).1;rw [iE _ _ oM];unfold inR aU;by_cases j:a < ro R c;rw [zBx j];by_cases e:t<=ro R c - 1;rw [zBx e,zBw oM,zBw oM,dQ f,zBw oM];rw [<-b];congr 1;omega;rw [zBw e,zBx oM,dQ f,zBw oM,<-b];congr 1;omega
   · rw [zBw j];by_cases e:t<=ro R c
     · rw [zBx e,zBw oM,zBw oM,dQ f,zBx oM,<-b];congr 1
     · rw [zBw e,zBx oM,dQ f,zBx oM,<-b]
def tC (S R:List Nat) (a b:Nat):Prop:=S.getD a 0 < S.getD b 0∨(S.getD a 0=S.getD b 0/\ro R (a+1) < ro R (b+1))
structure Near (S R:List Nat) (N i:Nat):Prop where
 endk:EndOk S N
 perm:R.Perm (List.range (N+1))
 first:∀p q,p<=N->q<=N->ro R p < ro R q->S.getD p 0<=S.getD q 0
 cons:∀p q,p<=N->q<=N->p≠q->p+1≠i->q+1≠i->(ro R p < ro R q↔tC S R p q)
section
variable {S R : List Nat} {N i : Nat}
def Near.nodup (a:Near S R N i):R.Nodup:=a.perm.nodup_iff.2 List.nodup_range
def Near.mem (b:Near S R N i) {a:Nat}:a∈R↔a<=N:=by
 rw [b.perm.mem_iff,zCj];omega
def Near.len (a:Near S R N i):R.length=N+1:=by simpa using a.perm.length_eq
def aCp {S:List Nat} {a b:Nat} (k:a < S.length) (l:b < S.length) (j:S.getD a 0=S.getD b 0) (e:sufLt S (a+1) (b+1)):sufLt S a b:=by
 obtain ⟨m,d,n,f,g⟩:=e;refine ⟨m+1,d+1,by omega,fun c o=>?_,?_⟩
 · cases c with
   | zero=>
     rw [zBq,zBq,eJ k,eJ l,j]
   | succ c=>
     have:=f c oM;rw [show a+(c+1)=a+1+c by omega,show b+(c+1)=b+1+c by omega];exact this
 rw [show a+(d+1)=a+1+d by omega,show b+(d+1)=b+1+d by omega];exact g
def aE3 {S:List Nat} {a b:Nat} (c:a < S.length) (d:b < S.length) (e:S.getD a 0 < S.getD b 0):sufLt S a b:=by
 refine ⟨1,0,by omega,fun g f=>by omega,?_⟩;rw [zBq,zBq,eJ c,eJ d];omega
def Near.sorted (c:Near S R N 0):IsSuf S R:=by
 obtain ⟨r,C,k⟩:=c.endk;have B:∀e a b,N < a+e->a<=N->b<=N->a≠b->ro R a < ro R b->sufLt S a b:=by
  intro e
  induction e with
  | zero=>intro a b u o;omega
  | succ e A=>
    intro a b u o z y v;rcases (c.cons a b o z y oM oM).1 v with j |⟨j,s⟩;exact aE3 oM oM j
    · have D:a≠N:=fun d=>by subst d;have:=k b oM;omega
      have E:b≠N:=fun d=>by subst d;have:=k a oM;omega
      exact aCp oM oM j (A (a+1) (b+1) oM oM oM oM s)
 refine ⟨by rw [r];exact c.perm,?_⟩;rw [zAr];intro f g l m t;have n:=c.nodup;have w:R[f]<=N:=c.mem.1 (zBj l);have x:R[g]<=N:=c.mem.1 (zBj m);have p:ro R R[f]=f:=fF n (zAa l);have q:ro R R[g]=g:=fF n (zAa m);exact B (N+1) _ _ oM w x (fun d=>by rw [d,q] at p;omega) (by rw [p,q];exact t)
def IsSuf.near (p:IsSuf S R) (y:EndOk S N):Near S R N 0:=by
 obtain ⟨t,w,m⟩:=y;have B:R.Perm (List.range (N+1)):=by rw [<-t];exact p.perm
 have G:=p.nodup;have n:∀a,a<=N->a∈R:=fun a c=>p.mem oM;have q:∀a b,a<=N->b<=N->ro R a < ro R b->sufLt S a b:=fun a b c e j=>by have C:=(zAc.1 (bT (n a c)));have E:=(zAc.1 (bT (n b e)));obtain ⟨d,f⟩:=C;obtain ⟨l,x⟩:=E;have:=zAr.1 p.sorted _ _ d l j;rwa [f,x] at this
 have s:∀a b,a<=N->b<=N->sufLt S a b->ro R a < ro R b:=fun a b c e j=>by rcases Nat.lt_trichotomy (ro R a) (ro R b) with d | d | d;exact d;have:=eH (n a c) (n b e) d;subst this;exact (j.asymm j).elim;exact (j.asymm (q b a e c d)).elim
 have u:∀a b,a<=N->b<=N->sufLt S a b->S.getD a 0<=S.getD b 0:=fun a b c e ⟨F,g,d,f,l⟩=>by
  cases g with
  | zero=>
    rw [zBq,zBq,eJ oM,eJ oM] at l;omega
  | succ g=>
    have:=f 0 oM;rw [zBq,zBq,eJ oM,eJ oM] at this;omega
 have v:∀a b,a<=N->b<=N->a≠b->S.getD a 0=S.getD b 0->(sufLt S a b↔sufLt S (a+1) (b+1)):=fun a b c e r z=>by
  constructor
  · rintro ⟨F,g,d,f,l⟩;cases g with
    | zero=>
      rw [zBq,zBq,eJ oM,eJ oM] at l;omega
    | succ g=>
      refine ⟨g+1,g,by omega,fun o n=>?_,?_⟩;have:=f (o+1) oM;rw [show a+1+o=a+(o+1) by omega,show b+1+o=b+(o+1) by omega];exact this;rw [show a+1+g=a+(g+1) by omega,show b+1+g=b+(g+1) by omega];exact l
  exact aCp oM oM z
 refine ⟨⟨t,w,m⟩,B,fun a b c e j=>u a b c e (q a b c e j),fun a b c e r _ _=>?_⟩;unfold tC;constructor
 · intro j;have d:=q a b c e j;rcases Nat.lt_or_eq_of_le (u a b c e d) with f | f;exact .inl f
   · refine .inr ⟨f,?_⟩;have A:a≠N:=fun k=>by subst k;have:=m b oM;omega
     have D:b≠N:=fun k=>by subst k;have:=m a oM;omega
     exact s _ _ oM oM ((v a b c e r f).1 d)
 · rintro (d |⟨d,f⟩);exact s a b c e (aE3 oM oM d)
   · have A:a≠N:=fun k=>by subst k;have:=m b oM;omega
     have D:b≠N:=fun k=>by subst k;have:=m a oM;omega
     exact s a b c e ((v a b c e r d).2 (q _ _ oM oM f))
def aA1 (S R:List Nat) (N b c:Nat):Nat:=(List.range (N+1)).countP fun a=>decide (S.getD a 0 < b∨(S.getD a 0=b/\ro R (a+1) < c))
def zM {R:List Nat} (j:R.Nodup) (b:Nat) (c:Nat->Bool):(R.take b).countP c=R.countP fun a=>c a&&decide (ro R a < b):=by
 have k:R.countP (fun a=>c a&&decide (ro R a < b))=(R.take b).countP (fun a=>c a&&decide (ro R a < b))+(R.drop b).countP (fun a=>c a&&decide (ro R a < b)):=by rw [<-List.countP_append,zAu]
 have l:(R.drop b).countP (fun a=>c a&&decide (ro R a < b))=0:=by rw [List.countP_eq_zero];intro a e;obtain ⟨f,g,d⟩:=zBo.1 e;rw [List.getElem_drop] at d;have:ro R a=b+f:=fF j (by rw [<-d];exact zAa _);simp;omega
 have m:(R.take b).countP (fun a=>c a&&decide (ro R a < b))=(R.take b).countP c:=by refine List.countP_congr fun a e=>?_;obtain ⟨f,g,d⟩:=zBo.1 e;rw [zAj] at g;rw [List.getElem_take] at d;have:ro R a=f:=fF j (by rw [<-d];exact zAa _);have n:ro R a < b:=oM;simp [n]
 rw [k,l,m];rfl
def aBc {b:List Nat} {c d:Nat->Bool} (e:∀a∈b,¬(c a=true/\d a=true)):b.countP c+b.countP d=b.countP fun a=>c a||d a:=by
 induction b with
 | nil=>rfl
 | cons a b g=>
   have m:=e a (by simp);rw [zBn,zBn,zBn,<-g fun j f=>e j (by simp [f])];cases k:c a <;> cases l:d a <;> simp_all <;> omega
def qV (n:EndOk S N) (c:R.Perm (List.range (N+1))) {a:Nat} (r:0 < a) (d:Nat):cB (aD S R) a d=aA1 S R N a d:=by
 obtain ⟨e,f,q⟩:=n;have o:R.Nodup:=c.nodup_iff.2 List.nodup_range;unfold cB aA1;have g:(aD S R).countP (fun p=>decide (p < a))=(List.range (N+1)).countP fun b=>decide (S.getD b 0 < a):=by
  unfold aD;rw [List.countP_map,c.countP_eq];refine fQ _ _ ?_ fun b c=>?_;simp only [Function.comp];rw [bI oM,e];rfl
  · simp only [Function.comp];rw [aT oM]
 have j:((aD S R).take d).count a=(List.range (N+1)).countP fun b=>decide (S.getD b 0=a)&&decide (ro R (b+1) < d):=by
  unfold aD;rw [<-List.map_take,List.count_eq_countP,List.countP_map,zM o,c.countP_eq];refine fQ _ _ ?_ fun b c=>?_
  · simp only [Function.comp];rw [bI oM,e];have:(N+1 - 1)=N:=oM;rw [this,f];have m:¬(0:Nat)=a:=oM;simp [m]
  simp only [Function.comp];rw [aT oM];rfl
 rw [g,j,aBc]
 · refine List.countP_congr fun b _=>?_;simp
 intro b _ ⟨k,l⟩;simp at k l;omega
def aAS {K:Nat->Bool}:∀ {d:List Nat},d.Pairwise (fun a o=>K o=true->K a=true)->∀(c a:Nat),d[c]?=some a->(K a=true↔c < d.countP K)
 | [],_,c,a,b=>by simp at b
 | g::d,hO,c,a,b=>by
   obtain ⟨k,l⟩:=List.pairwise_cons.1 hO;cases e:K g with
   | true=>
     rw [List.countP_cons_of_pos e];cases c with
     | zero=>
       injection b with b;subst b;simp [e]
     | succ c=>
       rw [aAS l c a b];omega
   | false=>
     have j:(g::d).countP K=0:=by
        rw [List.countP_eq_zero];intro p f;rcases List.mem_cons.1 f with rfl | f
        · simp [e]
        · intro m;have:=k p f m;rw [e] at this;cases this
     rw [j];have n:a∈g::d:=zAd b;have:=(List.countP_eq_zero.1 j) a n;simp [this]
def KB (S R:List Nat) (i a:Nat):Bool:=decide (S.getD a 0 < S.getD i 0∨(S.getD a 0=S.getD i 0/\ro R (a+1) < ro R (i+1)))
def aJw (a:Near S R N (i+1)) (u:i<=N):∀b,b<=N->b≠i->(KB S R i b=true↔aU (ro R b) (ro R i) < aA1 S R N (S.getD i 0) (ro R (i+1))):=by
 intro b z I;have m:=a.nodup;have s:=bT (a.mem.2 u);have t:=bT (a.mem.2 z);have v:=(zAc.1 s).1;have e:=eE s;have U:(aG R (ro R i)).Nodup:=(List.nodup_cons.1 (e.nodup_iff.2 m)).2;have V:ro R b≠ro R i:=fun c=>I (eH (a.mem.2 z) (a.mem.2 u) c);have D:(aG R (ro R i))[aU (ro R b) (ro R i)]?=some b:=by
  unfold aU;rw [dQ v];by_cases r:ro R i < ro R b;rw [zBx r,zBw oM,<-t];congr 1;omega
  · rw [zBw r,zBx oM,<-t]
 have F:aA1 S R N (S.getD i 0) (ro R (i+1))=(aG R (ro R i)).countP (KB S R i):=by
  unfold aA1;rw [<-a.perm.countP_eq,<-e.countP_eq,zBn];have B:decide (S.getD i 0 < S.getD i 0∨(S.getD i 0=S.getD i 0/\ro R (i+1) < ro R (i+1)))=false:=by rw [decide_eq_false_iff_not];omega
  rw [B];rfl
 rw [F];refine aAS ?_ _ _ D;rw [zAr];intro n o C E T p;have j:(aG R (ro R i))[n]?=some (aG R (ro R i))[n]:=zAa C;have k:(aG R (ro R i))[o]?=some (aG R (ro R i))[o]:=zAa E;obtain ⟨f,J⟩:=eqx ((aG R (ro R i))[n]);obtain ⟨g,O⟩:=eqx ((aG R (ro R i))[o]);rw [J] at j⊢;rw [O] at k p;have y:=(List.nodup_cons.1 (e.nodup_iff.2 m)).1;have w:=zAd j;have x:=zAd k;have W:f≠i:=fun c=>y (by rw [c] at w;exact w);have X:g≠i:=fun c=>y (by rw [c] at x;exact x);have L:f∈R:=e.subset (by simp [zAd j]);have Q:g∈R:=e.subset (by simp [zAd k]);have K:=a.mem.1 L;have P:=a.mem.1 Q;have A:∀ {d q:Nat},(aG R (ro R i))[d]?=some q->ro R q=if d < ro R i then d else d+1:=fun {d q} l=>by rw [dQ v] at l;split at l;rw [zBx (by assumption)];exact fF m l;rw [zBw (by assumption)];exact fF m l
 have H:ro R f < ro R g:=by rw [A j,A k];split <;> split <;> omega
 have M:f≠g:=fun c=>by subst c;omega
 have G:=(a.cons f g K P M oM oM).1 H;unfold KB at p⊢;rw [zCa] at p⊢;unfold tC at G;omega
def tgt (S R:List Nat) (i:Nat):Nat:=cB (aD S R) (S.getD i 0) (ro R (i+1))
def aG5 (a:Near S R N (i+1)) (b:i < N):tgt S R i=aA1 S R N (S.getD i 0) (ro R (i+1)):=qV a.endk a.perm (a.endk.pos i b) _
def aG4 (c:Near S R N (i+1)) (e:i < N):tgt S R i < N+1:=by
 rw [aG5 c e];unfold aA1;have d:(List.range (N+1)).countP (fun a=>decide (S.getD a 0 < S.getD i 0∨(S.getD a 0=S.getD i 0/\ro R (a+1) < ro R (i+1))))≠(List.range (N+1)).length:=fun b=>by have:=(List.countP_eq_length.1 b) i (by simp;omega);rw [zCa] at this;omega
 have f:=zBh (p:=fun a=>decide (S.getD a 0 < S.getD i 0∨(S.getD a 0=S.getD i 0/\ro R (a+1) < ro R (i+1)))) (l:=List.range (N+1));rw [zCi] at d f;omega
def aE0 (k:Near S R N (i+1)) (I:i < N) {g:List Nat} {n:Nat} (J:n=tgt S R i) (z:g.Perm R) (F:ro g i=n) (m:∀a∈R,a≠i->ro g a=inR (aU (ro R a) (ro R i)) n) {B:Nat} (U:B=i∨(ro R i=n/\B=0)):Near S g N B:=by
 have x:=aJw k oM;rw [<-aG5 k I,<-J] at x;have l:∀a,a<=N->a∈R:=fun a d=>k.mem.2 d;have t:∀a,a<=N->a≠i->ro R a≠ro R i:=fun a d e j=>e (eH (l a d) (l i oM) j);have u:∀a b,a<=N->b<=N->a≠i->b≠i->(ro g a < ro g b↔ro R a < ro R b):=fun a b d f e c=>by rw [m a (l a d) e,m b (l b f) c];have Q:=t a d e;have T:=t b f c;unfold inR aU;split <;> split <;> split <;> split <;> omega
 have E:∀a,a<=N->a≠i->(ro g a < ro g i↔KB S R i a=true):=fun a d e=>by rw [x a d e,F,m a (l a d) e];unfold inR;split <;> omega
 have D:∀a,a<=N->a≠i->(ro g i < ro g a↔¬KB S R i a=true):=fun a d e=>by rw [x a d e,F,m a (l a d) e];unfold inR;split <;> omega
 have G:∀a,a < N->a≠i->(a+1≠i∨ro R i=n)->(ro R (a+1) < ro R (i+1)↔ro g (a+1) < ro g (i+1)):=fun a d e q=>by
  rcases q with q | q;exact (u (a+1) (i+1) oM oM q oM).symm
  · have r:∀b,b<=N->ro g b=ro R b:=fun b f=>by
        by_cases c:b=i;subst c;omega
        · rw [m b (l b f) c,q];have:=t b f c;unfold inR aU;split <;> split <;> omega
    rw [r _ oM,r _ oM]
 obtain ⟨O,P,C⟩:=k.endk;refine ⟨k.endk,z.trans k.perm,fun a b d f y=>?_,fun a b d f A X Y=>?_⟩;by_cases e:a=i;subst e;by_cases c:b=a;subst c;omega;have:=(D b f c).1 y;unfold KB at this;rw [zCa] at this;omega;by_cases c:b=i;subst c;have:=(E a d e).1 y;unfold KB at this;rw [zCa] at this;omega;exact k.first a b d f ((u a b d f e c).1 y)
 · have w:∀o p,o<=N->p<=N->o≠p->S.getD o 0=S.getD p 0->o < N/\p < N:=fun o p K L Z a0=>by refine ⟨Nat.lt_of_le_of_ne K fun j=>?_,Nat.lt_of_le_of_ne L fun j=>?_⟩;subst j;have:=C p oM;omega;subst j;have:=C o oM;omega
   by_cases e:a=i;subst e;have c:b≠a:=fun j=>A j.symm;rw [D b f c];unfold KB tC;rw [zCa];by_cases s:S.getD b 0=S.getD a 0;obtain ⟨v,H⟩:=w b a f d c s;have:=G b v c oM;have V:ro R (b+1)≠ro R (a+1):=fun j=>c (by have:=eH (l (b+1) oM) (l (a+1) oM) j;omega);have W:ro g (b+1)≠ro g (a+1):=fun j=>c (by have:=eH ((z.trans k.perm).mem_iff.2 (by simp;omega)) ((z.trans k.perm).mem_iff.2 (by simp;omega)) j;omega);omega;omega
   · by_cases c:b=i;subst c;rw [E a d e];unfold KB tC;rw [zCa];by_cases s:S.getD a 0=S.getD b 0;obtain ⟨v,H⟩:=w a b d f e s;have:=G a v e oM;omega;omega
     · rw [u a b d f e c,k.cons a b d f A oM oM];unfold tC;by_cases s:S.getD a 0=S.getD b 0
       · obtain ⟨v,H⟩:=w a b d f A s;by_cases M:ro R i=n
         · have r:∀b,b<=N->ro g b=ro R b:=fun b f=>by
            by_cases c:b=i;subst c;omega
            · rw [m b (l b f) c,M];have:=t b f c;unfold inR aU;split <;> split <;> omega
           rw [r _ oM,r _ oM]
         · rw [u (a+1) (b+1) oM oM oM oM]
       omega
end
end
end Go.Proofs.YtcoooelofcejbaaGreatDoor
