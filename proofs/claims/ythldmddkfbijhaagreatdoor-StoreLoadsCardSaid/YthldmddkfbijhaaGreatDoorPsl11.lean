/- Lemmas of the walk. Conditions: each its own. -/
import Derived.Test.YthldmddkfbijhaaGreatDoorPsl8
import Derived.Test.YthldmddkfbijhaaGreatDoorPsl9
import Derived.Test.YthldmddkfbijhaaGreatDoorProg
import Derived.Test.YthldmddkfbijhaaGreatDoorShl
set_option linter.all false
set_option maxRecDepth 100000
set_option maxHeartbeats 4000000
open Go.Proofs.Tryz
namespace Go.Proofs.YthldmddkfbijhaaGreatDoor
section
open Go.RowKit
def aDo (a:Nat) (b:World) (q:a<=2147483648):
 Calls prog 88 #[(a:Int),.slice none 0 0] b fun e k=>∃f m,e=.returned (.tuple #[.pointer (some ⟨f,0,none⟩),.int .i64 0])/\PermAt k b.heap.size f m (.slice none 0 0) (.slice none 0 0) (.slice none 0 0) (.slice none 0 0) a a [] [] [] []/\Below b.heap.size b k:=by
 have o:¬((a:Int) < 0):=oM;have p:¬((a:Int) > 2147483648):=oM;go_enter func88,ntmps88;go_wp2_with fail;refine (sI _).mono ?_;rintro e w1 ⟨rfl,c,g⟩;obtain ⟨l,d⟩:=hqq2 c g;have r:=c.lt;clear c g;go_wp2_with fail;refine wp_loop_rounds 1 ?_;rw [rounds_succ];go_wp2_with fail;go_ret2;have j:=d.out.size;exact ⟨_,_,rfl,⟨Bk.new _ _ _,World.ownsRow_nil _ _ _ _,World.ownsRow_nil _ _ _ _,l.out.alloc _,World.ownsRow_nil _ _ _ _,World.ownsRow_nil _ _ _ _,.inl rfl,fun s n=>(by cases n),⟨j,zAs _⟩⟩,d.out.alloc j _⟩
def cW (a:List Nat) (c b:Nat):List (Nat×Nat):=((List.range b).filter fun i=>a.getD i 0 % c==0).map fun i=>(i,a.getD i 0)
def aD2 (b:List Nat) (c a:Nat):cW b c (a+1)=if b.getD a 0 % c=0 then cW b c a++ [(a,b.getD a 0)] else cW b c a:=by
 unfold cW;rw [List.range_succ,List.filter_append,zAz];by_cases d:b.getD a 0 % c=0
 · rw [zBx d];simp only [List.filter_cons,d,beq_self_eq_true,if_true,List.filter_nil,List.map_cons,List.map_nil]
 · rw [zBw d];have:(b.getD a 0 % c==0)=false:=(by simpa using d);simp only [List.filter_cons,this,Bool.false_eq_true,if_false,List.filter_nil,List.map_nil,List.append_nil]
def nQ {d:List Nat} {f c:Nat} {a:Nat×Nat} (b:a∈cW d f c):a.1 < c/\a.2=d.getD a.1 0:=by
 unfold cW at b;obtain ⟨i,e,rfl⟩:=zAy.1 b;have:=(zCv.1 e).1;exact ⟨by simpa using this,rfl⟩
def qK (e:List Nat) (d c:Nat):(cW e d c).Pairwise (fun a b=>a.1 < b.1):=by
 unfold cW;rw [List.pairwise_map];exact List.Pairwise.filter _ List.pairwise_lt_range
def aCk {C:List (Nat×Nat)} {a:Nat} (b:a < C.length):(aB C a,aI C a)∈C:=by
 unfold aB aI;rw [zAb,zAa b];exact zBj b
def aCj {a:List (Nat×Nat)} (g:a.Pairwise (fun b c=>b.1 < c.1)):(List.range a.length).Pairwise (fun b c=>aB a b < aB a c):=by
 rw [zAr];intro i f j l k;have d:i < a.length:=by simpa using j
 have e:f < a.length:=by simpa using l
 have:=zAr.1 g i f d e k;simp only [List.getElem_range];unfold aB;rw [zAb,zAb,zAa d,zAa e];exact this
def Apt.next2 {j f:Value} {c:Option Addr} {N:Nat} (k:Apt j c) (m:f.ownBlock=j.ownBlock∨∃e,f.ownBlock=some e/\N<=e) (l:∀a,c=some a->a.block < N):Apt f c:=by
 intro a g b;rcases m with d |⟨e,d,n⟩;exact k a g (d.symm.trans b);rw [d] at b;injection b with b;have:=l a g;omega
def PermAt.foot {r:World} {c f e:Nat} {g j k q:Value} {R m:Nat} {o:List Nat} {l:List (Nat×Nat)} {p:List Bool} {n:List Nat} (b:PermAt r c f e g j k q R m o l p n) {d:Nat} (a:PF f e g j k d):c<=d:=by
 rcases a with rfl | rfl | a | a | a;exact b.lo.1;exact b.lo.2;exact (b.lrow.lt _ a).1;exact (b.orow.lt _ a).1;exact (b.trow.lt _ a).1
def PermAt.keep {F:Nat->Prop} {j x:World} {k p o:Nat} {u v w t:Value} {R m:Nat} {q:List Nat} {l:List (Nat×Nat)} {s:List Bool} {n:List Nat} (b:PermAt j k p o u v w t R m q l s n) (f:Keep F j x)
 (e:∀d r g,F d->Bk j d r g->r∉ [166,170,3,221,4]):PermAt x k p o u v w t R m q l s n:=
 ⟨f.bk b.blk (fun a=>e _ _ _ a b.blk dC),gJ b.lrow f (fun d g a c=>e _ _ _ a c dC),gJ b.orow f (fun d g a c=>e _ _ _ a c dC),f.bk b.ar (fun a=>e _ _ _ a b.ar dC),gJ b.trow f (fun d g a c=>e _ _ _ a c dC),gJ b.frow f (fun d g a c=>e _ _ _ a c dC),b.apart,b.lt,b.lo⟩
structure LvInv (w2:World) (B1 B3 gl gk gp ga n rate:Nat) (A3:Option Addr) (c3:Nat) (rs:List Nat) (k:Nat) (vl vo vt:Value) (tk:List Bool) (wr:World):Prop where
 perm:PermAt wr B1 gp ga vl vo vt (.slice none 0 0) n n (List.range (cW rs rate k).length) (cW rs rate k) tk []
 len:tk.length=(cW rs rate k).length
 apt:Apt vo A3
 row:wr.ownsRow B3 3 1 (.slice A3 n c3) n (rs.map sv)
 blk:Bk wr gl 92 #[gk,gp,(rate:Int),.int .i64 0]
 below:Below w2.heap.size w2 wr
structure LiveAt (w:World) (Bw gl gk gp ga:Nat) (vl vo vt:Value) (B n rate:Nat) (L:List Nat) (C:List (Nat×Nat)) (tk:List Bool):Prop where
 blk:Bk w gl 92 #[gk,gp,(rate:Int),.int .i64 0]
 walk:WalkAt w Bw gk L
 perm:PermAt w B gp ga vl vo vt (.slice none 0 0) n n (List.range C.length) C tk []
end
section
open Go.RowKit Go.Shelf
def ShelfRow.same {p w':World} {e:Nat} {o:Value} {f:List Nat} {l m:Nat} (r:ShelfRow p e o f l m) (k:∀a d b,Bk p a d b->Bk w' a d b):ShelfRow w' e o f l m:=by
 obtain ⟨q,s,g⟩:=r;exact ⟨q,aA s fun a b _ c=>k _ _ _ c,fun n j=>⟨(g n j).1,(g n j).2.same fun a d b _ c=>k _ _ _ c⟩⟩
def WalkAt.same {g w':World} {b gk:Nat} {c:List Nat} (l:WalkAt g b gk c) (a:∀d f e,Bk g d f e->Bk w' d f e):WalkAt w' b gk c:=by
 obtain ⟨k,j,n,⟨m,S,t,o,p⟩,q⟩:=l;exact ⟨k,j,a _ _ _ n,⟨m,S,t,a _ _ _ o,fun s r=>(p s r).same a⟩,a _ _ _ q⟩
def LvW (a:World) (b d:Nat) (c:List Nat):Prop:=∃gk e f g,Bk a d 92 #[.pointer (some ⟨gk,0,none⟩),e,f,g]/\WalkAt a b gk c
def LvW.vis {e w':World} {a c:Nat} {b:List Nat} (f:LvW e a c b) (d:Vis e w'):LvW w' a c b:=by
 obtain ⟨gk,k,l,m,g,j⟩:=f;exact ⟨gk,k,l,m,d.bk g dC dC,j.vis d⟩
def LvW.same {j w':World} {a e:Nat} {b:List Nat} (k:LvW j a e b) (f:∀c g d,Bk j c g d->Bk w' c g d):LvW w' a e b:=by
 obtain ⟨gk,n,o,p,l,m⟩:=k;exact ⟨gk,n,o,p,f _ _ _ l,m.same f⟩
def LvW.lt {b:World} {c a:Nat} {d:List Nat} (e:LvW b c a d):a < b.heap.size:=by
 obtain ⟨gk,j,k,l,f,g⟩:=e;exact f.lt
def ShelfRow.sameT {p q:World} {e:Nat} {o:Value} {f:List Nat} {l m:Nat} (s:ShelfRow p e o f l m) (k:∀a c b,c≠3->Bk p a c b->Bk q a c b):ShelfRow q e o f l m:=by
 obtain ⟨r,t,g⟩:=s;exact ⟨r,aA t fun a b _ d=>k _ _ _ dC d,fun n j=>⟨(g n j).1,(g n j).2.same fun a c b u d=>k _ _ _ (by rintro rfl;revert u;decide) d⟩⟩
def LvW.sameT {j k:World} {c g:Nat} {d:List Nat} (n:LvW j c g d) (a:∀e b f,b≠3->Bk j e b f->Bk k e b f):LvW k c g d:=by
 obtain ⟨gk,w,x,y,o,m,l,p,⟨t,S,z,q,r⟩,s⟩:=n;exact ⟨gk,w,x,y,a _ _ _ dC o,m,l,a _ _ _ dC p,⟨t,S,z,a _ _ _ dC q,fun v u=>(r v u).sameT a⟩,a _ _ _ dC s⟩
def LvW.visI {l d:World} {o q b:Nat} {e A:Value} {p:List Nat} (t:LvW l o q p) (g:VisF (fun a=>a=b) l d) (u:Bk l b 3 #[e]) (v:Bk d b 3 #[A]):LvW d o q p:=by
 have s:Bk (d.setCell b e) b 3 #[e]:=v.set 0 e;have k:∀a,a≠b->(d.setCell b e).heap[a]?=d.heap[a]?:=fun a x=>heap_setCell_other d ⟨b,0,none⟩ a e x;have z:Vis l (d.setCell b e):=by refine ⟨g.os,g.tape,g.output,by simpa [World.setCell] using g.size,fun a w _=>?_⟩;by_cases c:a=b;subst c;exact .inl (s.trans u.symm);rcases g.block a w c with f |⟨j,n,f,m⟩|⟨j,n,f,m⟩;exact .inl ((k a c).trans f);exact .inr (.inl ⟨j,n,f,(k a c).trans m⟩);exact .inr (.inr ⟨j,n,f,(k a c).trans m⟩)
 refine (t.vis z).sameT fun a B j y r=>?_;have c:a≠b:=fun c=>by subst c;exact y (aL r s).1
 exact (k a c).symm.trans r
def LiveAt.lvw {e:World} {a c gk k j:Nat} {o p q:Value} {f l m:Nat} {b:List Nat} {g:List (Nat×Nat)} {n:List Bool} (d:LiveAt e a c gk k j o p q f l m b g n):LvW e a c b:=⟨gk,_,_,_,d.blk,d.walk⟩
def cF (d f:Nat) (b:List Nat) (a:Nat) (c:World) (k:LvW c d f b) (m:b.length=a+1) (p:a<=1000000):
 Calls prog 37 #[f] c fun e j=>e=.returned (.int .i64 (a:Int))/\c=j:=by
 obtain ⟨gk,q,r,s,g,l⟩:=k;have n:=g.cell 0;have o:IntKind.i64.wrap (((a+1:Nat):Int) - 1)=(a:Int):=by rw [IntKind.wrap_i64];omega
 clear g;go_enter func37,ntmps37;go_wp2_with fail;refine (kJ d gk b _ l).mono ?_;rintro e j ⟨rfl,rfl⟩;rw [m];go_wp2_with fail;go_ret;exact ⟨fG oM,rfl⟩
def aGg (a:List Nat) (b:Nat) {c d:Nat} (e:c<=d):cL a b c<=cL a b d:=by
 unfold cL;have:=(List.take_sublist_take_left (l:=a) e).count_le b;omega
def uY (b:List Nat) (a e:Nat):cL b a e<=b.length:=by
 unfold cL;have k:=(List.take_sublist e b).count_le a;have l:b.countP (fun c=>decide (c < a))+b.count a<=b.length:=by
  induction b with
  | nil=>simp
  | cons c j g=>
    have:=g ((List.take_sublist e j).count_le a);rw [zBn,List.count_cons];by_cases d:c < a;have:¬c=a:=oM;simp [d,this];omega;by_cases f:c=a;simp [d,f];omega;simp [d,f];omega
 omega
end
section
open Go.RowKit
noncomputable def ltP (a:List Nat) (b c:Nat):Bool:=@decide (sufLt a c b) (Classical.propDecidable _)
def qX (a:List Nat) (b c:Nat):ltP a b c=true↔sufLt a c b:=by
 unfold ltP;exact @decide_eq_true_iff _ (Classical.propDecidable _)
def aAl {b a:List Nat} (g:IsSuf b a) (i:Nat) (k:i < a.length):a.countP (ltP b a[i])=i:=by
 have n:(a.take i).countP (ltP b a[i])=i:=by rw [List.countP_eq_length.2 fun m f=>?_];rw [zAj];omega;obtain ⟨d,e,rfl⟩:=zBo.1 f;rw [zAj] at e;rw [List.getElem_take,qX];exact zAr.1 g.sorted d i oM k oM
 have o:(a.drop i).countP (ltP b a[i])=0:=List.countP_eq_zero.2 fun m f c=>by obtain ⟨d,e,rfl⟩:=zBo.1 f;rw [zAw] at e;rw [List.getElem_drop,qX] at c;rcases zBa d with j | j;subst j;exact sufLt.asymm c c;exact sufLt.asymm c (zAr.1 g.sorted i (i+d) k oM oM)
 have l:a.countP (ltP b a[i])=(a.take i++a.drop i).countP (ltP b a[i]):=congrArg (List.countP _) (zAu i a).symm;rw [l,List.countP_append];omega
def aB1 {a d:List Nat} (e:IsSuf a d) (b:Nat->Bool) (k:∀g j,sufLt a g j->b j=true->b g=true) (f:Nat):((aE a d).take (d.countP b)).count f=(List.range a.length).countP (fun c=>decide (bK a c=f)&&b c):=by
 rw [aE,<-List.map_take,sM e.sorted k,<-e.count,List.count_eq_countP,List.countP_map,List.countP_filter];refine List.countP_congr fun c _=>?_;simp [Function.comp,and_comm]
def lf {a e:List Nat} {g:Nat} (f:IsSuf a e) (o:EndOk a g) {i m b:Nat} (q:i < e.length) (y:m < e.length) (x:e[i]=b+1) (z:e[m]=b):cL (aE a e) (a.getD b 0) i=m:=by
 have j:=o.len;have A:b < g:=by have:=f.lt (zBj q);omega
 have B:=o.pos b A;obtain ⟨d,r⟩:=eqx (a.getD b 0);rw [r] at B⊢;have p:=aAl f i q;have n:=aAl f m y;rw [x] at p;rw [z] at n;have s:=aB1 f (ltP a (b+1)) (fun c F C u=>by rw [qX] at u⊢;exact C.trans u) d;rw [p] at s;rw [f.count] at n;unfold cL;rw [s];have v:(aE a e).countP (fun c=>decide (c < d))=(List.range (g+1)).countP (fun b=>decide (a.getD b 0 < d)):=by
  rw [aE,List.countP_map,f.count,j];refine gF _ _ ?_ fun b D=>?_
  · show decide (bK a 0 < d)=_;rw [bV oM,j,zBb]
  · show decide (bK a (b+1) < d)=_;rw [aX oM]
 have w:(List.range a.length).countP (fun c=>decide (bK a c=d)&&ltP a (b+1) c)=(List.range (g+1)).countP (fun c=>decide (a.getD c 0=d)&&ltP a (b+1) (c+1)):=by
  rw [j];refine gF _ _ ?_ fun c t=>?_;show (decide (bK a 0=d)&&_)=(decide (a.getD g 0=d)&&_);rw [bV oM,j,zBb,o.last];have:decide (0=d)=false:=(by simp;omega);rw [this];rfl
  · show (decide (bK a (c+1)=d)&&_)=_;rw [aX oM]
 rw [v,w,<-sY,<-n,j];refine List.countP_congr fun c t=>?_;have E:c < g+1:=(by simpa using t);rw [qX,iC,eY (by omega:c < a.length),eY (by omega:b < a.length),r];simp only [Bool.or_eq_true,zBd,zCa,qX];constructor;rintro (k |⟨k,l⟩);exact .inl oM;exact .inr ⟨by omega,l⟩;rintro (k |⟨k,l⟩);exact .inl oM;exact .inr ⟨by omega,l⟩;intro c _;simp only [zBd,zCa];rintro ⟨k,l,_⟩;omega
def rA {a c:List Nat} {d:Nat} (e:EndOk a d) {i b:Nat} (f:i < c.length) (g:c[i]=b+1) (k:b < d):(aE a c)[i]'(by rw [bZ];exact f)=a.getD b 0:=by
 have j:=e.len;unfold aE;rw [List.getElem_map,g,aX oM]
def IsSuf.row {d b:List Nat} (f:IsSuf d b) {p:Nat} (g:p < d.length):∃a,∃c:a < b.length,b[a]=p:=by
 obtain ⟨a,c,e⟩:=zBo.1 (f.mem g);exact ⟨a,c,e⟩
def aBl (a:List Nat) (b c:Nat) (e:b < a.length):(aK a c (bE a[b] c))[fP a b a[b] c]?=some (gG a[b] c):=by
 unfold aK fP;have d:a=a.take b++a[b]::a.drop (b+1):=by rw [<-zAx e,zAu]
 generalize f:a[b]=s at d⊢;generalize a.take b=A at d⊢;rw [d,List.filter_append,List.filter_cons,zBx (by simp),zAz,List.countP_eq_length_filter,zAo (by simp)];simp
def eE (c d:List Nat) (a b:Nat):aK (c++d) a b=aK c a b++aK d a b:=by
 unfold aK;rw [List.filter_append,zAz]
def kH (c:Nat) (d:List Nat) (a b:Nat):aK (c::d) a b=if bE c a=b then gG c a::aK d a b else aK d a b:=by
 unfold aK;rw [List.filter_cons];by_cases e:bE c a=b
 · simp [e]
 · simp [e]
def rL (a:List Nat) (d b c:Nat):aK a b c=aK (a.take d) b c++aK (a.drop d) b c:=by
 rw [<-eE,zAu]
def aAt (b:List Nat) (c d a:Nat):(aK (b.take c) a (bE d a)).length=fP b c d a:=by
 rw [iU];rfl
def aEN (c:List Nat) (d b a:Nat):aK (aP c d b) a (bE b a)=aP (aK c a (bE b a)) (fP c d b a) (gG b a):=by
 have e:=aAt c d b a;unfold aP;rw [eE,kH,zBx rfl]
 conv=>rhs;rw [rL c d a (bE b a)]
 rw [<-e,List.take_left,List.drop_left]
def yS (c:List Nat) (f d a b:Nat) (e:bE d a≠b):aK (aP c f d) a b=aK c a b:=by
 unfold aP;rw [eE,kH,zBw e,<-rL]
def aIo {a:List Nat} {b c:Nat} (d:a[b]?=some c):a=a.take b++c::a.drop (b+1):=by
 obtain ⟨e,f⟩:=zAc.1 d;rw [<-f,<-zAx e,zAu]
def aEO {c:List Nat} {d b:Nat} (a:Nat) (g:c[d]?=some b):aK (aF c d) a (bE b a)=aF (aK c a (bE b a)) (fP c d b a):=by
 have e:=aAt c d b a;have f:aK c a (bE b a)=aK (c.take d) a (bE b a)++gG b a::aK (c.drop (d+1)) a (bE b a):=by
  conv=>lhs;rw [aIo g]
  rw [eE,kH,zBx rfl]
 unfold aF;rw [eE,f];generalize aK (c.take d) a (bE b a)=A at e⊢;generalize aK (c.drop (d+1)) a (bE b a)=C;rw [<-e,List.take_left,List.drop_append,List.drop_eq_nil_of_le oM,show A.length+1 - A.length=1 by omega];rfl
def yT {a:List Nat} {d e:Nat} (b c:Nat) (f:a[d]?=some e) (g:bE e b≠c):aK (aF a d) b c=aK a b c:=by
 conv=>rhs;rw [aIo f]
 unfold aF;rw [eE,eE,kH,zBw g]
def aFK {α:Type} (b:List α) (a:Nat) (d:α) (e:a<=b.length):(aP b a d).take a=b.take a:=by
 unfold aP;have c:(b.take a).length=a:=by rw [zAj];omega
 rw [List.take_append,c,Nat.sub_self,List.take_zero,List.append_nil,List.take_take,Nat.min_self]
def aJo {b:List Nat} {e d c:Nat} (f:∀a∈b,a < c) (j:d < c):∀a∈aP b e d,a < c:=fun a k=>by
 rcases List.mem_cons.1 ((fC b e d).mem_iff.1 k) with rfl | g;exact j;exact f a g
def oG {c:List Nat} {g d:Nat} (e:∀a∈c,a < d):∀a∈aF c g,a < d:=fun a f=>by
 unfold aF at f;rcases zCp.1 f with b | b;exact e a (List.mem_of_mem_take b);exact e a (List.mem_of_mem_drop b)
def TC (a b:Nat):Nat:=16+512*a+b
def aKq {c a d b:Nat} (f:a < 512) (g:b < 512) (e:TC c a=TC d b):c=d/\a=b:=by
 unfold TC at e;omega
def aJ3 {a b:Nat} (d:a < 9) (e:b < 2 ^ a):b < 512:=by
 have:2 ^ a<=2 ^ 9:=zBp dC oM;have c:(2:Nat)^ 9=512:=dC;omega
def dD (own:Nat->Nat) (d c b a:Nat):Nat:=if a < d then own a else if a < c then b else 0
structure WaveS (w:World) (B:Nat) (own:Nat->Nat) (gv:Nat) (S:Nat->Value) (Ls:Nat->List Nat) (n v:Int):Prop where
 blk:Bk w gv 154 (wcells S n v)
 base:B<=gv/\own gv=2
 rows:∀lv,lv < 9->∃G:Nat->Nat,w.ownsRow B 157 3 (S lv) (2 ^ lv) (eC G lv (2 ^ lv))/\(∀b,(S lv).ownBlock=some b->own b=2)/\∀p,p < 2 ^ lv->TreeE w (fun b=>own b=TC lv p) (G p) (aK (Ls lv) lv p)
 bnd:∀b,own b≠0->B<=b/\b < w.heap.size
def WaveE (e:World) (b:Nat) (own:Nat->Nat) (c:Nat) (a:List Nat):Prop:=∃S d,WaveS e b own c S (fun _=>a) (a.length:Int) d
def WaveS.vis {l w':World} {d:Nat} {own:Nat->Nat} {g:Nat} {S:Nat->Value} {e:Nat->List Nat} {k v:Int} (a:WaveS l d own g S e k v) (b:Vis l w'):∃c,WaveS w' d own g S e k c:=by
 obtain ⟨c,q⟩:=b.waveC a.blk;refine ⟨c,q,a.base,fun t r=>?_,fun f j=>⟨(a.bnd f j).1,zAl (a.bnd f j).2 b.size⟩⟩;obtain ⟨m,n,o,p⟩:=a.rows t r;exact ⟨m,b.own n dC dC,o,fun u s=>(p u s).vis b⟩
def WaveE.vis {e w':World} {b:Nat} {own:Nat->Nat} {d:Nat} {c:List Nat} (a:WaveE e b own d c) (g:Vis e w'):WaveE w' b own d c:=by
 obtain ⟨S,k,a⟩:=a;obtain ⟨j,f⟩:=a.vis g;exact ⟨S,j,f⟩
def WaveE.at {k:World} {c:Nat} {own:Nat->Nat} {g:Nat} {e:List Nat} (a:WaveE k c own g e):WaveAt k c g e:=by
 obtain ⟨S,p,a⟩:=a;refine ⟨a.base.1,S,p,a.blk,fun o n=>?_⟩;obtain ⟨d,l,q,f⟩:=a.rows o n;refine ⟨d,l,fun b j=>⟨?_,(f b j).at⟩⟩;have m:=(f b j).1;exact (a.bnd (d b) (by rw [m];unfold TC;omega)).1
def WaveS.edit {f m:World} {u:Nat} {own:Nat->Nat} {y:Nat} {S:Nat->Value} {r:Nat->List Nat} {F aa Q:Int} (g:WaveS f u own y S r F aa) {lv p gx:Nat} (a5:lv < 9) (a7:p < 2 ^ lv) {q:Nat->Nat} (Z:f.ownsRow u 157 3 (S lv) (2 ^ lv) (eC q lv (2 ^ lv)))
 (L:own gx < 16) (a3:∀w,¬Bk f gx 157 w) {I:List Bool} (a8:TreeE m (Gw (fun a=>own a=TC lv p) f.heap.size) (q p) I) (E:Keep (fun G=>own G=TC lv p∨G=y∨G=gx) f m) (D:Bk m y 154 (wcells S F Q))
 {L':List Nat} (a1:aK L' lv p=I) (a2:∀c,c≠p->aK L' lv c=aK (r lv) lv c):
 WaveS m u (dD own f.heap.size m.heap.size (TC lv p)) y S (fun b=>if b=lv then L' else r b) F Q:=by
 have an:u<=f.heap.size:=zAk g.base.1 (zCm g.blk.lt);have B:∀a,a < f.heap.size->dD own f.heap.size m.heap.size (TC lv p) a=own a:=fun a D=>by unfold dD;rw [zBx D]
 refine ⟨D,⟨g.base.1,by rw [B _ g.blk.lt];exact g.base.2⟩,fun b P=>?_,fun a l=>?_⟩
 · obtain ⟨o,x,J,K⟩:=g.rows b P;refine ⟨o,aA x fun a w A s=>E.bk s fun d=>?_,fun a A=>?_,fun c t=>?_⟩;rcases d with d | d | d;rw [J a A] at d;unfold TC at d;omega;subst d;exact absurd (aL s g.blk).1 dC;subst d;exact a3 w s;rw [B _ (x.lt a A).2];exact J a A
   · have O:(b≠lv∨c≠p)->TreeE m (fun a=>dD own f.heap.size m.heap.size (TC lv p) a=TC b c) (o c) (aK (r b) b c):=fun a6=>by
        have a9:=(K c t).keep E fun a ap w M s j d=>by rcases d with d | d | d;rw [j] at d;obtain ⟨e,n⟩:=aKq (aJ3 P t) (aJ3 a5 a7) d;rcases a6 with z | z;exact z e;exact z n;subst d;rw [(aL s g.blk).1] at M;exact absurd M dC;subst d;rw [j] at L;unfold TC at L;omega
        have ao:TreeE f (fun a=>own a=TC b c) (o c) (aK (r b) b c):=K c t;refine a9.mono fun a l j=>?_;have a4:a < f.heap.size:=(g.bnd a (by rw [j];unfold TC;omega)).2;rw [B a a4];exact j
     by_cases e:b=lv
     · subst e;rw [zBx rfl];by_cases n:c=p
       · subst n;rw [a1]
         have a0:o c=q c:=by
           have z:=x.1;have e:=(fJ o b (2 ^ b) c t).1;have n:=(fJ q b (2 ^ b) c t).1
           have Y:eC o b (2 ^ b)=eC q b (2 ^ b):=by
             rcases x.2 with ⟨H,T⟩|⟨al,ah,aj,H,T,U,ab,ac,ad,V⟩;have:=Nat.two_pow_pos b;omega
             · rcases Z.2 with ⟨k,v⟩|⟨am,ai,ak,k,v,W,ae,af,ag,X⟩;have:=Nat.two_pow_pos b;omega
               · rw [H] at k;injection k with k _ _;injection k with k;injection k with k _;subst k;obtain ⟨_,rfl⟩:=aL U W;rw [<-V,<-X]
           rw [Y,n] at e;injection e with e;injection e with e;injection e with e;injection e with e _;exact e.symm
         rw [a0];refine a8.mono fun a l j=>?_;rcases j with j | j;rw [B a (g.bnd a (by rw [j];unfold TC;omega)).2];exact j
         · unfold dD;rw [zBw oM,zBx l]
       rw [a2 c n];exact O (.inr n)
     rw [zBw e];exact O (.inl e)
 unfold dD at l;by_cases C:a < f.heap.size;rw [zBx C] at l;exact ⟨(g.bnd a l).1,zAl C E.size⟩;rw [zBw C] at l;by_cases v:a < m.heap.size;exact ⟨by omega,v⟩;rw [zBw v] at l;exact absurd rfl l
def aGY (S:Nat->Value) (c a b:Int):(wcells S c b).setIfInBounds 9 (.int .i64 a)=wcells S a b:=by
 unfold wcells;rfl
def WaveS.set_n {f:World} {j:Nat} {own:Nat->Nat} {b:Nat} {S:Nat->Value} {k:Nat->List Nat} {A o:Int} (c:WaveS f j own b S k A o) (e:Int):WaveS (f.setCell ⟨b,9,none⟩ (.int .i64 e)) j own b S k e o:=by
 have g:Keep (fun a=>a=b) f (f.setCell ⟨b,9,none⟩ (.int .i64 e)):=Keep.setCell (F:=fun a=>a=b) (Keep.refl _ _) (p:=⟨b,9,none⟩) (.inl rfl) _;refine ⟨by have:=c.blk.set 9 (.int .i64 e);rw [aGY] at this;exact this,c.base,fun z x=>?_,fun a l=>⟨(c.bnd a l).1,zAl (c.bnd a l).2 g.size⟩⟩;obtain ⟨q,u,v,w⟩:=c.rows z x;exact ⟨q,aA u fun a r _ d=>g.bk d (Bk.ne d c.blk dC),v,fun n y=>(w n y).keep g fun a B r m d _ s=>by
  have t:a=b:=s;subst t;rw [(aL d c.blk).1] at m;exact absurd m dC⟩
def WaveS.far {p w':World} {f:Nat} {own:Nat->Nat} {k:Nat} {S:Nat->Value} {g:Nat->List Nat} {n o:Int} (b:WaveS p f own k S g n o) {H:Nat->Prop} (d:Keep H p w') (e:∀a,H a->own a≠2/\own a < 16):WaveS w' f own k S g n o:=by
 refine ⟨d.bk b.blk (fun c=>by have:=e _ c;have:=b.base.2;omega),b.base,fun y w=>?_,fun a l=>⟨(b.bnd a l).1,zAl (b.bnd a l).2 d.size⟩⟩;obtain ⟨q,s,j,t⟩:=b.rows y w;exact ⟨q,aA s fun a r u m=>d.bk m (fun c=>by have:=e _ c;have:=j a u;omega),j,fun z x=>(t z x).keep d fun a B r A m v c=>by
  have:=e a c;rw [v] at this;unfold TC at this;omega⟩
def WaveE.far {f w':World} {c:Nat} {own:Nat->Nat} {e:Nat} {d:List Nat} (b:WaveE f c own e d) {H:Nat->Prop} (j:Keep H f w') (g:∀a,H a->own a≠2/\own a < 16):WaveE w' c own e d:=by
 obtain ⟨S,k,b⟩:=b;exact ⟨S,k,b.far j g⟩
def WaveS.paint {c:World} {d:Nat} {own own':Nat->Nat} {e:Nat} {S:Nat->Value} {j:Nat->List Nat} {n o:Int} (b:WaveS c d own e S j n o) (f:∀a,a < c.heap.size->2<=own a->own' a=own a) (r:∀a,own' a≠0->d<=a/\a < c.heap.size):WaveS c d own' e S j n o:=by
 refine ⟨b.blk,⟨b.base.1,by rw [f e b.blk.lt (by rw [b.base.2];omega)];exact b.base.2⟩,fun v t=>?_,r⟩;obtain ⟨p,k,l,q⟩:=b.rows v t;refine ⟨p,k,fun a g=>?_,fun w u=>(q w u).mono fun a s m=>?_⟩;rw [f a (k.lt a g).2 (by rw [l a g];omega)];exact l a g;rw [f a s (by rw [m];unfold TC;omega)];exact m
def WaveE.paint {b:World} {c:Nat} {own own':Nat->Nat} {f:Nat} {e:List Nat} (d:WaveE b c own f e) (g:∀a,a < b.heap.size->2<=own a->own' a=own a) (j:∀a,own' a≠0->c<=a/\a < b.heap.size):WaveE b c own' f e:=by
 obtain ⟨S,k,d⟩:=d;exact ⟨S,k,d.paint g j⟩
def aIN (e gk d:Nat) (y z:Int) (n:Value) (c:List Bool) (b:Nat) (a:World) (q:TreeAt a e c) (k:Bk a gk 3 #[(b:Int)]) (l:Bk a d 4 #[n]) (p:b < c.length):
 Calls prog 112 #[.agg #[e,.int .i64 y,.int .i64 z],gk,d] a fun o A=>o=.returned (.tuple #[])/\
  ∃w1,VisK (fun g=>g=e) a w1/\Bk w1 d 4 #[n]/\A=w1.setCell d (.bool (c.getD b false)):=by
 have C:a.cell? gk=some (.int .i64 (b:Int)):=(k.cell 0).trans rfl;have F:=k.lt;have G:=l.lt;obtain ⟨B,j⟩:=eqx (c.getD b false);rw [j];obtain ⟨t,x,v,u⟩:=hqq4 j q l p;clear q k l j p;go_enter func112,ntmps112;go_wp2_with fail;refine (aC2 e c b _ (x.out.below (bR.alloc nL _)) u.out).mono ?_;rintro o w1 ⟨rfl,r⟩;rw [t.out];have m:VisK (fun g=>g=e) a w1:=(VisK.of_below (bR.alloc nL _)).trans r;have f:=m.1.bk v.out dC dC;have D:w1.cell? d=some n:=(f.cell 0).trans rfl;have E:=f.frozen 0;obtain ⟨s,w⟩:=hqq2 m f;clear r m f;go_wp2_with fail;go_end0;exact ⟨rfl,w1,s.out,w.out,rfl⟩
def aGU (b e gk c:Nat) (S:Nat->Value) (A ad K j:Int) (af:Value) (u:List Bool) (s:Nat) (w0 d:World) (J:Bk d b 154 (wcells S A ad)) (W:TreeAt w0 e u) (X:Vis w0 d) (ax:w0.heap.size<=c) (Q:Bk d gk 3 #[(s:Int)]) (H:Bk d c 4 #[af]) (aB:s < u.length):
 Calls prog 111 #[b,.agg #[e,.int .i64 K,.int .i64 j],.func (.func 112) #[] #[gk,c]] d fun k Z=>k=.returned (.tuple #[])/\
  VisF (fun a=>a=c) d Z/\Keep (fun a=>a=b∨a=e∨a=c) d Z/\Bk Z c 4 #[.bool (u.getD s false)]:=by
 have a9:=W.vis X;obtain ⟨q,O⟩:=eqx (u.getD s false);rw [O];obtain ⟨an,aq,am⟩:=hqq3 O W X;clear O W X;obtain ⟨aG,U⟩:=eqx (Obj.cells #[e,.int .i64 K,.int .i64 j] 157);have a6:=(Below.refl d.heap.size d).alloc nL aG;have V:=Bk.new d 157 #[e,.int .i64 K,.int .i64 j];rw [U] at V;have aX:=Q.lt;have aY:=H.lt;have aZ:=J.lt;have aF:=Bk.ne H J dC;obtain ⟨L,a1,a0,a3,o,a2,ao⟩:=hqq7 a9 H Q J a6 V U;clear a9 Q H J a6 V U;go_enter func111,ntmps111;go_wp2_with fail;rw [ao.out];refine (aIN e gk c K j af u s _ (L.out.below o.out) (a0.out.alloc _) (a1.out.alloc _) aB).mono ?_;rintro k t ⟨rfl,w1,r,a8,rfl⟩;rw [an.out];obtain ⟨n,ab⟩:=((Vis.of_below o.out).trans r.1).waveC a3.out;have z:=ab.far (p:=c) (fun g=>aF g.symm) (.bool q);have aC:=L.out.vis ((Vis.of_below o.out).trans r.1);have y:TreeAt (w1.setCell c (.bool q)) e u:=aq.out.vis (((am.out.trans (Vis.of_below o.out)).trans r.1).fresh (p:=c) ax _);obtain ⟨B,Y⟩:=y.visits;have v:=(r.1.bk a2.out dC dC).far (p:=c) (fun g=>absurd (show d.heap.size=c from g) oM) (.bool q);have I:=a8.set 0 (.bool q);have P:VisF (fun a=>a=c) d (w1.setCell c (.bool q)):=VisF.put (F:=fun a=>a=c) (VisF.of_vis ((Vis.of_below o.out).trans r.1)) (p:=c) (.inl rfl) _;have T:Keep (fun a=>a=b∨a=e∨a=c) d (w1.setCell c (.bool q)):=Keep.setCell (F:=fun a=>a=b∨a=e∨a=c) ((Keep.of_below o.out).trans (r.2.mono fun a _ k=>.inr (.inl k))) (p:=c) (.inl (.inr (.inr rfl))) _;obtain ⟨D,a5⟩:=eqx (w1.setCell c (.bool q));rw [a5] at z y Y v I P T⊢;have aH:D.cell? d.heap.size=some (.pointer (some e)):=(v.cell 0).trans rfl;obtain ⟨C,ap,al,aj,ak,ar,au⟩:=hqq7 z v I P T y Y;have aE:=y.lt;have aW:=v.lt;have az:=Bk.ne z v dC;have ay:=Bk.ne z I dC;have aA:e≠b:=by rintro rfl;obtain ⟨aV,ad,⟨_,_,E⟩|⟨_,_,_,_,_,G⟩⟩:=ar.out;exact absurd (aL E C.out).1 dC;exact absurd (aL G.tree C.out).1 dC
 clear z v I P T y Y a5 ab aC a8 r o L a1 a0 a3 a2 aH;go_wp2_with fail;refine wp_region_any kR ?_;refine bH [9,10,11,12,13,14,15,16,17,18] (fun a=>a=b) 10 [3,10] (fun t=>Bk t b 154 (wcells S A n)) (fun _ t=>Bk t b 154 (wcells S A (IntKind.i64.wrap (n+B)))) [is b,is b,is (.pointer (some ⟨b,10,none⟩)),is (.int .i64 n),is d.heap.size,is e,is (.int .i64 B),is (.int .i64 (IntKind.i64.wrap (n+B))),is b,is (.pointer (some ⟨b,10,none⟩)),dA] _ _ rfl kR kR (C.out) (fun t b1 g _ aw=>Bk.below g aw g.lt) (fun _ _ _ g s=>Bk.below g s g.lt) tA0 ?_ ?_
 · refine aO ?_;refine pH3 0 (.pointer (some b)) ?_;refine pV3 0 9 ?_;refine pV3 1 10 ?_;refine sC3 (fun _ l _ M _ _ _ m _ _ _ w=>?_) ?_
   · have x:=M rfl;have aN:_=_:=m 2 11 kR rfl;have aK:l.cell? ⟨b,10,none⟩=some (.int .i64 n):=(x.cell 10).trans (bI _ _ _).2.2.2.2.2.2.2.2.2.2;go_simp;exact kq w rfl
   refine pH3 4 (.pointer (some d.heap.size)) ?_;refine pL3 4 13 (fun l f=>have f:Keep (fun a=>a=b) D l:=kD f;(((f.bk ap.out (fun g=>az (show d.heap.size=b from g).symm)).cell 0).trans rfl:l.cell? d.heap.size=some (.pointer (some e)))) ?_;refine sC3 (fun _ l f _ _ _ _ m _ _ _ w=>?_) ?_
   · replace f:Keep (fun a=>a=b) D l:=kD f;have aP:_=_:=m 5 14 kR rfl;go_simp;refine (fN e B l ((f.cell aE aA).trans au.out)).mono ?_;rintro k b2 ⟨rfl,av⟩;exact w _ _ (aJ av) rfl
   refine pW3 3 12 6 15 ?_;refine pV3 0 9 ?_;refine pV3 8 17 ?_;refine sC3 (fun _ l _ M _ _ _ m _ _ _ w=>?_) ?_
   · have x:=M rfl;have aR:_=_:=m 9 18 kR rfl;have aQ:_=_:=m 7 16 kR rfl;have aM:l.cell? ⟨b,10,none⟩=some (.int .i64 n):=(x.cell 10).trans (bI _ _ _).2.2.2.2.2.2.2.2.2.2;have aT:=x.frozen 10;go_simp;refine w (.bool true) _ (aU (Keep.setCell (F:=fun a=>a=b) (Keep.refl _ _) (p:=⟨b,10,none⟩) (.inl rfl) _)) ?_;rw [<-cR S A n];exact x.set 10 _
   exact aD
 · intro aS ae f m a7;replace f:Keep (fun a=>a=b) D ae:=kD f;obtain ⟨b0,ac⟩:∃aI,(fun _ t=>Bk t b 154 (wcells S A (IntKind.i64.wrap (n+B)))) aI ae:=a7 10 dC;simp only [zqq];clear m a7;have aa:=Vis.of_wave f C.out ac;have a4:=VisF.trans aj.out (VisF.of_vis aa);have E:=ak.out.trans (f.mono fun a _ k=>.inl k);have G:=f.bk al.out (fun k=>ay (show c=b from k).symm);obtain ⟨ag,ah,ai⟩:=hqq3 a4 E G;clear aa a4 E G ac f;go_wp2_with fail;go_end0;exact ⟨rfl,ag.out,ah.out,ai.out⟩
def aDr (e f a:Nat) (b:Bool) (c:World) (l:a<=1000):
 Calls prog 115 #[.agg #[e,(f:Int),(a:Int)],.bool b] c fun d g=>d=.returned (.int .i64 ((2*a+(if b then 1 else 0):Nat):Int))/\Below c.heap.size c g:=by
 have j:IntKind.i64.wrap (2*(a:Int))=2*(a:Int):=by rw [IntKind.wrap_i64];omega
 have k:IntKind.i64.wrap (2*(a:Int)+1)=2*(a:Int)+1:=by rw [IntKind.wrap_i64];omega
 go_enter func115,ntmps115;cases b with
 | true=>
   go_wp2_with fail;go_ret;exact ⟨fG (by simp),bR.alloc nL _⟩
 | false=>
   go_wp2_with fail;go_ret;exact ⟨fG (by simp),bR.alloc nL _⟩
def eB (q k:Nat) (m:List Nat) (n l:Nat) (e:World) (j:WaveAt e q k m) (J:n < m.length) (X:m[n]=l) (T:∀y∈m,y < 257) (bU:m.length<=1000):
 Calls prog 53 #[k,(n:Int)] e fun D c6=>D=.returned (.tuple #[(l:Int),.int .i64 0])/\VB q e c6:=by
 have a0:l < 257:=by rw [<-X];exact T _ (zBj J)
 have aQ:=kY m n l (zCm J) T a0;have b8:=nT l a0;have b9:=nV l;have aT:∀a,(aK m a (bE l a))[fP m n l a]?=some (gG l a):=fun a=>by have:=aBl m n a J;rw [X] at this;exact this
 obtain ⟨a9,S,be,w,aY⟩:=j;have cH:=w.lt;have bO:q<=e.heap.size:=oM;have s:=(w.set 10 (.int .i64 0)).alloc (.cells #[(n:Int)] 3);rw [cR] at s;have ak:=VisK.alloc (VB.set_wave w a9 0) (.cells #[(n:Int)] 3);have A:=Bk.new (e.setCell ⟨k,10,none⟩ (.int .i64 0)) 3 #[(n:Int)];rw [show (e.setCell ⟨k,10,none⟩ (.int .i64 0)).heap.size=e.heap.size by simp [World.setCell]] at A;obtain ⟨H,ae⟩:=eqx m.length;rw [ae] at w s J bU;have bL:=w.frozen 10;have c8:e.cell? ⟨k,10,none⟩=some (.int .i64 be):=(w.cell 10).trans (bI S H be).2.2.2.2.2.2.2.2.2.2;obtain ⟨t,aa⟩:=eqx ((e.setCell ⟨k,10,none⟩ (.int .i64 0)).alloc (.cells #[(n:Int)] 3));rw [aa] at s ak A;obtain ⟨aE,aF,aG,aI,aJ,aL,aM,aN,aO,aP,bD⟩:=bI S (H:Int) 0;have cf:∀c,(t.drewN c).cell? k=some (S 0):=fun c=>(s.cell 0).trans aE;have cg:∀c,(t.drewN c).cell? ⟨k,1,none⟩=some (S 1):=fun c=>(s.cell 1).trans aF;have ch:∀c,(t.drewN c).cell? ⟨k,2,none⟩=some (S 2):=fun c=>(s.cell 2).trans aG;have ci:∀c,(t.drewN c).cell? ⟨k,3,none⟩=some (S 3):=fun c=>(s.cell 3).trans aI;have cj:∀c,(t.drewN c).cell? ⟨k,4,none⟩=some (S 4):=fun c=>(s.cell 4).trans aJ;have ck:∀c,(t.drewN c).cell? ⟨k,5,none⟩=some (S 5):=fun c=>(s.cell 5).trans aL;have cl:∀c,(t.drewN c).cell? ⟨k,6,none⟩=some (S 6):=fun c=>(s.cell 6).trans aM;have cn:∀c,(t.drewN c).cell? ⟨k,7,none⟩=some (S 7):=fun c=>(s.cell 7).trans aN;have co:∀c,(t.drewN c).cell? ⟨k,8,none⟩=some (S 8):=fun c=>(s.cell 8).trans aO;have aB:t.cell? ⟨k,9,none⟩=some (.int .i64 (H:Int)):=(s.cell 9).trans aP;have aC:t.cell? e.heap.size=some (.int .i64 (n:Int)):=(A.cell 0).trans rfl;have cp:∀c,(t.drewN c).cell? ⟨k,9,none⟩=some (.int .i64 (H:Int)):=fun c=>aB;have cr:∀c,(t.drewN c).cell? e.heap.size=some (.int .i64 (n:Int)):=fun c=>aC;have bS:decide ((n:Int) < 0)=false:=by simp
 have cG:¬H<=n:=oM;obtain ⟨bp,ce,au,bo,bf,bv,bw,bh,c9⟩:=hqq9 ak s A aY aQ b8 b9 aT T;obtain ⟨ca,bg,cd,aq,cc⟩:=hqq5 ae aa X w J;clear aE aF aG aI aJ aL aM aN aO aP bD ak s A aY aQ b8 b9 aT T ae aa w X J;go_enter func53,ntmps53;go_wp2_with fail;rw [bg.out];clear c8 bL;go_quiet (fail);clear aB aC bS;go_wp2_with fail;go_loopw [6,30] (fun y i wr=>∃a:Nat,a<=9/\i=.int .i64 a/\y=.int .i64 ((bE l a:Nat):Int)/\VB q e wr/\Bk wr e.heap.size 3 #[.int .i64 ((fP m n l a:Nat):Int)]/\e.heap.size < wr.heap.size) (fun _ i _=>9 -(intOf i).toNat)
 case atStart=>exact ⟨0,by omega,rfl,by rw [bv.out];rfl,bp.out.below (below_drewN bR _),by rw [bf.out];exact au.out.drewN _,au.out.lt⟩
 case round=>
  obtain ⟨a,cI,rfl,rfl,a1,A,cE⟩:=hrel;by_cases Y:a < 9
  · have bQ:=ix9 S a Y;obtain ⟨v,P,aj⟩:=bo.out a Y;obtain ⟨ao,ad⟩:=eqx (2 ^ a);obtain ⟨b,E⟩:=eqx (bE l a);have aX:b < ao:=(by rw [<-ad,<-E];exact lM l a a0 oM);rw [ad] at P aj;obtain ⟨a8,cq,aR,cJ,cC⟩:=World.ownsRow.form P oM;rw [aR] at bQ P;obtain ⟨y,a3⟩:=eqx (fP m n l a);obtain ⟨a6,an⟩:=eqx (fP m n l (a+1));obtain ⟨r,O⟩:=eqx (gG l a);have am:=kZ m n l a Y;have a4:=bh.out a;rw [E,a3,O,an] at am;rw [E,a3,O] at a4;have b7:y < (aK m a b).length:=(zAc.1 a4).1;have b6:(aK m a b).getD y false=r:=(by rw [zAb,a4];rfl);have af:=nU l a Y;rw [E,O] at af;rw [E];rw [a3] at A;have cK:(b:Int) < (ao:Int):=oM;have Z:=a1.1.own P dC dC;obtain ⟨bb,bc,bd⟩:=fJ v a ao b aX;have bx:wr.cell? ⟨a8,b*3,none⟩=_:=(World.ownsRow.cellAt Z (b*3) oM).trans bb;have bz:wr.cell? ⟨a8,b*3+1,none⟩=_:=(World.ownsRow.cellAt Z (b*3+1) oM).trans bc;have bA:wr.cell? ⟨a8,b*3+2,none⟩=_:=(World.ownsRow.cellAt Z (b*3+2) oM).trans bd;obtain ⟨av,bt,aA,bs,bl,Q,bj,cb,bu⟩:=hqq9 A am b7 b6 af (aj b aX) E O an;have a7:=lhd a1;clear P aj aR ad E a3 an O am a4 b7 b6 af a1 A Z bb bc bd;go_wp2_with fail;obtain ⟨L,M⟩:=eqx ((wr.alloc (.cells #[.pointer (some ⟨v b,0,none⟩),(a:Int),(b:Int)] 157)).alloc (.cells #[.bool false] 4));have I:Below wr.heap.size wr L:=(by rw [<-M];exact (bR.alloc nL _).alloc (by simp) _);have aZ:Bk L wr.heap.size 157 #[.pointer (some ⟨v b,0,none⟩),(a:Int),(b:Int)]:=(by rw [<-M];exact (Bk.new wr _ _).alloc _);have aU:Bk L (wr.heap.size+1) 4 #[.bool false]:=(by rw [<-M];have j:=Bk.new (wr.alloc (.cells #[.pointer (some ⟨v b,0,none⟩),(a:Int),(b:Int)] 157)) 4 #[.bool false];rw [World.size_alloc] at j;exact j);rw [M];have b1:VB q e L:=a7.out.below I;obtain ⟨c3,b5⟩:=b1.1.waveC aq.out;have b0:=Q.out.2.vis a7.out.1;have ab:=av.out.below I av.out.lt;refine (aGU k (v b) e.heap.size (wr.heap.size+1) S H c3 a b _ (aK m a b) y wr L b5 b0 (Vis.of_below I) oM ab aU aA.out).mono ?_;rintro D C ⟨rfl,V,aW,U⟩;rw [bs.out] at U;have ac:=V.bk ab dC dC (fun j=>absurd (show e.heap.size=wr.heap.size+1 from j) oM);have ai:=V.bk aZ dC dC (fun j=>absurd (show wr.heap.size=wr.heap.size+1 from j) oM)
    have b2:VB q wr C:=⟨VisF.to_vis (VisF.trans (VisF.of_vis (Vis.of_below I)) V) (fun r w D=>by have:r=wr.heap.size+1:=D;omega),(Keep.of_below I).trans (aW.mono fun r _ D=>by
        rcases D with rfl | rfl | rfl;exact a9;exact Q.out.1
        · omega)⟩
    have b4:=a7.out.trans b2;obtain ⟨aw,ay,ar,az⟩:=hqq4 ac ai U b4;have cF:=ac.lt;have cM:=ai.lt;have cB:=U.lt;obtain ⟨ap,ah⟩:=eqx (bE l (a+1));have ag:=bl.out;rw [ah] at ag;obtain ⟨bn,bm⟩:=hqq2 ah ag;have bV:b<=1000:=(by have bM:=lM l a a0 oM;have cA:2 ^ a<=2 ^ 9:=zBp dC oM;rw [bj.out] at bM;omega);clear M I aZ aU b1 b5 b0 ab V aW U ac ai b2 b4 ah ag bx bz bA;go_wp2_with fail;refine wp_region_any kR ?_;refine cD q 8 [41,42,43,44,45,46,47,48] (fun _=>False) 7 [] (fun _=>True) (is (ap:Int)) [is k,is (.agg #[.pointer (some ⟨v b,0,none⟩),(a:Int),(b:Int)]),is (y:Int),is (.bool r),is (a6:Int),is (.agg #[.pointer (some ⟨v b,0,none⟩),(a:Int),(b:Int)]),is (.bool r),dA] _ _ rfl dC kR kR kR (trivial) (fun _ _ _ _ _=>trivial) (iG _ _) tA1 ?_ ?_
    · refine bG ?_;refine pH3 0 (.pointer (some k)) ?_;refine sC3 (fun u g d _ _ _ B _ _ _ _ o=>?_) ?_
      · replace d:VFB q (fun _=>False) C g:=fD d;have bK:u (.tmp 9)=.pointer (some ⟨wr.heap.size,0,none⟩):=B 9 kR;have G:=d.1.bk ay.out dC dC (fun j=>j);have c0:g.cell? ⟨wr.heap.size,0,none⟩=some (.pointer (some ⟨v b,0,none⟩)):=(G.cell 0).trans rfl;have c1:g.cell? ⟨wr.heap.size,1,none⟩=some (.int .i64 (a:Int)):=(G.cell 1).trans rfl;have c2:g.cell? ⟨wr.heap.size,2,none⟩=some (.int .i64 (b:Int)):=(G.cell 2).trans rfl;go_simp;exact o _ _ (aH vR) rfl
      refine sC3 (fun u g d _ _ _ B _ _ _ _ o=>?_) ?_
      · replace d:VFB q (fun _=>False) C g:=fD d;have cs:u (.tmp 3)=.pointer (some e.heap.size):=B 3 kR;have cN:g.cell? e.heap.size=some (.int .i64 (y:Int)):=((d.1.bk aw.out dC dC (fun j=>j)).cell 0).trans rfl;go_simp;exact o _ _ (aH vR) rfl
      refine sC3 (fun u g d _ _ _ B _ _ _ _ o=>?_) ?_
      · replace d:VFB q (fun _=>False) C g:=fD d;have bF:u (.tmp 10)=.pointer (some ⟨wr.heap.size+1,0,none⟩):=B 10 kR;have bB:g.cell? ⟨wr.heap.size+1,0,none⟩=some (.bool r):=((d.1.bk ar.out dC dC (fun j=>j)).cell 0).trans rfl;go_simp;exact o _ _ (aH vR) rfl
      refine sC3 (fun _ g d _ _ _ _ x _ _ _ o=>?_) ?_
      · replace d:VFB q (fun _=>False) C g:=fD d;have ct:_=_:=x 0 41 kR rfl;have cu:_=_:=x 1 42 kR rfl;have cv:_=_:=x 2 43 kR rfl;have cw:_=_:=x 3 44 kR rfl;go_simp;have K:=VFB.to_vb d (fun r _ j=>j);have b3:=az.out.trans K;obtain ⟨c4,bY⟩:=b3.1.waveC aq.out;have bW:=Q.out.2.vis b3.1;refine (mA k (v b) S H c4 a b (aK m a b) y r g bY bW (zCm aA.out)).mono ?_;rintro D c7 ⟨rfl,a2⟩;rw [bt.out];exact o _ _ (aH (a2.mono fun r w=>by rcases w with rfl | rfl;exact a9;exact Q.out.1)) rfl
      refine sC3 (fun u g d _ _ _ B _ _ _ _ o=>?_) ?_
      · replace d:VFB q (fun _=>False) C g:=fD d;have bK:u (.tmp 9)=.pointer (some ⟨wr.heap.size,0,none⟩):=B 9 kR;have G:=d.1.bk ay.out dC dC (fun j=>j);have c0:g.cell? ⟨wr.heap.size,0,none⟩=some (.pointer (some ⟨v b,0,none⟩)):=(G.cell 0).trans rfl;have c1:g.cell? ⟨wr.heap.size,1,none⟩=some (.int .i64 (a:Int)):=(G.cell 1).trans rfl;have c2:g.cell? ⟨wr.heap.size,2,none⟩=some (.int .i64 (b:Int)):=(G.cell 2).trans rfl;go_simp;exact o _ _ (aH vR) rfl
      refine sC3 (fun u g d _ _ _ B _ _ _ _ o=>?_) ?_
      · replace d:VFB q (fun _=>False) C g:=fD d;have bF:u (.tmp 10)=.pointer (some ⟨wr.heap.size+1,0,none⟩):=B 10 kR;have bB:g.cell? ⟨wr.heap.size+1,0,none⟩=some (.bool r):=((d.1.bk ar.out dC dC (fun j=>j)).cell 0).trans rfl;go_simp;exact o _ _ (aH vR) rfl
      refine sC3 (fun _ g _ _ _ _ _ x _ _ _ o=>?_) ?_
      · have cx:_=_:=x 5 46 kR rfl;have cy:_=_:=x 6 47 kR rfl;go_simp;refine (aDr (v b) a b r g bV).mono ?_;rintro D c7 ⟨rfl,bP⟩;rw [<-bm.out];exact o _ _ (aH (VisK.of_below bP)) rfl
      exact aD
    · intro u a5 z d x aS;replace d:VFB q (fun _=>False) C a5:=fD d;have bH:u (.tmp 45)=.int .i64 (a6:Int):=x 4 45 dC rfl;have bJ:u (.tmp 48)=.int .i64 (ap:Int):=x 7 48 dC rfl;obtain ⟨c5,ba⟩:=aS 7 dC;have bZ:(is (ap:Int)) c5 a5:=ba;clear ba aS;simp only [zqq];rw [bH];rw [bJ];clear x;have K:=VFB.to_vb d (fun r _ j=>j);have W:=K.1.bk aw.out dC dC;have cm:=W.cell 0;have cz:=W.frozen 0;have cL:=K.1.size;obtain ⟨br,bi⟩:=hqq2 K W;clear K W d bZ;change wpAny prog Region.Mode.any _ _ (2+z) (bX 8 10) _ a5;rw [show 2+z=z+1+1 by omega];refine bC (f:=z+1) (i:=8) kR ?_;refine bN rfl rfl ?_;generalize o:wpAny prog _ _ _ (z+1) _=K5;go_simp;subst o;refine bC (f:=z) (i:=9) kR ?_;refine bN rfl rfl ?_;generalize o:wpAny prog _ _ _ z _=K5;go_simp;subst o;refine bT kR ?_;have aV:=bi.out.set 0 (.int .i64 (a6:Int));have al:=az.out.trans br.out;have a2:VB q e (a5.setCell e.heap.size (.int .i64 (a6:Int))):=⟨Vis.fresh al.1 (p:=e.heap.size) nL _,Keep.setCell (F:=fun r=>q<=r) al.2 (p:=e.heap.size) (.inl bO) _⟩;obtain ⟨bq,ax⟩:=hqq2 a2 aV;clear al a2 aV;go_wp2_with fail;go_roundw
      case rel=>exact ⟨a+1,by omega,by go_num,by rw [bn.out],bq.out,by rw [bu.out];exact ax.out,ax.out.lt⟩
      case measure=>simp [intOf];omega
  · obtain rfl:a=9:=oM;rw [bw.out];go_wp2_with fail;go_ret2;exact ⟨rfl,a1⟩
end
section
def inR (a b:Nat):Nat:=if b<=a then a+1 else a
def aW (a b:Nat):Nat:=if b < a then a - 1 else a
abbrev ro (R:List Nat) (a:Nat):Nat:=R.idxOf a
def cG {R:List Nat} {a:Nat} (b:a∈R):R[ro R a]?=some a:=zAc.2 ⟨List.idxOf_lt_length_iff.2 b,List.getElem_idxOf _⟩
def fR {R:List Nat} (e:R.Nodup) {a b:Nat} (d:R[a]?=some b):ro R b=a:=by
 obtain ⟨f,c⟩:=zAc.1 d;subst c;exact e.idxOf_getElem a f
def eV {R:List Nat} {b c:Nat} (e:b∈R) (f:c∈R) (d:ro R b=ro R c):b=c:=by
 have a:=cG e;rw [d,cG f] at a;injection a with a;exact a.symm
def uV {R:List Nat} (n:R.Nodup) {a t d:Nat} (g:R[a]?=some d) (u:t < R.length):
 (aP (aF R a) t d).Perm R/\ro (aP (aF R a) t d) d=t/\∀c∈R,c≠d->ro (aP (aF R a) t d) c=inR (aW (ro R c) a) t:=by
 have f:=(zAc.1 g).1;have q:=dE R f;have l:(aP (aF R a) t d).Perm R:=(fC _ _ _).trans (eM g);have k:(aP (aF R a) t d).Nodup:=l.nodup_iff.2 n;refine ⟨l,?_,fun c o p=>?_⟩
 · refine fR k ?_;rw [iR _ _ oM,zBw oM,zBx rfl]
 · have b:=cG o;have s:ro R c≠a:=fun m=>by rw [m,g] at b;injection b with b;exact p b.symm
   refine fR k ?_;have r:=(zAc.1 b).1;rw [iR _ _ oM];unfold inR aW;by_cases j:a < ro R c;rw [zBx j];by_cases e:t<=ro R c - 1;rw [zBx e,zBw oM,zBw oM,dZ _ f,zBw oM];rw [<-b];congr 1;omega;rw [zBw e,zBx oM,dZ _ f,zBw oM,<-b];congr 1;omega
   · rw [zBw j];by_cases e:t<=ro R c
     · rw [zBx e,zBw oM,zBw oM,dZ _ f,zBx oM,<-b];congr 1
     · rw [zBw e,zBx oM,dZ _ f,zBx oM,<-b]
def sW (S R:List Nat) (a b:Nat):Prop:=S.getD a 0 < S.getD b 0∨(S.getD a 0=S.getD b 0/\ro R (a+1) < ro R (b+1))
structure Near (S R:List Nat) (N i:Nat):Prop where
 endk:EndOk S N
 perm:R.Perm (List.range (N+1))
 first:∀p q,p<=N->q<=N->ro R p < ro R q->S.getD p 0<=S.getD q 0
 cons:∀p q,p<=N->q<=N->p≠q->p+1≠i->q+1≠i->(ro R p < ro R q↔sW S R p q)
section
variable {S R : List Nat} {N i : Nat}
def Near.nodup (a:Near S R N i):R.Nodup:=a.perm.nodup_iff.2 List.nodup_range
def Near.mem (b:Near S R N i) {a:Nat}:a∈R↔a<=N:=by
 rw [b.perm.mem_iff,zCj];omega
def Near.len (a:Near S R N i):R.length=N+1:=by simpa using a.perm.length_eq
def aCC {S:List Nat} {a b:Nat} (k:a < S.length) (l:b < S.length) (j:S.getD a 0=S.getD b 0) (e:sufLt S (a+1) (b+1)):sufLt S a b:=by
 obtain ⟨m,d,n,f,g⟩:=e;refine ⟨m+1,d+1,by omega,fun c o=>?_,?_⟩
 · cases c with
   | zero=>
     rw [zBq,zBq,eY k,eY l,j]
   | succ c=>
     have:=f c oM;rw [show a+(c+1)=a+1+c by omega,show b+(c+1)=b+1+c by omega];exact this
 rw [show a+(d+1)=a+1+d by omega,show b+(d+1)=b+1+d by omega];exact g
def aFr {S:List Nat} {a b:Nat} (c:a < S.length) (d:b < S.length) (e:S.getD a 0 < S.getD b 0):sufLt S a b:=by
 refine ⟨1,0,by omega,fun g f=>by omega,?_⟩;rw [zBq,zBq,eY c,eY d];omega
def Near.sorted (c:Near S R N 0):IsSuf S R:=by
 obtain ⟨r,C,k⟩:=c.endk;have B:∀e a b,N < a+e->a<=N->b<=N->a≠b->ro R a < ro R b->sufLt S a b:=by
  intro e
  induction e with
  | zero=>intro a b u o;omega
  | succ e A=>
    intro a b u o z y v;rcases (c.cons a b o z y oM oM).1 v with j |⟨j,s⟩;exact aFr oM oM j
    · have D:a≠N:=fun d=>by subst d;have:=k b oM;omega
      have E:b≠N:=fun d=>by subst d;have:=k a oM;omega
      exact aCC oM oM j (A (a+1) (b+1) oM oM oM oM s)
 refine ⟨by rw [r];exact c.perm,?_⟩;rw [zAr];intro f g l m t;have n:=c.nodup;have w:R[f]<=N:=c.mem.1 (zBj l);have x:R[g]<=N:=c.mem.1 (zBj m);have p:ro R R[f]=f:=fR n (zAa l);have q:ro R R[g]=g:=fR n (zAa m);exact B (N+1) _ _ oM w x (fun d=>by rw [d,q] at p;omega) (by rw [p,q];exact t)
def IsSuf.near (p:IsSuf S R) (y:EndOk S N):Near S R N 0:=by
 obtain ⟨t,w,m⟩:=y;have B:R.Perm (List.range (N+1)):=by rw [<-t];exact p.perm
 have G:=p.nodup;have n:∀a,a<=N->a∈R:=fun a c=>p.mem oM;have q:∀a b,a<=N->b<=N->ro R a < ro R b->sufLt S a b:=fun a b c e j=>by have C:=(zAc.1 (cG (n a c)));have E:=(zAc.1 (cG (n b e)));obtain ⟨d,f⟩:=C;obtain ⟨l,x⟩:=E;have:=zAr.1 p.sorted _ _ d l j;rwa [f,x] at this
 have s:∀a b,a<=N->b<=N->sufLt S a b->ro R a < ro R b:=fun a b c e j=>by rcases Nat.lt_trichotomy (ro R a) (ro R b) with d | d | d;exact d;have:=eV (n a c) (n b e) d;subst this;exact (j.asymm j).elim;exact (j.asymm (q b a e c d)).elim
 have u:∀a b,a<=N->b<=N->sufLt S a b->S.getD a 0<=S.getD b 0:=fun a b c e ⟨F,g,d,f,l⟩=>by
  cases g with
  | zero=>
    rw [zBq,zBq,eY oM,eY oM] at l;omega
  | succ g=>
    have:=f 0 oM;rw [zBq,zBq,eY oM,eY oM] at this;omega
 have v:∀a b,a<=N->b<=N->a≠b->S.getD a 0=S.getD b 0->(sufLt S a b↔sufLt S (a+1) (b+1)):=fun a b c e r z=>by
  constructor
  · rintro ⟨F,g,d,f,l⟩;cases g with
    | zero=>
      rw [zBq,zBq,eY oM,eY oM] at l;omega
    | succ g=>
      refine ⟨g+1,g,by omega,fun o n=>?_,?_⟩;have:=f (o+1) oM;rw [show a+1+o=a+(o+1) by omega,show b+1+o=b+(o+1) by omega];exact this;rw [show a+1+g=a+(g+1) by omega,show b+1+g=b+(g+1) by omega];exact l
  exact aCC oM oM z
 refine ⟨⟨t,w,m⟩,B,fun a b c e j=>u a b c e (q a b c e j),fun a b c e r _ _=>?_⟩;unfold sW;constructor
 · intro j;have d:=q a b c e j;rcases Nat.lt_or_eq_of_le (u a b c e d) with f | f;exact .inl f
   · refine .inr ⟨f,?_⟩;have A:a≠N:=fun k=>by subst k;have:=m b oM;omega
     have D:b≠N:=fun k=>by subst k;have:=m a oM;omega
     exact s _ _ oM oM ((v a b c e r f).1 d)
 · rintro (d |⟨d,f⟩);exact s a b c e (aFr oM oM d)
   · have A:a≠N:=fun k=>by subst k;have:=m b oM;omega
     have D:b≠N:=fun k=>by subst k;have:=m a oM;omega
     exact s a b c e ((v a b c e r d).2 (q _ _ oM oM f))
def aA6 (S R:List Nat) (N b c:Nat):Nat:=(List.range (N+1)).countP fun a=>decide (S.getD a 0 < b∨(S.getD a 0=b/\ro R (a+1) < c))
def zX {R:List Nat} (j:R.Nodup) (b:Nat) (c:Nat->Bool):(R.take b).countP c=R.countP fun a=>c a&&decide (ro R a < b):=by
 have k:R.countP (fun a=>c a&&decide (ro R a < b))=(R.take b).countP (fun a=>c a&&decide (ro R a < b))+(R.drop b).countP (fun a=>c a&&decide (ro R a < b)):=by rw [<-List.countP_append,zAu]
 have l:(R.drop b).countP (fun a=>c a&&decide (ro R a < b))=0:=by rw [List.countP_eq_zero];intro a e;obtain ⟨f,g,d⟩:=zBo.1 e;rw [List.getElem_drop] at d;have:ro R a=b+f:=fR j (by rw [<-d];exact zAa _);simp;omega
 have m:(R.take b).countP (fun a=>c a&&decide (ro R a < b))=(R.take b).countP c:=by refine List.countP_congr fun a e=>?_;obtain ⟨f,g,d⟩:=zBo.1 e;rw [zAj] at g;rw [List.getElem_take] at d;have:ro R a=f:=fR j (by rw [<-d];exact zAa _);have n:ro R a < b:=oM;simp [n]
 rw [k,l,m];rfl
def aBg {b:List Nat} {c d:Nat->Bool} (e:∀a∈b,¬(c a=true/\d a=true)):b.countP c+b.countP d=b.countP fun a=>c a||d a:=by
 induction b with
 | nil=>rfl
 | cons a b g=>
   have m:=e a (by simp);rw [zBn,zBn,zBn,<-g fun j f=>e j (by simp [f])];cases k:c a <;> cases l:d a <;> simp_all <;> omega
def qU (n:EndOk S N) (c:R.Perm (List.range (N+1))) {a:Nat} (r:0 < a) (d:Nat):cL (aE S R) a d=aA6 S R N a d:=by
 obtain ⟨e,f,q⟩:=n;have o:R.Nodup:=c.nodup_iff.2 List.nodup_range;unfold cL aA6;have g:(aE S R).countP (fun p=>decide (p < a))=(List.range (N+1)).countP fun b=>decide (S.getD b 0 < a):=by
  unfold aE;rw [List.countP_map,c.countP_eq];refine gF _ _ ?_ fun b c=>?_;simp only [Function.comp];rw [bV oM,e];rfl
  · simp only [Function.comp];rw [aX oM]
 have j:((aE S R).take d).count a=(List.range (N+1)).countP fun b=>decide (S.getD b 0=a)&&decide (ro R (b+1) < d):=by
  unfold aE;rw [<-List.map_take,List.count_eq_countP,List.countP_map,zX o,c.countP_eq];refine gF _ _ ?_ fun b c=>?_
  · simp only [Function.comp];rw [bV oM,e];have:(N+1 - 1)=N:=oM;rw [this,f];have m:¬(0:Nat)=a:=oM;simp [m]
  simp only [Function.comp];rw [aX oM];rfl
 rw [g,j,aBg]
 · refine List.countP_congr fun b _=>?_;simp
 intro b _ ⟨k,l⟩;simp at k l;omega
def aAX {K:Nat->Bool}:∀ {d:List Nat},d.Pairwise (fun a o=>K o=true->K a=true)->∀(c a:Nat),d[c]?=some a->(K a=true↔c < d.countP K)
 | [],_,c,a,b=>by simp at b
 | g::d,hO,c,a,b=>by
   obtain ⟨k,l⟩:=List.pairwise_cons.1 hO;cases e:K g with
   | true=>
     rw [List.countP_cons_of_pos e];cases c with
     | zero=>
       injection b with b;subst b;simp [e]
     | succ c=>
       rw [aAX l c a b];omega
   | false=>
     have j:(g::d).countP K=0:=by
        rw [List.countP_eq_zero];intro p f;rcases List.mem_cons.1 f with rfl | f
        · simp [e]
        · intro m;have:=k p f m;rw [e] at this;cases this
     rw [j];have n:a∈g::d:=zAd b;have:=(List.countP_eq_zero.1 j) a n;simp [this]
def KB (S R:List Nat) (i a:Nat):Bool:=decide (S.getD a 0 < S.getD i 0∨(S.getD a 0=S.getD i 0/\ro R (a+1) < ro R (i+1)))
def aJm (a:Near S R N (i+1)) (u:i<=N):∀b,b<=N->b≠i->(KB S R i b=true↔aW (ro R b) (ro R i) < aA6 S R N (S.getD i 0) (ro R (i+1))):=by
 intro b z I;have m:=a.nodup;have s:=cG (a.mem.2 u);have t:=cG (a.mem.2 z);have v:=(zAc.1 s).1;have e:=eM s;have U:(aF R (ro R i)).Nodup:=(List.nodup_cons.1 (e.nodup_iff.2 m)).2;have V:ro R b≠ro R i:=fun c=>I (eV (a.mem.2 z) (a.mem.2 u) c);have D:(aF R (ro R i))[aW (ro R b) (ro R i)]?=some b:=by
  unfold aW;rw [dZ _ v];by_cases r:ro R i < ro R b;rw [zBx r,zBw oM,<-t];congr 1;omega
  · rw [zBw r,zBx oM,<-t]
 have F:aA6 S R N (S.getD i 0) (ro R (i+1))=(aF R (ro R i)).countP (KB S R i):=by
  unfold aA6;rw [<-a.perm.countP_eq,<-e.countP_eq,zBn];have B:decide (S.getD i 0 < S.getD i 0∨(S.getD i 0=S.getD i 0/\ro R (i+1) < ro R (i+1)))=false:=by rw [decide_eq_false_iff_not];omega
  rw [B];rfl
 rw [F];refine aAX ?_ _ _ D;rw [zAr];intro n o C E T p;have j:(aF R (ro R i))[n]?=some (aF R (ro R i))[n]:=zAa C;have k:(aF R (ro R i))[o]?=some (aF R (ro R i))[o]:=zAa E;obtain ⟨f,J⟩:=eqx ((aF R (ro R i))[n]);obtain ⟨g,O⟩:=eqx ((aF R (ro R i))[o]);rw [J] at j⊢;rw [O] at k p;have y:=(List.nodup_cons.1 (e.nodup_iff.2 m)).1;have w:=zAd j;have x:=zAd k;have W:f≠i:=fun c=>y (by rw [c] at w;exact w);have X:g≠i:=fun c=>y (by rw [c] at x;exact x);have L:f∈R:=e.subset (by simp [zAd j]);have Q:g∈R:=e.subset (by simp [zAd k]);have K:=a.mem.1 L;have P:=a.mem.1 Q;have A:∀ {d q:Nat},(aF R (ro R i))[d]?=some q->ro R q=if d < ro R i then d else d+1:=fun {d q} l=>by rw [dZ _ v] at l;split at l;rw [zBx (by assumption)];exact fR m l;rw [zBw (by assumption)];exact fR m l
 have H:ro R f < ro R g:=by rw [A j,A k];split <;> split <;> omega
 have M:f≠g:=fun c=>by subst c;omega
 have G:=(a.cons f g K P M oM oM).1 H;unfold KB at p⊢;rw [zCa] at p⊢;unfold sW at G;omega
def tgt (S R:List Nat) (i:Nat):Nat:=cL (aE S R) (S.getD i 0) (ro R (i+1))
def aG8 (a:Near S R N (i+1)) (b:i < N):tgt S R i=aA6 S R N (S.getD i 0) (ro R (i+1)):=qU a.endk a.perm (a.endk.pos i b) _
def aG7 (c:Near S R N (i+1)) (e:i < N):tgt S R i < N+1:=by
 rw [aG8 c e];unfold aA6;have d:(List.range (N+1)).countP (fun a=>decide (S.getD a 0 < S.getD i 0∨(S.getD a 0=S.getD i 0/\ro R (a+1) < ro R (i+1))))≠(List.range (N+1)).length:=fun b=>by have:=(List.countP_eq_length.1 b) i (by simp;omega);rw [zCa] at this;omega
 have f:=zBh (p:=fun a=>decide (S.getD a 0 < S.getD i 0∨(S.getD a 0=S.getD i 0/\ro R (a+1) < ro R (i+1)))) (l:=List.range (N+1));rw [zCi] at d f;omega
def aFn (k:Near S R N (i+1)) (I:i < N) {g:List Nat} {n:Nat} (J:n=tgt S R i) (z:g.Perm R) (F:ro g i=n) (m:∀a∈R,a≠i->ro g a=inR (aW (ro R a) (ro R i)) n) (B:Nat) (U:B=i∨(ro R i=n/\B=0)):Near S g N B:=by
 have x:=aJm k oM;rw [<-aG8 k I,<-J] at x;have l:∀a,a<=N->a∈R:=fun a d=>k.mem.2 d;have t:∀a,a<=N->a≠i->ro R a≠ro R i:=fun a d e j=>e (eV (l a d) (l i oM) j);have u:∀a b,a<=N->b<=N->a≠i->b≠i->(ro g a < ro g b↔ro R a < ro R b):=fun a b d f e c=>by rw [m a (l a d) e,m b (l b f) c];have Q:=t a d e;have T:=t b f c;unfold inR aW;split <;> split <;> split <;> split <;> omega
 have E:∀a,a<=N->a≠i->(ro g a < ro g i↔KB S R i a=true):=fun a d e=>by rw [x a d e,F,m a (l a d) e];unfold inR;split <;> omega
 have D:∀a,a<=N->a≠i->(ro g i < ro g a↔¬KB S R i a=true):=fun a d e=>by rw [x a d e,F,m a (l a d) e];unfold inR;split <;> omega
 have G:∀a,a < N->a≠i->(a+1≠i∨ro R i=n)->(ro R (a+1) < ro R (i+1)↔ro g (a+1) < ro g (i+1)):=fun a d e q=>by
  rcases q with q | q;exact (u (a+1) (i+1) oM oM q oM).symm
  · have r:∀b,b<=N->ro g b=ro R b:=fun b f=>by
        by_cases c:b=i;subst c;omega
        · rw [m b (l b f) c,q];have:=t b f c;unfold inR aW;split <;> split <;> omega
    rw [r _ oM,r _ oM]
 obtain ⟨O,P,C⟩:=k.endk;refine ⟨k.endk,z.trans k.perm,fun a b d f y=>?_,fun a b d f A X Y=>?_⟩;by_cases e:a=i;subst e;by_cases c:b=a;subst c;omega;have:=(D b f c).1 y;unfold KB at this;rw [zCa] at this;omega;by_cases c:b=i;subst c;have:=(E a d e).1 y;unfold KB at this;rw [zCa] at this;omega;exact k.first a b d f ((u a b d f e c).1 y)
 · have w:∀o p,o<=N->p<=N->o≠p->S.getD o 0=S.getD p 0->o < N/\p < N:=fun o p K L Z a0=>by refine ⟨Nat.lt_of_le_of_ne K fun j=>?_,Nat.lt_of_le_of_ne L fun j=>?_⟩;subst j;have:=C p oM;omega;subst j;have:=C o oM;omega
   by_cases e:a=i;subst e;have c:b≠a:=fun j=>A j.symm;rw [D b f c];unfold KB sW;rw [zCa];by_cases s:S.getD b 0=S.getD a 0;obtain ⟨v,H⟩:=w b a f d c s;have:=G b v c oM;have V:ro R (b+1)≠ro R (a+1):=fun j=>c (by have:=eV (l (b+1) oM) (l (a+1) oM) j;omega);have W:ro g (b+1)≠ro g (a+1):=fun j=>c (by have:=eV ((z.trans k.perm).mem_iff.2 (by simp;omega)) ((z.trans k.perm).mem_iff.2 (by simp;omega)) j;omega);omega;omega
   · by_cases c:b=i;subst c;rw [E a d e];unfold KB sW;rw [zCa];by_cases s:S.getD a 0=S.getD b 0;obtain ⟨v,H⟩:=w a b d f e s;have:=G a v e oM;omega;omega
     · rw [u a b d f e c,k.cons a b d f A oM oM];unfold sW;by_cases s:S.getD a 0=S.getD b 0
       · obtain ⟨v,H⟩:=w a b d f A s;by_cases M:ro R i=n
         · have r:∀b,b<=N->ro g b=ro R b:=fun b f=>by
            by_cases c:b=i;subst c;omega
            · rw [m b (l b f) c,M];have:=t b f c;unfold inR aW;split <;> split <;> omega
           rw [r _ oM,r _ oM]
         · rw [u (a+1) (b+1) oM oM oM oM]
       omega
end
end
section
open Go.RowKit
def kC (a:List (Nat×Nat)) (c e:Nat) (r:c < a.length):(bW a).set (c*2) (.int .i64 (e:Int))=bW (a.set c (e,aI a c)):=by
 apply List.ext_getElem?;intro b;have s:=dH a;have p:=dH (a.set c (e,aI a c));rw [zAt] at p;rw [zBm];by_cases q:b < a.length*2
 · have f:b / 2 < a.length:=oM;obtain ⟨l,m⟩:=cK a (b / 2) f;obtain ⟨j,k⟩:=cK (a.set c (e,aI a c)) (b / 2) (by rw [zAt];exact f);have o:aB (a.set c (e,aI a c)) (b / 2)=if c=b / 2 then e else aB a (b / 2):=by
    unfold aB;rw [zAb,zBm,zAb];by_cases d:c=b / 2
    · simp [d,f]
    · simp [d]
   have n:aI (a.set c (e,aI a c)) (b / 2)=aI a (b / 2):=by
    unfold aI;rw [zAb,zBm,zAb,zAb];by_cases d:c=b / 2
    · subst d;simp [f]
    · simp [d]
   rw [o] at j;rw [n] at k;by_cases t:b % 2=0
   · have g:b / 2*2=b:=oM;rw [g] at l j;rw [j];by_cases d:c*2=b
     · rw [zBx d,zBx oM,zBx oM]
     · rw [zBw d,l,zBw oM]
   · have g:b / 2*2+1=b:=oM;rw [g] at m k;rw [k,zBw oM,m]
 · rw [zBw oM,zBg oM,zBg oM]
def mV (a:List (Nat×Nat)) (c e:Nat) (r:c < a.length):(bW a).set (c*2+1) (.int .i64 (e:Int))=bW (a.set c (aB a c,e)):=by
 apply List.ext_getElem?;intro b;have s:=dH a;have p:=dH (a.set c (aB a c,e));rw [zAt] at p;rw [zBm];by_cases q:b < a.length*2
 · have f:b / 2 < a.length:=oM;obtain ⟨l,m⟩:=cK a (b / 2) f;obtain ⟨j,k⟩:=cK (a.set c (aB a c,e)) (b / 2) (by rw [zAt];exact f);have o:aB (a.set c (aB a c,e)) (b / 2)=aB a (b / 2):=by
    unfold aB;rw [zAb,zBm,zAb,zAb];by_cases d:c=b / 2
    · subst d;simp [f]
    · simp [d]
   have n:aI (a.set c (aB a c,e)) (b / 2)=if c=b / 2 then e else aI a (b / 2):=by
    unfold aI;rw [zAb,zBm,zAb];by_cases d:c=b / 2
    · simp [d,f]
    · simp [d]
   rw [o] at j;rw [n] at k;by_cases t:b % 2=0
   · have g:b / 2*2=b:=oM;rw [g] at l j;rw [j,zBw oM,l]
   · have g:b / 2*2+1=b:=oM;rw [g] at m k;rw [k];by_cases d:c*2+1=b
     · rw [zBx d,zBx oM,zBx oM]
     · rw [zBw d,m,zBw oM]
 · rw [zBw oM,zBg oM,zBg oM]
def dN {a:Int} (b:-9223372036854775808<=a) (c:a<=9223372036854775807):wrap64 a=a:=by unfold wrap64;omega
def qQ {g j:World} {a d e:Nat} {b:TypeId} {f:Value} {k:List Value} (l:g.ownsRow a b e f d k) (m:j.heap=g.heap):j.ownsRow a b e f d k:=aA l fun n o _ c=>by unfold Bk at c⊢;rw [m];exact c
def kU (a:List (Nat×Nat)) (b:Nat) (d:b < a.length):a.set b (aB a b,aI a b)=a:=by
 have c:(aB a b,aI a b)=a[b]:=by unfold aB aI;rw [zAb,zAa d];rfl
 rw [c,List.set_getElem_self]
def mvR (a c b:Nat):Nat:=if b=a then c else inR (aW b a) c
def aEW (w e g y o d a:Nat) (b:List (Nat×Nat)) (j:World) (f:j.ownsRow w 170 2 (.slice (some e) g y) g (bW b)) (k:a < b.length) (v:Bk j o 3 #[(d:Int)]) (K:aB b a<=1000000000000):
 Calls prog 119 #[.pointer (some ⟨e,a*2,none⟩),o] j fun I B=>I=.returned (.tuple #[])/\B.ownsRow w 170 2 (.slice (some e) g y) g (bW (b.set a (inR (aB b a) d,aI b a)))/\Keep (fun m=>m=e) j B:=by
 obtain ⟨z,A⟩:=cK b a k;have L:b.length=g:=by have J:=f.1;rw [dH] at J;omega
 have G:=(World.ownsRow.cellAt f (a*2) oM).trans z;have H:=(World.ownsRow.cellAt f (a*2+1) oM).trans A;have Y:j.cell? o=some (.int .i64 (d:Int)):=(v.cell 0).trans rfl;obtain ⟨Q,q⟩:=fL f;have U:=q.frozen (a*2);have V:=q.lt;have W:=v.lt;have l:=kU b a k;have u:=fun O=>kC b a O k;obtain ⟨c,t⟩:=eqx (aB b a);obtain ⟨M,s⟩:=eqx (aI b a);rw [t] at G l K;rw [s] at H l u;rw [t,s];obtain ⟨x,D,E⟩:=hqq3 f l u;clear f k v z A q l u L t s;by_cases X:d<=c
 · have P:decide ((c:Int)>=(d:Int))=true:=zBz oM;have T:wrap64 ((c:Int)+1)=((c+1:Nat):Int):=(by unfold wrap64;omega);have r:=(World.ownsRow.stored x.out (a*2) (.int .i64 ((c+1:Nat):Int))).1;rw [E.out] at r;have C:=lhd r;clear r;go_enter func119,ntmps119;go_wp2_with fail;go_quiet (fail);go_wp2_with fail;go_end0;refine ⟨rfl,?_,Keep.setCell (F:=fun m=>m=e) ((Keep.refl _ _).drewN _) (p:=⟨e,a*2,none⟩) (.inl rfl) _⟩;have n:inR (c) d=c+1:=(by unfold inR;rw [zBx oM]);rw [n];exact C.out
 · have P:decide ((c:Int)>=(d:Int))=false:=zBy oM;go_enter func119,ntmps119;go_wp2_with fail;go_quiet (fail);go_wp2_with fail;go_end0;refine ⟨rfl,?_,(Keep.refl _ _).drewN _⟩;have n:inR (c) d=c:=(by unfold inR;rw [zBw oM]);rw [n,D.out];exact x.out
def aE2 (w e g y o d a:Nat) (b:List (Nat×Nat)) (j:World) (f:j.ownsRow w 170 2 (.slice (some e) g y) g (bW b)) (k:a < b.length) (v:Bk j o 3 #[(d:Int)]) (K:aI b a<=1000000000000):
 Calls prog 120 #[.pointer (some ⟨e,a*2,none⟩),o] j fun I B=>I=.returned (.tuple #[])/\B.ownsRow w 170 2 (.slice (some e) g y) g (bW (b.set a (aB b a,inR (aI b a) d)))/\Keep (fun m=>m=e) j B:=by
 obtain ⟨z,A⟩:=cK b a k;have L:b.length=g:=by have J:=f.1;rw [dH] at J;omega
 have G:=(World.ownsRow.cellAt f (a*2) oM).trans z;have H:=(World.ownsRow.cellAt f (a*2+1) oM).trans A;have Y:j.cell? o=some (.int .i64 (d:Int)):=(v.cell 0).trans rfl;obtain ⟨P,q⟩:=fL f;have T:=q.frozen (a*2+1);have U:=q.lt;have V:=v.lt;have l:=kU b a k;have u:=fun M=>mV b a M k;obtain ⟨X,t⟩:=eqx (aB b a);obtain ⟨c,s⟩:=eqx (aI b a);rw [t] at G l u;rw [s] at H l K;rw [t,s];obtain ⟨x,D,E⟩:=hqq3 f l u;clear f k v z A q l u L t s;by_cases W:d<=c
 · have O:decide ((c:Int)>=(d:Int))=true:=zBz oM;have Q:wrap64 ((c:Int)+1)=((c+1:Nat):Int):=(by unfold wrap64;omega);have r:=(World.ownsRow.stored x.out (a*2+1) (.int .i64 ((c+1:Nat):Int))).1;rw [E.out] at r;have C:=lhd r;clear r;go_enter func120,ntmps120;go_wp2_with fail;go_quiet (fail);go_wp2_with fail;go_end0;refine ⟨rfl,?_,Keep.setCell (F:=fun m=>m=e) ((Keep.refl _ _).drewN _) (p:=⟨e,a*2+1,none⟩) (.inl rfl) _⟩;have n:inR (c) d=c+1:=(by unfold inR;rw [zBx oM]);rw [n];exact C.out
 · have O:decide ((c:Int)>=(d:Int))=false:=zBy oM;go_enter func120,ntmps120;go_wp2_with fail;go_quiet (fail);go_wp2_with fail;go_end0;refine ⟨rfl,?_,(Keep.refl _ _).drewN _⟩;have n:inR (c) d=c:=(by unfold inR;rw [zBw oM]);rw [n,D.out];exact x.out
def zO (u q z Q p:Nat) (m J K I:Value) (R w:Nat) (c:List Nat) (f:List (Nat×Nat)) (H:List Bool) (y:List Nat) (r:World) (A:PermAt r u q z m J K I R w c f H y) (E:c.Nodup) (aN:c.length<=1000000) (aP:Bk r Q 3 #[(p:Int)]) (aM:∀d,m.ownBlock=some d->d≠Q) (af:∀a,a∈c->aB f a<=1000000000000/\aI f a<=1000000000000):
 Calls prog 118 #[q,.func (.func 119) #[] #[Q]] r fun k am=>k=.returned (.tuple #[])/\Keep (fun d=>m.ownBlock=some d) r am/\∃L,L.length=f.length/\(∀a,a∈c->(aB L a,aI L a)=(inR (aB f a) p,aI f a))/\PermAt am u q z m J K I R w c L H y:=by
 obtain ⟨an,aC,a8,_,_⟩:=aQ A.orow;have aD:r.cell? ⟨q,2,none⟩=some (.slice an c.length aC):=(A.blk.cell 2).trans (by rw [a8];rfl);have aX:=A.blk.lt;obtain ⟨G,a7⟩:=eqx c.length;rw [a7] at aD aN;obtain ⟨ao,a0,az,ax,ap⟩:=hqq5 A a7 a8 E af;clear A a7 a8 E af;go_enter func118,ntmps118;go_wp2_with fail;go_loopw [11] (fun i wr=>∃(g:Nat) (b:List (Nat×Nat)),g<=G/\i=.int .i64 (g:Int)/\b.length=f.length/\(∀a,a∈c.take g->(aB b a,aI b a)=(inR (aB f a) p,aI f a))/\(∀a,a∈c.drop g->(aB b a,aI b a)=(aB f a,aI f a))/\PermAt wr u q z m J K I R w c b H y/\Keep (fun d=>m.ownBlock=some d) r wr) (fun i _=>G -(intOf i).toNat)
 case atStart=>exact ⟨0,f,zAp _,rfl,rfl,fun a o=>by simp at o,fun a _=>rfl,ao.out,Keep.refl _ _⟩
 case round=>
  obtain ⟨g,b,aZ,rfl,a6,U,V,e,o⟩:=hrel;by_cases ak:g < G
  · have B:g < c.length:=(by rw [a0.out];exact ak);obtain ⟨a,C⟩:∃a,c[g]?=some a:=⟨_,zAa B⟩;have a5:=zAd C;have a4:a < b.length:=e.lt a a5;have W:=e.orow;rw [az.out] at W;obtain ⟨aG,b2,aF,_,aW⟩:=World.ownsRow.form W oM;injection aF with e2a _ e2c;subst e2a e2c;have D:=e.lrow;obtain ⟨P,al,O,_,aV⟩:=World.ownsRow.form D oM;rw [O] at D;have aE:wr.cell? ⟨aG,g,none⟩=some (.int .i64 (a:Int)):=(World.ownsRow.cellAt W g oM).trans (by rw [zAf,C];rfl);have ae:wr.cell? ⟨q,1,none⟩=some (.slice (some P) b.length al):=(e.blk.cell 1).trans (by rw [O];rfl);have aY:=e.blk.lt;have b1:=o.size;have ai:a∈c.drop g:=(by rw [zAx B,List.getElem_eq_getElem?_get];simp [C]);have aH:(aB b a,aI b a)=(aB f a,aI f a):=V a ai;injection aH with hCr hCp;have aS:=fun (d:Nat) (k:Value.ownBlock m=some d)=>(World.ownsRow.lt e.lrow d k).2;obtain ⟨N,a2⟩:=eqx b.length;rw [a2] at D ae a4;have aT:=o.bk aP (fun k=>aM _ k rfl);have b0:(a:Int) < (N:Int):=oM;obtain ⟨a1,Z,ad,ac,Y,au,M,aw,ab⟩:=hqq9 e o D C U V a2 a6 O;obtain ⟨aa,aq,av⟩:=hqq3 hCr hCp a5;clear e o D C U V a2 a6 O hCr hCp a5 ai W aS;go_wp2_with fail;refine (aEW u P N al Q p a b wr ad.out (by rw [M.out];exact a4) aT (by rw [aa.out];exact (ap.out a av.out).1)).mono ?_;rintro k w1 ⟨rfl,aj,t⟩
    have ag:PermAt w1 u q z m J K I R w c (b.set a (inR (aB b a) p,aI b a)) H y:=by
        have e:=a1.out;have F:∀d a9 x,a9≠170->Bk wr d a9 x->d≠P:=fun d a9 x aO n k=>by subst k;obtain ⟨aU,aJ⟩:=fL ad.out;exact aO (aL n aJ).1
        refine ⟨t.bk e.blk (F _ _ _ dC e.blk),?_,aA e.orow fun d x _ n=>t.bk n (F _ _ _ dC n),t.bk e.ar (F _ _ _ dC e.ar),aA e.trow fun d x _ n=>t.bk n (F _ _ _ dC n),aA e.frow fun d x _ n=>t.bk n (F _ _ _ dC n),e.apart,fun j l=>by rw [zAt];exact e.lt j l,e.lo⟩;rw [zAt,M.out,ab.out,M.out];exact aj
    have ah:Keep (fun d=>m.ownBlock=some d) r w1:=Z.out.trans (t.mono fun d _ k=>by rw [ab.out,show d=P from k];rfl)
    have a3:∀j,(aB (b.set a (inR (aB b a) p,aI b a)) j,aI (b.set a (inR (aB b a) p,aI b a)) j)=if j=a then (inR (aB b a) p,aI b a) else (aB b j,aI b j):=fun j=>by
        unfold aB aI;rw [zAb,zBm];by_cases s:a=j;subst s;rw [zBx rfl,zBx rfl,zBx (by rw [M.out];exact a4)];rfl
        · rw [zBw s,zBw (fun k=>s k.symm),zAb]
    have hrel:∃(X:Nat) (v:List (Nat×Nat)),X<=G/\Value.int .i64 ((g+1:Nat):Int)=.int .i64 (X:Int)/\v.length=f.length/\(∀a,a∈c.take X->(aB v a,aI v a)=(inR (aB f a) p,aI f a))/\(∀a,a∈c.drop X->(aB v a,aI v a)=(aB f a,aI f a))/\PermAt w1 u q z m J K I R w c v H y/\Keep (fun d=>m.ownBlock=some d) r w1:=by
        refine ⟨g+1,_,by omega,rfl,by rw [zAt];exact aw.out,fun j l=>?_,fun j l=>?_,ag,ah⟩
        · rw [a3];by_cases s:j=a
          · subst s;rw [zBx rfl,aa.out,aq.out]
          rw [zBw s];refine Y.out j ?_;rw [zAv,ac.out] at l;simp at l;rcases l with l | l;exact l;exact absurd l s
        · rw [a3];have aR:j≠a:=fun k=>by subst k;have aK:c.drop g=j::c.drop (g+1):=(by have B:g < c.length:=(by rw [a0.out];exact ak);rw [zAx B];have T:=ac.out;rw [zAa B] at T;injection T with T;rw [T]);have E:=(List.drop_sublist g c).nodup ax.out;rw [aK,List.nodup_cons] at E;exact E.1 l
          rw [zBw aR];exact au.out j (List.mem_of_mem_drop (by rw [<-List.drop_drop] at l;exact l:j∈(c.drop g).drop 1))
    have ay:=lhd hrel;clear ag ah a3 hrel t aj ae aE;go_wp2_with fail;go_roundw
    case rel=>exact ay.out
    case measure=>simp [intOf];omega
  · obtain rfl:g=G:=oM;obtain ⟨a1,Z,Y⟩:=hqq3 e o U;clear e o U V;go_wp2_with fail;go_end0;refine ⟨rfl,Z.out,b,a6,fun a o=>Y.out a ?_,a1.out⟩;rw [zAg (by rw [a0.out];exact zAs _)];exact o
def zP (u q z Q p:Nat) (m J K I:Value) (R w:Nat) (c:List Nat) (f:List (Nat×Nat)) (H:List Bool) (y:List Nat) (r:World) (A:PermAt r u q z m J K I R w c f H y) (E:c.Nodup) (aN:c.length<=1000000) (aP:Bk r Q 3 #[(p:Int)]) (aM:∀d,m.ownBlock=some d->d≠Q) (af:∀a,a∈c->aB f a<=1000000000000/\aI f a<=1000000000000):
 Calls prog 118 #[q,.func (.func 120) #[] #[Q]] r fun k am=>k=.returned (.tuple #[])/\Keep (fun d=>m.ownBlock=some d) r am/\∃L,L.length=f.length/\(∀a,a∈c->(aB L a,aI L a)=(aB f a,inR (aI f a) p))/\PermAt am u q z m J K I R w c L H y:=by
 obtain ⟨an,aC,a8,_,_⟩:=aQ A.orow;have aD:r.cell? ⟨q,2,none⟩=some (.slice an c.length aC):=(A.blk.cell 2).trans (by rw [a8];rfl);have aX:=A.blk.lt;obtain ⟨G,a7⟩:=eqx c.length;rw [a7] at aD aN;obtain ⟨ao,a0,az,ax,ap⟩:=hqq5 A a7 a8 E af;clear A a7 a8 E af;go_enter func118,ntmps118;go_wp2_with fail;go_loopw [11] (fun i wr=>∃(g:Nat) (b:List (Nat×Nat)),g<=G/\i=.int .i64 (g:Int)/\b.length=f.length/\(∀a,a∈c.take g->(aB b a,aI b a)=(aB f a,inR (aI f a) p))/\(∀a,a∈c.drop g->(aB b a,aI b a)=(aB f a,aI f a))/\PermAt wr u q z m J K I R w c b H y/\Keep (fun d=>m.ownBlock=some d) r wr) (fun i _=>G -(intOf i).toNat)
 case atStart=>exact ⟨0,f,zAp _,rfl,rfl,fun a o=>by simp at o,fun a _=>rfl,ao.out,Keep.refl _ _⟩
 case round=>
  obtain ⟨g,b,aZ,rfl,a6,U,V,e,o⟩:=hrel;by_cases ak:g < G
  · have B:g < c.length:=(by rw [a0.out];exact ak);obtain ⟨a,C⟩:∃a,c[g]?=some a:=⟨_,zAa B⟩;have a5:=zAd C;have a4:a < b.length:=e.lt a a5;have W:=e.orow;rw [az.out] at W;obtain ⟨aG,b2,aF,_,aW⟩:=World.ownsRow.form W oM;injection aF with e2a _ e2c;subst e2a e2c;have D:=e.lrow;obtain ⟨P,al,O,_,aV⟩:=World.ownsRow.form D oM;rw [O] at D;have aE:wr.cell? ⟨aG,g,none⟩=some (.int .i64 (a:Int)):=(World.ownsRow.cellAt W g oM).trans (by rw [zAf,C];rfl);have ae:wr.cell? ⟨q,1,none⟩=some (.slice (some P) b.length al):=(e.blk.cell 1).trans (by rw [O];rfl);have aY:=e.blk.lt;have b1:=o.size;have ai:a∈c.drop g:=(by rw [zAx B,List.getElem_eq_getElem?_get];simp [C]);have aH:(aB b a,aI b a)=(aB f a,aI f a):=V a ai;injection aH with hCr hCp;have aS:=fun (d:Nat) (k:Value.ownBlock m=some d)=>(World.ownsRow.lt e.lrow d k).2;obtain ⟨N,a2⟩:=eqx b.length;rw [a2] at D ae a4;have aT:=o.bk aP (fun k=>aM _ k rfl);have b0:(a:Int) < (N:Int):=oM;obtain ⟨a1,Z,ad,ac,Y,au,M,aw,ab⟩:=hqq9 e o D C U V a2 a6 O;obtain ⟨aq,aa,av⟩:=hqq3 hCr hCp a5;clear e o D C U V a2 a6 O hCr hCp a5 ai W aS;go_wp2_with fail;refine (aE2 u P N al Q p a b wr ad.out (by rw [M.out];exact a4) aT (by rw [aa.out];exact (ap.out a av.out).2)).mono ?_;rintro k w1 ⟨rfl,aj,t⟩
    have ag:PermAt w1 u q z m J K I R w c (b.set a (aB b a,inR (aI b a) p)) H y:=by
        have e:=a1.out;have F:∀d a9 x,a9≠170->Bk wr d a9 x->d≠P:=fun d a9 x aO n k=>by subst k;obtain ⟨aU,aJ⟩:=fL ad.out;exact aO (aL n aJ).1
        refine ⟨t.bk e.blk (F _ _ _ dC e.blk),?_,aA e.orow fun d x _ n=>t.bk n (F _ _ _ dC n),t.bk e.ar (F _ _ _ dC e.ar),aA e.trow fun d x _ n=>t.bk n (F _ _ _ dC n),aA e.frow fun d x _ n=>t.bk n (F _ _ _ dC n),e.apart,fun j l=>by rw [zAt];exact e.lt j l,e.lo⟩;rw [zAt,M.out,ab.out,M.out];exact aj
    have ah:Keep (fun d=>m.ownBlock=some d) r w1:=Z.out.trans (t.mono fun d _ k=>by rw [ab.out,show d=P from k];rfl)
    have a3:∀j,(aB (b.set a (aB b a,inR (aI b a) p)) j,aI (b.set a (aB b a,inR (aI b a) p)) j)=if j=a then (aB b a,inR (aI b a) p) else (aB b j,aI b j):=fun j=>by
        unfold aB aI;rw [zAb,zBm];by_cases s:a=j;subst s;rw [zBx rfl,zBx rfl,zBx (by rw [M.out];exact a4)];rfl
        · rw [zBw s,zBw (fun k=>s k.symm),zAb]
    have hrel:∃(X:Nat) (v:List (Nat×Nat)),X<=G/\Value.int .i64 ((g+1:Nat):Int)=.int .i64 (X:Int)/\v.length=f.length/\(∀a,a∈c.take X->(aB v a,aI v a)=(aB f a,inR (aI f a) p))/\(∀a,a∈c.drop X->(aB v a,aI v a)=(aB f a,aI f a))/\PermAt w1 u q z m J K I R w c v H y/\Keep (fun d=>m.ownBlock=some d) r w1:=by
        refine ⟨g+1,_,by omega,rfl,by rw [zAt];exact aw.out,fun j l=>?_,fun j l=>?_,ag,ah⟩
        · rw [a3];by_cases s:j=a
          · subst s;rw [zBx rfl,aq.out,aa.out]
          rw [zBw s];refine Y.out j ?_;rw [zAv,ac.out] at l;simp at l;rcases l with l | l;exact l;exact absurd l s
        · rw [a3];have aR:j≠a:=fun k=>by subst k;have aK:c.drop g=j::c.drop (g+1):=(by have B:g < c.length:=(by rw [a0.out];exact ak);rw [zAx B];have T:=ac.out;rw [zAa B] at T;injection T with T;rw [T]);have E:=(List.drop_sublist g c).nodup ax.out;rw [aK,List.nodup_cons] at E;exact E.1 l
          rw [zBw aR];exact au.out j (List.mem_of_mem_drop (by rw [<-List.drop_drop] at l;exact l:j∈(c.drop g).drop 1))
    have ay:=lhd hrel;clear ag ah a3 hrel t aj ae aE;go_wp2_with fail;go_roundw
    case rel=>exact ay.out
    case measure=>simp [intOf];omega
  · obtain rfl:g=G:=oM;obtain ⟨a1,Z,Y⟩:=hqq3 e o U;clear e o U V;go_wp2_with fail;go_end0;refine ⟨rfl,Z.out,b,a6,fun a o=>Y.out a ?_,a1.out⟩;rw [zAg (by rw [a0.out];exact zAs _)];exact o
end
end Go.Proofs.YthldmddkfbijhaaGreatDoor
