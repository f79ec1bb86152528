/- Lemmas of the walk. Conditions: each its own. -/
import Derived.Test.YtnmapianpjamnaaGreatDoorPc14
import Derived.Test.YtnmapianpjamnaaGreatDoorPc15
import Derived.Test.YtnmapianpjamnaaGreatDoorProg
import Derived.Test.YtnmapianpjamnaaGreatDoorShl
set_option linter.all false
set_option maxRecDepth 100000
set_option maxHeartbeats 4000000
open Go.Proofs.Tryz
namespace Go.Proofs.YtnmapianpjamnaaGreatDoor
section
open Go.RowKit Go.Shelf
def ShelfRow.same {o w':World} {e:Nat} {n:Value} {f:List Nat} {lv l:Nat} (q:ShelfRow o e n f lv l) (k:∀a d b,Bk o a d b->Bk w' a d b):ShelfRow w' e n f lv l:=by
 obtain ⟨p,r,g⟩:=q;exact ⟨p,aA r fun a b _ c=>k _ _ _ c,fun m j=>⟨(g m j).1,(g m j).2.same fun a d b _ c=>k _ _ _ c⟩⟩
def WalkAt.same {g w':World} {b gk:Nat} {c:List Nat} (l:WalkAt g b gk c) (a:∀d f e,Bk g d f e->Bk w' d f e):WalkAt w' b gk c:=by
 obtain ⟨k,j,n,⟨m,S,s,o,p⟩,q⟩:=l;exact ⟨k,j,a _ _ _ n,⟨m,S,s,a _ _ _ o,fun lv r=>(p lv r).same a⟩,a _ _ _ q⟩
def LvW (a:World) (b d:Nat) (c:List Nat):Prop:=∃gk e f g,Bk a d 109 #[.pointer (some ⟨gk,0,none⟩),e,f,g]/\WalkAt a b gk c
def LvW.vis {e w':World} {a c:Nat} {b:List Nat} (f:LvW e a c b) (d:Vis e w'):LvW w' a c b:=by
 obtain ⟨gk,k,l,m,g,j⟩:=f;exact ⟨gk,k,l,m,d.bk g dC dC,j.vis d⟩
def LvW.same {j w':World} {a e:Nat} {b:List Nat} (k:LvW j a e b) (f:∀c g d,Bk j c g d->Bk w' c g d):LvW w' a e b:=by
 obtain ⟨gk,n,o,p,l,m⟩:=k;exact ⟨gk,n,o,p,f _ _ _ l,m.same f⟩
def LvW.lt {b:World} {c a:Nat} {d:List Nat} (e:LvW b c a d):a < b.heap.size:=by
 obtain ⟨gk,j,k,l,f,g⟩:=e;exact f.lt
def LiveAt.lvw {e:World} {a c gk k j:Nat} {o p q:Value} {f l m:Nat} {b:List Nat} {g:List (Nat×Nat)} {n:List Bool} (d:LiveAt e a c gk k j o p q f l m b g n):LvW e a c b:=⟨gk,_,_,_,d.blk,d.walk⟩
def eQ (d f:Nat) (b:List Nat) (a:Nat) (c:World) (k:LvW c d f b) (m:b.length=a+1) (p:a<=1000000):
 Calls prog 47 #[f] c fun e j=>e=.returned (.int .i64 (a:Int))/\c=j:=by
 obtain ⟨gk,q,r,s,g,l⟩:=k;have n:=g.cell 0;have o:IntKind.i64.wrap (((a+1:Nat):Int) - 1)=(a:Int):=by rw [IntKind.wrap_i64];omega
 clear g;go_enter func47,ntmps47;go_wp2_with fail;refine (oR d gk b _ l).mono ?_;rintro e j ⟨rfl,rfl⟩;rw [m];go_wp2_with fail;go_ret;exact ⟨cT oM,rfl⟩
def aBe (b:List Nat) (a e:Nat):eZ b a e<=b.length:=by
 unfold eZ;have k:=(List.take_sublist e b).count_le a;have l:b.countP (fun c=>decide (c < a))+b.count a<=b.length:=by
  induction b with
  | nil=>simp
  | cons c j g=>
    have:=g ((List.take_sublist e j).count_le a);rw [zBn,List.count_cons];by_cases d:c < a;have:¬c=a:=oM;simp [d,this];omega;by_cases f:c=a;simp [d,f];omega;simp [d,f];omega
 omega
end
section
def pQ (e:List Nat) (c d:Nat):sufLt e c d↔aN e c < aN e d∨(aN e c=aN e d/\sufLt e (c+1) (d+1)):=by
 constructor
 · rintro ⟨k,b,n,f,g⟩;rcases b with _ | b;exact .inl g
   · refine .inr ⟨f 0 oM,k,b,by omega,fun a j=>?_,?_⟩
     · have:=f (a+1) oM;rwa [show c+(a+1)=c+1+a by omega,show d+(a+1)=d+1+a by omega] at this
     · rwa [show c+(b+1)=c+1+b by omega,show d+(b+1)=d+1+b by omega] at g
 · rintro (l |⟨m,k,b,n,f,g⟩);exact ⟨1,0,by omega,fun a j=>absurd j oM,l⟩
   · refine ⟨k+1,b+1,by omega,fun a j=>?_,?_⟩
     · rcases a with _ | a;exact m
       · have:=f a oM;rwa [show c+(a+1)=c+1+a by omega,show d+(a+1)=d+1+a by omega]
     · rwa [show c+(b+1)=c+1+b by omega,show d+(b+1)=d+1+b by omega]
def aBw {R:Nat->Nat->Prop} {a:Nat->Bool} {c:List Nat} (p:c.Pairwise R) (m:∀d b,R d b->a b=true->a d=true):c.take (c.countP a)=c.filter a:=by
 induction c with
 | nil=>rfl
 | cons d f r=>
   obtain ⟨j,k⟩:=List.pairwise_cons.1 p;rw [zBn,List.filter_cons];by_cases e:a d=true
   · simp only [e,if_true];rw [List.take_succ_cons,r k]
   · have g:∀b∈f,¬a b=true:=fun b q o=>e (m d b (j b q) o);have l:f.countP a=0:=List.countP_eq_zero.2 g;have n:f.filter a= []:=List.filter_eq_nil_iff.2 g;simp [e,l,n]
def IsSuf.count {b c:List Nat} (d:IsSuf b c) (a:Nat->Bool):c.countP a=(List.range b.length).countP a:=d.perm.countP_eq a
def bQ {a:List Nat} (b:0 < a.length):bC a 0=a.getD (a.length - 1) 0:=by
 unfold bC;rw [zBi,zBu oM]
def aU {a:List Nat} {b:Nat} (c:b+1 < a.length):bC a (b+1)=a.getD b 0:=by
 unfold bC;rw [show b+1+a.length - 1=b+a.length by omega,Nat.add_mod_right,zBu oM]
def dS {a:List Nat} {b:Nat} (c:b < a.length):aN a b=((a.getD b 0:Nat):Int):=by
 rw [aEF c,zAb,zAa c];rfl
def jE {b:Nat} (c:Nat->Bool) (d:Nat->Bool) (e:c 0=d b) (f:∀a,a < b->c (a+1)=d a):(List.range (b+1)).countP c=(List.range (b+1)).countP d:=by
 rw [List.range_succ_eq_map,zBn,List.countP_map,<-List.range_succ_eq_map,List.range_succ,List.countP_append,zBn,List.countP_nil,zBi,e];congr 1;refine List.countP_congr fun a g=>?_;have j:a < b:=by simpa using g
 simp [Function.comp,f a j]
def aB2 {α:Type} (b:List α) (c d:α->Bool) (e:∀a∈b,¬(c a=true/\d a=true)):b.countP (fun a=>c a||d a)=b.countP c+b.countP d:=by
 induction b with
 | nil=>rfl
 | cons a b g=>
   rw [zBn,zBn,zBn,g (fun j f=>e j (by simp [f]))];have:=e a (by simp);cases k:c a <;> cases l:d a <;> simp_all <;> omega
structure EndOk (l:List Nat) (m:Nat):Prop where
 len:l.length=m+1
 last:l.getD m 0=0
 pos:∀p,p < m->0 < l.getD p 0
def jO (a:List UInt8):EndOk (aY a) a.length:=by
 refine ⟨bO a,?_,fun c b=>?_⟩
 · unfold aY oU;rw [zAb,zAo (by simp)];simp
 · unfold aY oU;rw [zAb,zAn (by simpa using b),zAf,zAa b];simp
end
section
open Go.RowKit
noncomputable def ltP (a:List Nat) (b c:Nat):Bool:=@decide (sufLt a c b) (Classical.propDecidable _)
def mR (a:List Nat) (b c:Nat):ltP a b c=true↔sufLt a c b:=by
 unfold ltP;exact @decide_eq_true_iff _ (Classical.propDecidable _)
def tP {b a:List Nat} (g:IsSuf b a) (i:Nat) (k:i < a.length):a.countP (ltP b a[i])=i:=by
 have n:(a.take i).countP (ltP b a[i])=i:=by rw [List.countP_eq_length.2 fun m f=>?_];rw [zAj];omega;obtain ⟨d,e,rfl⟩:=zBo.1 f;rw [zAj] at e;rw [List.getElem_take,mR];exact zAr.1 g.sorted d i oM k oM
 have o:(a.drop i).countP (ltP b a[i])=0:=List.countP_eq_zero.2 fun m f c=>by obtain ⟨d,e,rfl⟩:=zBo.1 f;rw [zAw] at e;rw [List.getElem_drop,mR] at c;rcases zBa d with j | j;subst j;exact sufLt.asymm c c;exact sufLt.asymm c (zAr.1 g.sorted i (i+d) k oM oM)
 have l:a.countP (ltP b a[i])=(a.take i++a.drop i).countP (ltP b a[i]):=congrArg (List.countP _) (zAu i a).symm;rw [l,List.countP_append];omega
def xF {a d:List Nat} (e:IsSuf a d) (b:Nat->Bool) (k:∀g j,sufLt a g j->b j=true->b g=true) (f:Nat):((aK a d).take (d.countP b)).count f=(List.range a.length).countP (fun c=>decide (bC a c=f)&&b c):=by
 rw [aK,<-List.map_take,aBw e.sorted k,<-e.count,List.count_eq_countP,List.countP_map,List.countP_filter];refine List.countP_congr fun c _=>?_;simp [Function.comp,and_comm]
def lf {a e:List Nat} {g:Nat} (f:IsSuf a e) (o:EndOk a g) {i m b:Nat} (q:i < e.length) (y:m < e.length) (x:e[i]=b+1) (z:e[m]=b):eZ (aK a e) (a.getD b 0) i=m:=by
 have j:=o.len;have A:b < g:=by have:=f.lt (zBj q);omega
 have B:=o.pos b A;obtain ⟨d,r⟩:=eqx (a.getD b 0);rw [r] at B⊢;have p:=tP f i q;have n:=tP f m y;rw [x] at p;rw [z] at n;have s:=xF f (ltP a (b+1)) (fun c F C u=>by rw [mR] at u⊢;exact C.trans u) d;rw [p] at s;rw [f.count] at n;unfold eZ;rw [s];have v:(aK a e).countP (fun c=>decide (c < d))=(List.range (g+1)).countP (fun b=>decide (a.getD b 0 < d)):=by
  rw [aK,List.countP_map,f.count,j];refine jE _ _ ?_ fun b D=>?_
  · show decide (bC a 0 < d)=_;rw [bQ oM,j,zBb]
  · show decide (bC a (b+1) < d)=_;rw [aU oM]
 have w:(List.range a.length).countP (fun c=>decide (bC a c=d)&&ltP a (b+1) c)=(List.range (g+1)).countP (fun c=>decide (a.getD c 0=d)&&ltP a (b+1) (c+1)):=by
  rw [j];refine jE _ _ ?_ fun c t=>?_;show (decide (bC a 0=d)&&_)=(decide (a.getD g 0=d)&&_);rw [bQ oM,j,zBb,o.last];have:decide (0=d)=false:=(by simp;omega);rw [this];rfl
  · show (decide (bC a (c+1)=d)&&_)=_;rw [aU oM]
 rw [v,w,<-aB2,<-n,j];refine List.countP_congr fun c t=>?_;have E:c < g+1:=(by simpa using t);rw [mR,pQ,dS (by omega:c < a.length),dS (by omega:b < a.length),r];simp only [Bool.or_eq_true,zBd,zCa,mR];constructor;rintro (k |⟨k,l⟩);exact .inl oM;exact .inr ⟨by omega,l⟩;rintro (k |⟨k,l⟩);exact .inl oM;exact .inr ⟨by omega,l⟩;intro c _;simp only [zBd,zCa];rintro ⟨k,l,_⟩;omega
def xY {a c:List Nat} {d:Nat} (e:EndOk a d) {i b:Nat} (f:i < c.length) (g:c[i]=b+1) (k:b < d):(aK a c)[i]'(by rw [eK];exact f)=a.getD b 0:=by
 have j:=e.len;unfold aK;rw [List.getElem_map,g,aU oM]
def IsSuf.row {d b:List Nat} (f:IsSuf d b) {p:Nat} (g:p < d.length):∃a,∃c:a < b.length,b[a]=p:=by
 obtain ⟨a,c,e⟩:=zBo.1 (f.mem g);exact ⟨a,c,e⟩
def vS (a:List Nat) (b lv:Nat) (d:b < a.length):(aF a lv (aP a[b] lv))[dZ a b a[b] lv]?=some (eH a[b] lv):=by
 unfold aF dZ;have c:a=a.take b++a[b]::a.drop (b+1):=by rw [<-zAx d,zAu]
 generalize e:a[b]=s at c⊢;generalize a.take b=A at c⊢;rw [c,List.filter_append,List.filter_cons,zBx (by simp),zAz,List.countP_eq_length_filter,zAo (by simp)];simp
def aDK (e gk d:Nat) (lv w:Int) (n:Value) (c:List Bool) (b:Nat) (a:World) (ht:TreeAt a e c) (k:Bk a gk 3 #[(b:Int)]) (l:Bk a d 4 #[n]) (p:b < c.length):
 Calls prog 173 #[.agg #[e,.int .i64 lv,.int .i64 w],gk,d] a fun o x=>o=.returned (.tuple #[])/\
  ∃w1,VisK (fun g=>g=e) a w1/\Bk w1 d 4 #[n]/\x=w1.setCell d (.bool (c.getD b false)):=by
 have z:a.cell? gk=some (.int .i64 (b:Int)):=(k.cell 0).trans rfl;have C:=k.lt;have D:=l.lt;obtain ⟨y,j⟩:=eqx (c.getD b false);rw [j];obtain ⟨s,v,Hn,t⟩:=hqq4 j ht l p;clear ht k l j p;go_enter func173,ntmps173;go_wp2_with fail;refine (yU e c b _ (v.out.below (bR.alloc nL _)) t.out).mono ?_;rintro o w1 ⟨rfl,q⟩;rw [s.out];have m:VisK (fun g=>g=e) a w1:=(VisK.of_below (bR.alloc nL _)).trans q;have f:=m.1.bk Hn.out dC dC;have A:w1.cell? d=some n:=(f.cell 0).trans rfl;have B:=f.frozen 0;obtain ⟨r,u⟩:=hqq2 m f;clear q m f;go_wp2_with fail;go_end0;exact ⟨rfl,w1,r.out,u.out,rfl⟩
def aCi (b e gk c:Nat) (S:Nat->Value) (A aD lv j:Int) (ab:Value) (u:List Bool) (s:Nat) (w0 d:World) (H:Bk d b 135 (wcells S A aD)) (U:TreeAt w0 e u) (V:Vis w0 d) (ar:w0.heap.size<=c) (O:Bk d gk 3 #[(s:Int)]) (E:Bk d c 4 #[ab]) (ax:s < u.length):
 Calls prog 115 #[b,.agg #[e,.int .i64 lv,.int .i64 j],.func (.func 173) #[] #[gk,c]] d fun k X=>k=.returned (.tuple #[])/\
  VisF (fun a=>a=c) d X/\Keep (fun a=>a=b∨a=e∨a=c) d X/\Bk X c 4 #[.bool (u.getD s false)]:=by
 have ht:=U.vis V;obtain ⟨q,L⟩:=eqx (u.getD s false);rw [L];obtain ⟨aj,am,ai⟩:=hqq3 L U V;clear L U V;obtain ⟨aB,Q⟩:=eqx (Obj.cells #[e,.int .i64 lv,.int .i64 j] 143);have a4:=(Below.refl d.heap.size d).alloc nL aB;have T:=Bk.new d 143 #[e,.int .i64 lv,.int .i64 j];rw [Q] at T;have aR:=O.lt;have aS:=E.lt;have aU:=H.lt;have aA:=Bk.ne E H dC;obtain ⟨I,Hn,Y,a0,o,Z,ak⟩:=hqq7 ht E O H a4 T Q;clear ht O E H a4 T Q;go_enter func115,ntmps115;go_wp2_with fail;rw [ak.out];refine (aDK e gk c lv j ab u s _ (I.out.below o.out) (Y.out.alloc _) (Hn.out.alloc _) ax).mono ?_;rintro k t ⟨rfl,w1,r,a6,rfl⟩;rw [aj.out];obtain ⟨n,a8⟩:=((Vis.of_below o.out).trans r.1).waveC a0.out;have z:=a8.far (p:=c) (fun g=>aA g.symm) (.bool q);have ay:=I.out.vis ((Vis.of_below o.out).trans r.1);have y:TreeAt (w1.setCell c (.bool q)) e u:=am.out.vis (((ai.out.trans (Vis.of_below o.out)).trans r.1).fresh (p:=c) ar _);obtain ⟨B,W⟩:=y.visits;have v:=(r.1.bk Z.out dC dC).far (p:=c) (fun g=>absurd (show d.heap.size=c from g) oM) (.bool q);have G:=a6.set 0 (.bool q);have M:VisF (fun a=>a=c) d (w1.setCell c (.bool q)):=VisF.put (F:=fun a=>a=c) (VisF.of_vis ((Vis.of_below o.out).trans r.1)) (p:=c) (.inl rfl) _;have P:Keep (fun a=>a=b∨a=e∨a=c) d (w1.setCell c (.bool q)):=Keep.setCell (F:=fun a=>a=b∨a=e∨a=c) ((Keep.of_below o.out).trans (r.2.mono fun a _ k=>.inr (.inl k))) (p:=c) (.inl (.inr (.inr rfl))) _;obtain ⟨C,a3⟩:=eqx (w1.setCell c (.bool q));rw [a3] at z y W v G M P⊢;have aC:C.cell? d.heap.size=some (.pointer (some e)):=(v.cell 0).trans rfl;obtain ⟨J,al,ah,af,ag,an,ao⟩:=hqq7 z v G M P y W;have az:=y.lt;have aQ:=v.lt;have av:=Bk.ne z v dC;have au:=Bk.ne z G dC;have aw:e≠b:=by rintro rfl;obtain ⟨_,D⟩:=an.out.blk;exact absurd (aJ D J.out).1 dC
 clear z v G M P y W a3 a8 ay a6 r o I Hn Y a0 Z aC;go_wp2_with fail;refine wp_region_any kR ?_;refine bL [9,10,11,12,13,14,15,16,17,18] (fun a=>a=b) 10 [3,10] (fun t=>Bk t b 135 (wcells S A n)) (fun _ t=>Bk t b 135 (wcells S A (IntKind.i64.wrap (n+B)))) [is b,is b,is (.pointer (some ⟨b,10,none⟩)),is (.int .i64 n),is d.heap.size,is e,is (.int .i64 B),is (.int .i64 (IntKind.i64.wrap (n+B))),is b,is (.pointer (some ⟨b,10,none⟩)),cR] _ _ rfl kR kR (J.out) (fun t aX g _ aq=>Bk.below g aq g.lt) (fun _ _ _ g s=>Bk.below g s g.lt) tA0 ?_ ?_
 · refine aZ ?_;refine pH3 0 (.pointer (some b)) ?_;refine pV3 0 9 ?_;refine pV3 1 10 ?_;refine sC3 (fun _ l _ K _ _ _ m _ _ _ w=>?_) ?_
   · have x:=K rfl;have aK:_=_:=m 2 11 kR rfl;have aF:l.cell? ⟨b,10,none⟩=some (.int .i64 n):=(x.cell 10).trans (aT _ _ _).2.2.2.2.2.2.2.2.2.2;go_simp;exact kq w rfl
   refine pH3 4 (.pointer (some d.heap.size)) ?_;refine pL3 4 13 (fun l f=>have f:Keep (fun a=>a=b) C l:=kD f;(((f.bk al.out (fun g=>av (show d.heap.size=b from g).symm)).cell 0).trans rfl:l.cell? d.heap.size=some (.pointer (some e)))) ?_;refine sC3 (fun _ l f _ _ _ _ m _ _ _ w=>?_) ?_
   · replace f:Keep (fun a=>a=b) C l:=kD f;have aL:_=_:=m 5 14 kR rfl;go_simp;refine (dX e B l ((f.cell az aw).trans ao.out)).mono ?_;rintro k aY ⟨rfl,ap⟩;exact w _ _ (aG ap) rfl
   refine pW3 3 12 6 15 ?_;refine pV3 0 9 ?_;refine pV3 8 17 ?_;refine sC3 (fun _ l _ K _ _ _ m _ _ _ w=>?_) ?_
   · have x:=K rfl;have aN:_=_:=m 9 18 kR rfl;have aM:_=_:=m 7 16 kR rfl;have aI:l.cell? ⟨b,10,none⟩=some (.int .i64 n):=(x.cell 10).trans (aT _ _ _).2.2.2.2.2.2.2.2.2.2;have aP:=x.frozen 10;go_simp;refine w (.bool true) _ (aW (Keep.setCell (F:=fun a=>a=b) (Keep.refl _ _) (p:=⟨b,10,none⟩) (.inl rfl) _)) ?_;rw [<-bN S A n];exact x.set 10 _
   exact aH
 · intro aO aa f m a5;replace f:Keep (fun a=>a=b) C aa:=kD f;obtain ⟨aV,a9⟩:∃aE,(fun _ t=>Bk t b 135 (wcells S A (IntKind.i64.wrap (n+B)))) aE aa:=a5 10 dC;simp only [zqq];clear m a5;have a7:=Vis.of_wave f J.out a9;have a1:=VisF.trans af.out (VisF.of_vis a7);have D:=ag.out.trans (f.mono fun a _ k=>.inl k);have a2:=f.bk ah.out (fun k=>au (show c=b from k).symm);obtain ⟨ac,ad,ae⟩:=hqq3 a1 D a2;clear a7 a1 D a2 a9 f;go_wp2_with fail;go_end0;exact ⟨rfl,ac.out,ad.out,ae.out⟩
def zG (e lv a:Nat) (b:Bool) (c:World) (k:a<=1000):
 Calls prog 175 #[.agg #[e,(lv:Int),(a:Int)],.bool b] c fun d f=>d=.returned (.int .i64 ((2*a+(if b then 1 else 0):Nat):Int))/\Below c.heap.size c f:=by
 have g:IntKind.i64.wrap (2*(a:Int))=2*(a:Int):=by rw [IntKind.wrap_i64];omega
 have j:IntKind.i64.wrap (2*(a:Int)+1)=2*(a:Int)+1:=by rw [IntKind.wrap_i64];omega
 go_enter func175,ntmps175;cases b with
 | true=>
   go_wp2_with fail;go_ret;exact ⟨cT (by simp),bR.alloc nL _⟩
 | false=>
   go_wp2_with fail;go_ret;exact ⟨cT (by simp),bR.alloc nL _⟩
def dK (o j:Nat) (l:List Nat) (m k:Nat) (d:World) (g:WaveAt d o j l) (I:m < l.length) (W:l[m]=k) (Q:∀x∈l,x < 257) (bQ:l.length<=1000):
 Calls prog 98 #[j,(m:Int)] d fun C c5=>C=.returned (.tuple #[(k:Int),.int .i64 0])/\VB o d c5:=by
 have Z:k < 257:=by rw [<-W];exact Q _ (zBj I)
 have aQ:=iP l m k (zCk I) Q Z;have b9:=kS k Z;have ba:=kU k;have aU:∀lv,(aF l lv (aP k lv))[dZ l m k lv]?=some (eH k lv):=fun lv=>by have:=vS l m lv I;rw [W] at this;exact this
 obtain ⟨a8,S,bf,v,aZ⟩:=g;have cF:=v.lt;have hB:o<=d.heap.size:=oM;have r:=(v.set 10 (.int .i64 0)).alloc (.cells #[(m:Int)] 3);rw [bN] at r;have aj:=VisK.alloc (VB.set_wave v a8 0) (.cells #[(m:Int)] 3);have z:=Bk.new (d.setCell ⟨j,10,none⟩ (.int .i64 0)) 3 #[(m:Int)];rw [show (d.setCell ⟨j,10,none⟩ (.int .i64 0)).heap.size=d.heap.size by simp [World.setCell]] at z;obtain ⟨G,ad⟩:=eqx l.length;rw [ad] at v r I bQ;have bJ:=v.frozen 10;have c7:d.cell? ⟨j,10,none⟩=some (.int .i64 bf):=(v.cell 10).trans (aT S G bf).2.2.2.2.2.2.2.2.2.2;obtain ⟨s,a9⟩:=eqx ((d.setCell ⟨j,10,none⟩ (.int .i64 0)).alloc (.cells #[(m:Int)] 3));rw [a9] at r aj z;obtain ⟨aC,aD,aE,aG,aI,aJ,aK,aM,aN,aO,bD⟩:=aT S (G:Int) 0;have ce:∀b,(s.drewN b).cell? j=some (S 0):=fun b=>(r.cell 0).trans aC;have cf:∀b,(s.drewN b).cell? ⟨j,1,none⟩=some (S 1):=fun b=>(r.cell 1).trans aD;have cg:∀b,(s.drewN b).cell? ⟨j,2,none⟩=some (S 2):=fun b=>(r.cell 2).trans aE;have ch:∀b,(s.drewN b).cell? ⟨j,3,none⟩=some (S 3):=fun b=>(r.cell 3).trans aG;have ci:∀b,(s.drewN b).cell? ⟨j,4,none⟩=some (S 4):=fun b=>(r.cell 4).trans aI;have cj:∀b,(s.drewN b).cell? ⟨j,5,none⟩=some (S 5):=fun b=>(r.cell 5).trans aJ;have ck:∀b,(s.drewN b).cell? ⟨j,6,none⟩=some (S 6):=fun b=>(r.cell 6).trans aK;have cm:∀b,(s.drewN b).cell? ⟨j,7,none⟩=some (S 7):=fun b=>(r.cell 7).trans aM;have cn:∀b,(s.drewN b).cell? ⟨j,8,none⟩=some (S 8):=fun b=>(r.cell 8).trans aN;have aA:s.cell? ⟨j,9,none⟩=some (.int .i64 (G:Int)):=(r.cell 9).trans aO;have aB:s.cell? d.heap.size=some (.int .i64 (m:Int)):=(z.cell 0).trans rfl;have co:∀b,(s.drewN b).cell? ⟨j,9,none⟩=some (.int .i64 (G:Int)):=fun b=>aA;have cq:∀b,(s.drewN b).cell? d.heap.size=some (.int .i64 (m:Int)):=fun b=>aB;have bP:decide ((m:Int) < 0)=false:=by simp
 have cE:¬G<=m:=oM;obtain ⟨bq,cd,ar,bp,bg,bw,bx,bi,c8⟩:=hqq9 aj r z aZ aQ b9 ba aU Q;obtain ⟨c9,bh,cc,ap,cb⟩:=hqq5 ad a9 W v I;clear aC aD aE aG aI aJ aK aM aN aO bD aj r z aZ aQ b9 ba aU Q ad a9 v W I;go_enter func98,ntmps98;go_wp2_with fail;rw [bh.out];clear c7 bJ;go_quiet (fail);clear aA aB bP;go_wp2_with fail;go_loopw [6,30] (fun x i wr=>∃lv:Nat,lv<=9/\i=.int .i64 lv/\x=.int .i64 ((aP k lv:Nat):Int)/\VB o d wr/\Bk wr d.heap.size 3 #[.int .i64 ((dZ l m k lv:Nat):Int)]/\d.heap.size < wr.heap.size) (fun _ i _=>9 -(intOf i).toNat)
 case atStart=>exact ⟨0,by omega,rfl,by rw [bw.out];rfl,bq.out.below (below_drewN bR _),by rw [bg.out];exact ar.out.drewN _,ar.out.lt⟩
 case round=>
  obtain ⟨lv,cG,rfl,rfl,a0,z,cC⟩:=hrel;by_cases X:lv < 9
  · have bO:=ix9 S lv X;obtain ⟨u,O,ai⟩:=bp.out lv X;obtain ⟨an,ac⟩:=eqx (2 ^ lv);obtain ⟨a,D⟩:=eqx (aP k lv);have aY:a < an:=(by rw [<-ac,<-D];exact iY k lv Z oM);rw [ac] at O ai;obtain ⟨a7,cp,aR,cH,cB⟩:=World.ownsRow.form O oM;rw [aR] at bO O;obtain ⟨x,a2⟩:=eqx (dZ l m k lv);obtain ⟨a5,am⟩:=eqx (dZ l m k (lv+1));obtain ⟨q,M⟩:=eqx (eH k lv);have al:=iQ l m k lv X;have a3:=bi.out lv;rw [D,a2,M,am] at al;rw [D,a2,M] at a3;have b8:x < (aF l lv a).length:=(zAc.1 a3).1;have b7:(aF l lv a).getD x false=q:=(by rw [zAb,a3];rfl);have ae:=kT k lv X;rw [D,M] at ae;rw [D];rw [a2] at z;have cI:(a:Int) < (an:Int):=oM;have Y:=a0.1.own O dC dC;obtain ⟨bc,bd,be⟩:=dV u lv an a aY;have bz:wr.cell? ⟨a7,a*3,none⟩=_:=(World.ownsRow.cellAt Y (a*3) oM).trans bc;have bA:wr.cell? ⟨a7,a*3+1,none⟩=_:=(World.ownsRow.cellAt Y (a*3+1) oM).trans bd;have bB:wr.cell? ⟨a7,a*3+2,none⟩=_:=(World.ownsRow.cellAt Y (a*3+2) oM).trans be;obtain ⟨au,bu,az,bt,bm,P,bl,ca,bv⟩:=hqq9 z al b8 b7 ae (ai a aY) D M am;have a6:=lhd a0;clear O ai aR ac D a2 am M al a3 b8 b7 ae a0 z Y bc bd be;go_wp2_with fail;obtain ⟨K,L⟩:=eqx ((wr.alloc (.cells #[.pointer (some ⟨u a,0,none⟩),(lv:Int),(a:Int)] 143)).alloc (.cells #[.bool false] 4));have H:Below wr.heap.size wr K:=(by rw [<-L];exact (bR.alloc nL _).alloc (by simp) _);have b0:Bk K wr.heap.size 143 #[.pointer (some ⟨u a,0,none⟩),(lv:Int),(a:Int)]:=(by rw [<-L];exact (Bk.new wr _ _).alloc _);have aV:Bk K (wr.heap.size+1) 4 #[.bool false]:=(by rw [<-L];have g:=Bk.new (wr.alloc (.cells #[.pointer (some ⟨u a,0,none⟩),(lv:Int),(a:Int)] 143)) 4 #[.bool false];rw [World.size_alloc] at g;exact g);rw [L];have b2:VB o d K:=a6.out.below H;obtain ⟨c2,b6⟩:=b2.1.waveC ap.out;have b1:=P.out.2.vis a6.out.1;have aa:=au.out.below H au.out.lt;refine (aCi j (u a) d.heap.size (wr.heap.size+1) S G c2 lv a _ (aF l lv a) x wr K b6 b1 (Vis.of_below H) oM aa aV az.out).mono ?_;rintro C B ⟨rfl,U,aX,T⟩;rw [bt.out] at T;have ab:=U.bk aa dC dC (fun g=>absurd (show d.heap.size=wr.heap.size+1 from g) oM);have ah:=U.bk b0 dC dC (fun g=>absurd (show wr.heap.size=wr.heap.size+1 from g) oM)
    have b3:VB o wr B:=⟨VisF.to_vis (VisF.trans (VisF.of_vis (Vis.of_below H)) U) (fun q v C=>by have:q=wr.heap.size+1:=C;omega),(Keep.of_below H).trans (aX.mono fun q _ C=>by
        rcases C with rfl | rfl | rfl;exact a8;exact P.out.1
        · omega)⟩
    have b5:=a6.out.trans b3;obtain ⟨av,ax,aq,ay⟩:=hqq4 ab ah T b5;have cD:=ab.lt;have cK:=ah.lt;have cA:=T.lt;obtain ⟨ao,ag⟩:=eqx (aP k (lv+1));have af:=bm.out;rw [ag] at af;obtain ⟨bo,bn⟩:=hqq2 ag af;have bT:a<=1000:=(by have bK:=iY k lv Z oM;have cz:2 ^ lv<=2 ^ 9:=zBp dC oM;rw [bl.out] at bK;omega);clear L H b0 aV b2 b6 b1 aa U aX T ab ah b3 b5 ag af bz bA bB;go_wp2_with fail;refine wp_region_any kR ?_;refine dT o 8 [41,42,43,44,45,46,47,48] (fun _=>False) 7 [] (fun _=>True) (is (ao:Int)) [is j,is (.agg #[.pointer (some ⟨u a,0,none⟩),(lv:Int),(a:Int)]),is (x:Int),is (.bool q),is (a5:Int),is (.agg #[.pointer (some ⟨u a,0,none⟩),(lv:Int),(a:Int)]),is (.bool q),cR] _ _ rfl dC kR kR kR (trivial) (fun _ _ _ _ _=>trivial) (mF _ _) tA1 ?_ ?_
    · refine bM ?_;refine pH3 0 (.pointer (some j)) ?_;refine sC3 (fun t e c _ _ _ A _ _ _ _ n=>?_) ?_
      · replace c:VFB o (fun _=>False) B e:=fD c;have bI:t (.tmp 9)=.pointer (some ⟨wr.heap.size,0,none⟩):=A 9 kR;have E:=c.1.bk ax.out dC dC (fun g=>g);have bZ:e.cell? ⟨wr.heap.size,0,none⟩=some (.pointer (some ⟨u a,0,none⟩)):=(E.cell 0).trans rfl;have c0:e.cell? ⟨wr.heap.size,1,none⟩=some (.int .i64 (lv:Int)):=(E.cell 1).trans rfl;have c1:e.cell? ⟨wr.heap.size,2,none⟩=some (.int .i64 (a:Int)):=(E.cell 2).trans rfl;go_simp;exact n _ _ (aL vR) rfl
      refine sC3 (fun t e c _ _ _ A _ _ _ _ n=>?_) ?_
      · replace c:VFB o (fun _=>False) B e:=fD c;have cr:t (.tmp 3)=.pointer (some d.heap.size):=A 3 kR;have cL:e.cell? d.heap.size=some (.int .i64 (x:Int)):=((c.1.bk av.out dC dC (fun g=>g)).cell 0).trans rfl;go_simp;exact n _ _ (aL vR) rfl
      refine sC3 (fun t e c _ _ _ A _ _ _ _ n=>?_) ?_
      · replace c:VFB o (fun _=>False) B e:=fD c;have bE:t (.tmp 10)=.pointer (some ⟨wr.heap.size+1,0,none⟩):=A 10 kR;have bC:e.cell? ⟨wr.heap.size+1,0,none⟩=some (.bool q):=((c.1.bk aq.out dC dC (fun g=>g)).cell 0).trans rfl;go_simp;exact n _ _ (aL vR) rfl
      refine sC3 (fun _ e c _ _ _ _ w _ _ _ n=>?_) ?_
      · replace c:VFB o (fun _=>False) B e:=fD c;have cs:_=_:=w 0 41 kR rfl;have ct:_=_:=w 1 42 kR rfl;have cu:_=_:=w 2 43 kR rfl;have cv:_=_:=w 3 44 kR rfl;go_simp;have J:=VFB.to_vb c (fun q _ g=>g);have b4:=ay.out.trans J;obtain ⟨c3,bX⟩:=b4.1.waveC ap.out;have bV:=P.out.2.vis b4.1;refine (lY j (u a) S G c3 lv a (aF l lv a) x q e bX bV (zCk az.out)).mono ?_;rintro C c6 ⟨rfl,a1⟩;rw [bu.out];exact n _ _ (aL (a1.mono fun q v=>by rcases v with rfl | rfl;exact a8;exact P.out.1)) rfl
      refine sC3 (fun t e c _ _ _ A _ _ _ _ n=>?_) ?_
      · replace c:VFB o (fun _=>False) B e:=fD c;have bI:t (.tmp 9)=.pointer (some ⟨wr.heap.size,0,none⟩):=A 9 kR;have E:=c.1.bk ax.out dC dC (fun g=>g);have bZ:e.cell? ⟨wr.heap.size,0,none⟩=some (.pointer (some ⟨u a,0,none⟩)):=(E.cell 0).trans rfl;have c0:e.cell? ⟨wr.heap.size,1,none⟩=some (.int .i64 (lv:Int)):=(E.cell 1).trans rfl;have c1:e.cell? ⟨wr.heap.size,2,none⟩=some (.int .i64 (a:Int)):=(E.cell 2).trans rfl;go_simp;exact n _ _ (aL vR) rfl
      refine sC3 (fun t e c _ _ _ A _ _ _ _ n=>?_) ?_
      · replace c:VFB o (fun _=>False) B e:=fD c;have bE:t (.tmp 10)=.pointer (some ⟨wr.heap.size+1,0,none⟩):=A 10 kR;have bC:e.cell? ⟨wr.heap.size+1,0,none⟩=some (.bool q):=((c.1.bk aq.out dC dC (fun g=>g)).cell 0).trans rfl;go_simp;exact n _ _ (aL vR) rfl
      refine sC3 (fun _ e _ _ _ _ _ w _ _ _ n=>?_) ?_
      · have cw:_=_:=w 5 46 kR rfl;have cx:_=_:=w 6 47 kR rfl;go_simp;refine (zG (u a) lv a q e bT).mono ?_;rintro C c6 ⟨rfl,bL⟩;rw [<-bn.out];exact n _ _ (aL (VisK.of_below bL)) rfl
      exact aH
    · intro t a4 y c w aS;replace c:VFB o (fun _=>False) B a4:=fD c;have bF:t (.tmp 45)=.int .i64 (a5:Int):=w 4 45 dC rfl;have bG:t (.tmp 48)=.int .i64 (ao:Int):=w 7 48 dC rfl;obtain ⟨c4,bb⟩:=aS 7 dC;have bY:(is (ao:Int)) c4 a4:=bb;clear bb aS;simp only [zqq];rw [bF];rw [bG];clear w;have J:=VFB.to_vb c (fun q _ g=>g);have V:=J.1.bk av.out dC dC;have cl:=V.cell 0;have cy:=V.frozen 0;have cJ:=J.1.size;obtain ⟨bs,bj⟩:=hqq2 J V;clear J V c bY;change wpAny prog Region.Mode.any _ _ (2+y) (bS 8 10) _ a4;rw [show 2+y=y+1+1 by omega];refine bH (f:=y+1) (i:=8) kR ?_;refine bU rfl rfl ?_;generalize n:wpAny prog _ _ _ (y+1) _=K5;go_simp;subst n;refine bH (f:=y) (i:=9) kR ?_;refine bU rfl rfl ?_;generalize n:wpAny prog _ _ _ y _=K5;go_simp;subst n;refine bW kR ?_;have aW:=bj.out.set 0 (.int .i64 (a5:Int));have ak:=ay.out.trans bs.out;have a1:VB o d (a4.setCell d.heap.size (.int .i64 (a5:Int))):=⟨Vis.fresh ak.1 (p:=d.heap.size) nL _,Keep.setCell (F:=fun q=>o<=q) ak.2 (p:=d.heap.size) (.inl hB) _⟩;obtain ⟨br,aw⟩:=hqq2 a1 aW;clear ak a1 aW;go_wp2_with fail;go_roundw
      case rel=>exact ⟨lv+1,by omega,by go_num,by rw [bo.out],br.out,by rw [bv.out];exact aw.out,aw.out.lt⟩
      case measure=>simp [intOf];omega
  · obtain rfl:lv=9:=oM;rw [bx.out];go_wp2_with fail;go_ret2;exact ⟨rfl,a0⟩
end
section
def inR (a b:Nat):Nat:=if b<=a then a+1 else a
def aQ (a b:Nat):Nat:=if b < a then a - 1 else a
abbrev ro (R:List Nat) (a:Nat):Nat:=R.idxOf a
def bI {R:List Nat} {a:Nat} (b:a∈R):R[ro R a]?=some a:=zAc.2 ⟨List.idxOf_lt_length_iff.2 b,List.getElem_idxOf _⟩
def eB {R:List Nat} (e:R.Nodup) {a b:Nat} (d:R[a]?=some b):ro R b=a:=by
 obtain ⟨f,c⟩:=zAc.1 d;subst c;exact e.idxOf_getElem a f
def dN {R:List Nat} {b c:Nat} (e:b∈R) (f:c∈R) (d:ro R b=ro R c):b=c:=by
 have a:=bI e;rw [d,bI f] at a;injection a with a;exact a.symm
def pA {R:List Nat} (n:R.Nodup) {a t d:Nat} (g:R[a]?=some d) (ht:t < R.length):
 (aI (aC R a) t d).Perm R/\ro (aI (aC R a) t d) d=t/\∀c∈R,c≠d->ro (aI (aC R a) t d) c=inR (aQ (ro R c) a) t:=by
 have f:=(zAc.1 g).1;have q:=bF R f;have l:(aI (aC R a) t d).Perm R:=(dQ _ _ _).trans (dG g);have k:(aI (aC R a) t d).Nodup:=l.nodup_iff.2 n;refine ⟨l,?_,fun c o p=>?_⟩
 · refine eB k ?_;rw [fO _ _ oM,zBw oM,zBx rfl]
 · have b:=bI o;have s:ro R c≠a:=fun m=>by rw [m,g] at b;injection b with b;exact p b.symm
   refine eB k ?_;have r:=(zAc.1 b).1;rw [fO _ _ oM];unfold inR aQ;by_cases j:a < ro R c;rw [zBx j];by_cases e:t<=ro R c - 1;rw [zBx e,zBw oM,zBw oM,cY _ f,zBw oM];rw [<-b];congr 1;omega;rw [zBw e,zBx oM,cY _ f,zBw oM,<-b];congr 1;omega
   · rw [zBw j];by_cases e:t<=ro R c
     · rw [zBx e,zBw oM,zBw oM,cY _ f,zBx oM,<-b];congr 1
     · rw [zBw e,zBx oM,cY _ f,zBx oM,<-b]
def nX (S R:List Nat) (a b:Nat):Prop:=S.getD a 0 < S.getD b 0∨(S.getD a 0=S.getD b 0/\ro R (a+1) < ro R (b+1))
structure Near (S R:List Nat) (N i:Nat):Prop where
 endk:EndOk S N
 perm:R.Perm (List.range (N+1))
 first:∀p q,p<=N->q<=N->ro R p < ro R q->S.getD p 0<=S.getD q 0
 cons:∀p q,p<=N->q<=N->p≠q->p+1≠i->q+1≠i->(ro R p < ro R q↔nX S R p q)
section
variable {S R : List Nat} {N i : Nat}
def Near.nodup (a:Near S R N i):R.Nodup:=a.perm.nodup_iff.2 List.nodup_range
def Near.mem (b:Near S R N i) {a:Nat}:a∈R↔a<=N:=by
 rw [b.perm.mem_iff,zCi];omega
def Near.len (a:Near S R N i):R.length=N+1:=by simpa using a.perm.length_eq
def xX {S:List Nat} {a b:Nat} (k:a < S.length) (l:b < S.length) (j:S.getD a 0=S.getD b 0) (e:sufLt S (a+1) (b+1)):sufLt S a b:=by
 obtain ⟨m,d,n,f,g⟩:=e;refine ⟨m+1,d+1,by omega,fun c o=>?_,?_⟩
 · cases c with
   | zero=>
     rw [zBq,zBq,dS k,dS l,j]
   | succ c=>
     have:=f c oM;rw [show a+(c+1)=a+1+c by omega,show b+(c+1)=b+1+c by omega];exact this
 rw [show a+(d+1)=a+1+d by omega,show b+(d+1)=b+1+d by omega];exact g
def aBg {S:List Nat} {a b:Nat} (c:a < S.length) (d:b < S.length) (e:S.getD a 0 < S.getD b 0):sufLt S a b:=by
 refine ⟨1,0,by omega,fun g f=>by omega,?_⟩;rw [zBq,zBq,dS c,dS d];omega
def Near.sorted (c:Near S R N 0):IsSuf S R:=by
 obtain ⟨r,C,k⟩:=c.endk;have B:∀e a b,N < a+e->a<=N->b<=N->a≠b->ro R a < ro R b->sufLt S a b:=by
  intro e
  induction e with
  | zero=>intro a b u o;omega
  | succ e A=>
    intro a b u o z y v;rcases (c.cons a b o z y oM oM).1 v with j |⟨j,s⟩;exact aBg oM oM j
    · have D:a≠N:=fun d=>by subst d;have:=k b oM;omega
      have E:b≠N:=fun d=>by subst d;have:=k a oM;omega
      exact xX oM oM j (A (a+1) (b+1) oM oM oM oM s)
 refine ⟨by rw [r];exact c.perm,?_⟩;rw [zAr];intro f g l m t;have n:=c.nodup;have w:R[f]<=N:=c.mem.1 (zBj l);have x:R[g]<=N:=c.mem.1 (zBj m);have p:ro R R[f]=f:=eB n (zAa l);have q:ro R R[g]=g:=eB n (zAa m);exact B (N+1) _ _ oM w x (fun d=>by rw [d,q] at p;omega) (by rw [p,q];exact t)
def IsSuf.near (p:IsSuf S R) (y:EndOk S N):Near S R N 0:=by
 obtain ⟨t,w,m⟩:=y;have B:R.Perm (List.range (N+1)):=by rw [<-t];exact p.perm
 have G:=p.nodup;have n:∀a,a<=N->a∈R:=fun a c=>p.mem oM;have q:∀a b,a<=N->b<=N->ro R a < ro R b->sufLt S a b:=fun a b c e j=>by have C:=(zAc.1 (bI (n a c)));have E:=(zAc.1 (bI (n b e)));obtain ⟨d,f⟩:=C;obtain ⟨l,x⟩:=E;have:=zAr.1 p.sorted _ _ d l j;rwa [f,x] at this
 have s:∀a b,a<=N->b<=N->sufLt S a b->ro R a < ro R b:=fun a b c e j=>by rcases Nat.lt_trichotomy (ro R a) (ro R b) with d | d | d;exact d;have:=dN (n a c) (n b e) d;subst this;exact (j.asymm j).elim;exact (j.asymm (q b a e c d)).elim
 have u:∀a b,a<=N->b<=N->sufLt S a b->S.getD a 0<=S.getD b 0:=fun a b c e ⟨F,g,d,f,l⟩=>by
  cases g with
  | zero=>
    rw [zBq,zBq,dS oM,dS oM] at l;omega
  | succ g=>
    have:=f 0 oM;rw [zBq,zBq,dS oM,dS oM] at this;omega
 have v:∀a b,a<=N->b<=N->a≠b->S.getD a 0=S.getD b 0->(sufLt S a b↔sufLt S (a+1) (b+1)):=fun a b c e r z=>by
  constructor
  · rintro ⟨F,g,d,f,l⟩;cases g with
    | zero=>
      rw [zBq,zBq,dS oM,dS oM] at l;omega
    | succ g=>
      refine ⟨g+1,g,by omega,fun o n=>?_,?_⟩;have:=f (o+1) oM;rw [show a+1+o=a+(o+1) by omega,show b+1+o=b+(o+1) by omega];exact this;rw [show a+1+g=a+(g+1) by omega,show b+1+g=b+(g+1) by omega];exact l
  exact xX oM oM z
 refine ⟨⟨t,w,m⟩,B,fun a b c e j=>u a b c e (q a b c e j),fun a b c e r _ _=>?_⟩;unfold nX;constructor
 · intro j;have d:=q a b c e j;rcases Nat.lt_or_eq_of_le (u a b c e d) with f | f;exact .inl f
   · refine .inr ⟨f,?_⟩;have A:a≠N:=fun k=>by subst k;have:=m b oM;omega
     have D:b≠N:=fun k=>by subst k;have:=m a oM;omega
     exact s _ _ oM oM ((v a b c e r f).1 d)
 · rintro (d |⟨d,f⟩);exact s a b c e (aBg oM oM d)
   · have A:a≠N:=fun k=>by subst k;have:=m b oM;omega
     have D:b≠N:=fun k=>by subst k;have:=m a oM;omega
     exact s a b c e ((v a b c e r d).2 (q _ _ oM oM f))
def vE (S R:List Nat) (N b c:Nat):Nat:=(List.range (N+1)).countP fun a=>decide (S.getD a 0 < b∨(S.getD a 0=b/\ro R (a+1) < c))
def tB {R:List Nat} (j:R.Nodup) (b:Nat) (c:Nat->Bool):(R.take b).countP c=R.countP fun a=>c a&&decide (ro R a < b):=by
 have k:R.countP (fun a=>c a&&decide (ro R a < b))=(R.take b).countP (fun a=>c a&&decide (ro R a < b))+(R.drop b).countP (fun a=>c a&&decide (ro R a < b)):=by rw [<-List.countP_append,zAu]
 have l:(R.drop b).countP (fun a=>c a&&decide (ro R a < b))=0:=by rw [List.countP_eq_zero];intro a e;obtain ⟨f,g,d⟩:=zBo.1 e;rw [List.getElem_drop] at d;have:ro R a=b+f:=eB j (by rw [<-d];exact zAa _);simp;omega
 have m:(R.take b).countP (fun a=>c a&&decide (ro R a < b))=(R.take b).countP c:=by refine List.countP_congr fun a e=>?_;obtain ⟨f,g,d⟩:=zBo.1 e;rw [zAj] at g;rw [List.getElem_take] at d;have:ro R a=f:=eB j (by rw [<-d];exact zAa _);have n:ro R a < b:=oM;simp [n]
 rw [k,l,m];rfl
def vK {b:List Nat} {c d:Nat->Bool} (e:∀a∈b,¬(c a=true/\d a=true)):b.countP c+b.countP d=b.countP fun a=>c a||d a:=by
 induction b with
 | nil=>rfl
 | cons a b g=>
   have m:=e a (by simp);rw [zBn,zBn,zBn,<-g fun j f=>e j (by simp [f])];cases k:c a <;> cases l:d a <;> simp_all <;> omega
def mP (n:EndOk S N) (c:R.Perm (List.range (N+1))) {a:Nat} (r:0 < a) (d:Nat):eZ (aK S R) a d=vE S R N a d:=by
 obtain ⟨e,f,q⟩:=n;have o:R.Nodup:=c.nodup_iff.2 List.nodup_range;unfold eZ vE;have g:(aK S R).countP (fun p=>decide (p < a))=(List.range (N+1)).countP fun b=>decide (S.getD b 0 < a):=by
  unfold aK;rw [List.countP_map,c.countP_eq];refine jE _ _ ?_ fun b c=>?_;simp only [Function.comp];rw [bQ oM,e];rfl
  · simp only [Function.comp];rw [aU oM]
 have j:((aK S R).take d).count a=(List.range (N+1)).countP fun b=>decide (S.getD b 0=a)&&decide (ro R (b+1) < d):=by
  unfold aK;rw [<-List.map_take,List.count_eq_countP,List.countP_map,tB o,c.countP_eq];refine jE _ _ ?_ fun b c=>?_
  · simp only [Function.comp];rw [bQ oM,e];have:(N+1 - 1)=N:=oM;rw [this,f];have m:¬(0:Nat)=a:=oM;simp [m]
  simp only [Function.comp];rw [aU oM];rfl
 rw [g,j,vK]
 · refine List.countP_congr fun b _=>?_;simp
 intro b _ ⟨k,l⟩;simp at k l;omega
def uU {K:Nat->Bool}:∀ {d:List Nat},d.Pairwise (fun a o=>K o=true->K a=true)->∀(c a:Nat),d[c]?=some a->(K a=true↔c < d.countP K)
 | [],_,c,a,b=>by simp at b
 | g::d,hO,c,a,b=>by
   obtain ⟨k,l⟩:=List.pairwise_cons.1 hO;cases e:K g with
   | true=>
     rw [List.countP_cons_of_pos e];cases c with
     | zero=>
       injection b with b;subst b;simp [e]
     | succ c=>
       rw [uU l c a b];omega
   | false=>
     have j:(g::d).countP K=0:=by
        rw [List.countP_eq_zero];intro p f;rcases List.mem_cons.1 f with rfl | f
        · simp [e]
        · intro m;have:=k p f m;rw [e] at this;cases this
     rw [j];have n:a∈g::d:=zAd b;have:=(List.countP_eq_zero.1 j) a n;simp [this]
def KB (S R:List Nat) (i a:Nat):Bool:=decide (S.getD a 0 < S.getD i 0∨(S.getD a 0=S.getD i 0/\ro R (a+1) < ro R (i+1)))
def aEg (a:Near S R N (i+1)) (u:i<=N):∀b,b<=N->b≠i->(KB S R i b=true↔aQ (ro R b) (ro R i) < vE S R N (S.getD i 0) (ro R (i+1))):=by
 intro b z I;have m:=a.nodup;have s:=bI (a.mem.2 u);have t:=bI (a.mem.2 z);have v:=(zAc.1 s).1;have e:=dG s;have U:(aC R (ro R i)).Nodup:=(List.nodup_cons.1 (e.nodup_iff.2 m)).2;have V:ro R b≠ro R i:=fun c=>I (dN (a.mem.2 z) (a.mem.2 u) c);have D:(aC R (ro R i))[aQ (ro R b) (ro R i)]?=some b:=by
  unfold aQ;rw [cY _ v];by_cases r:ro R i < ro R b;rw [zBx r,zBw oM,<-t];congr 1;omega
  · rw [zBw r,zBx oM,<-t]
 have F:vE S R N (S.getD i 0) (ro R (i+1))=(aC R (ro R i)).countP (KB S R i):=by
  unfold vE;rw [<-a.perm.countP_eq,<-e.countP_eq,zBn];have B:decide (S.getD i 0 < S.getD i 0∨(S.getD i 0=S.getD i 0/\ro R (i+1) < ro R (i+1)))=false:=by rw [decide_eq_false_iff_not];omega
  rw [B];rfl
 rw [F];refine uU ?_ _ _ D;rw [zAr];intro n o C E T p;have j:(aC R (ro R i))[n]?=some (aC R (ro R i))[n]:=zAa C;have k:(aC R (ro R i))[o]?=some (aC R (ro R i))[o]:=zAa E;obtain ⟨f,J⟩:=eqx ((aC R (ro R i))[n]);obtain ⟨g,O⟩:=eqx ((aC R (ro R i))[o]);rw [J] at j⊢;rw [O] at k p;have y:=(List.nodup_cons.1 (e.nodup_iff.2 m)).1;have w:=zAd j;have x:=zAd k;have W:f≠i:=fun c=>y (by rw [c] at w;exact w);have X:g≠i:=fun c=>y (by rw [c] at x;exact x);have L:f∈R:=e.subset (by simp [zAd j]);have Q:g∈R:=e.subset (by simp [zAd k]);have K:=a.mem.1 L;have P:=a.mem.1 Q;have A:∀ {d q:Nat},(aC R (ro R i))[d]?=some q->ro R q=if d < ro R i then d else d+1:=fun {d q} l=>by rw [cY _ v] at l;split at l;rw [zBx (by assumption)];exact eB m l;rw [zBw (by assumption)];exact eB m l
 have H:ro R f < ro R g:=by rw [A j,A k];split <;> split <;> omega
 have M:f≠g:=fun c=>by subst c;omega
 have G:=(a.cons f g K P M oM oM).1 H;unfold KB at p⊢;rw [zCa] at p⊢;unfold nX at G;omega
def tgt (S R:List Nat) (i:Nat):Nat:=eZ (aK S R) (S.getD i 0) (ro R (i+1))
def aCv (a:Near S R N (i+1)) (b:i < N):tgt S R i=vE S R N (S.getD i 0) (ro R (i+1)):=mP a.endk a.perm (a.endk.pos i b) _
def aCu (c:Near S R N (i+1)) (e:i < N):tgt S R i < N+1:=by
 rw [aCv c e];unfold vE;have d:(List.range (N+1)).countP (fun a=>decide (S.getD a 0 < S.getD i 0∨(S.getD a 0=S.getD i 0/\ro R (a+1) < ro R (i+1))))≠(List.range (N+1)).length:=fun b=>by have:=(List.countP_eq_length.1 b) i (by simp;omega);rw [zCa] at this;omega
 have f:=zBh (p:=fun a=>decide (S.getD a 0 < S.getD i 0∨(S.getD a 0=S.getD i 0/\ro R (a+1) < ro R (i+1)))) (l:=List.range (N+1));rw [zCh] at d f;omega
def aBd (k:Near S R N (i+1)) (I:i < N) {g:List Nat} {n:Nat} (ht:n=tgt S R i) (z:g.Perm R) (F:ro g i=n) (m:∀a∈R,a≠i->ro g a=inR (aQ (ro R a) (ro R i)) n) (B:Nat) (T:B=i∨(ro R i=n/\B=0)):Near S g N B:=by
 have x:=aEg k oM;rw [<-aCv k I,<-ht] at x;have l:∀a,a<=N->a∈R:=fun a d=>k.mem.2 d;have t:∀a,a<=N->a≠i->ro R a≠ro R i:=fun a d e j=>e (dN (l a d) (l i oM) j);have u:∀a b,a<=N->b<=N->a≠i->b≠i->(ro g a < ro g b↔ro R a < ro R b):=fun a b d f e c=>by rw [m a (l a d) e,m b (l b f) c];have P:=t a d e;have Q:=t b f c;unfold inR aQ;split <;> split <;> split <;> split <;> omega
 have E:∀a,a<=N->a≠i->(ro g a < ro g i↔KB S R i a=true):=fun a d e=>by rw [x a d e,F,m a (l a d) e];unfold inR;split <;> omega
 have D:∀a,a<=N->a≠i->(ro g i < ro g a↔¬KB S R i a=true):=fun a d e=>by rw [x a d e,F,m a (l a d) e];unfold inR;split <;> omega
 have G:∀a,a < N->a≠i->(a+1≠i∨ro R i=n)->(ro R (a+1) < ro R (i+1)↔ro g (a+1) < ro g (i+1)):=fun a d e q=>by
  rcases q with q | q;exact (u (a+1) (i+1) oM oM q oM).symm
  · have r:∀b,b<=N->ro g b=ro R b:=fun b f=>by
        by_cases c:b=i;subst c;omega
        · rw [m b (l b f) c,q];have:=t b f c;unfold inR aQ;split <;> split <;> omega
    rw [r _ oM,r _ oM]
 obtain ⟨M,O,C⟩:=k.endk;refine ⟨k.endk,z.trans k.perm,fun a b d f y=>?_,fun a b d f A W X=>?_⟩;by_cases e:a=i;subst e;by_cases c:b=a;subst c;omega;have:=(D b f c).1 y;unfold KB at this;rw [zCa] at this;omega;by_cases c:b=i;subst c;have:=(E a d e).1 y;unfold KB at this;rw [zCa] at this;omega;exact k.first a b d f ((u a b d f e c).1 y)
 · have w:∀o p,o<=N->p<=N->o≠p->S.getD o 0=S.getD p 0->o < N/\p < N:=fun o p J K Y Z=>by refine ⟨Nat.lt_of_le_of_ne J fun j=>?_,Nat.lt_of_le_of_ne K fun j=>?_⟩;subst j;have:=C p oM;omega;subst j;have:=C o oM;omega
   by_cases e:a=i;subst e;have c:b≠a:=fun j=>A j.symm;rw [D b f c];unfold KB nX;rw [zCa];by_cases s:S.getD b 0=S.getD a 0;obtain ⟨v,H⟩:=w b a f d c s;have:=G b v c oM;have U:ro R (b+1)≠ro R (a+1):=fun j=>c (by have:=dN (l (b+1) oM) (l (a+1) oM) j;omega);have V:ro g (b+1)≠ro g (a+1):=fun j=>c (by have:=dN ((z.trans k.perm).mem_iff.2 (by simp;omega)) ((z.trans k.perm).mem_iff.2 (by simp;omega)) j;omega);omega;omega
   · by_cases c:b=i;subst c;rw [E a d e];unfold KB nX;rw [zCa];by_cases s:S.getD a 0=S.getD b 0;obtain ⟨v,H⟩:=w a b d f e s;have:=G a v e oM;omega;omega
     · rw [u a b d f e c,k.cons a b d f A oM oM];unfold nX;by_cases s:S.getD a 0=S.getD b 0
       · obtain ⟨v,H⟩:=w a b d f A s;by_cases L:ro R i=n
         · have r:∀b,b<=N->ro g b=ro R b:=fun b f=>by
            by_cases c:b=i;subst c;omega
            · rw [m b (l b f) c,L];have:=t b f c;unfold inR aQ;split <;> split <;> omega
           rw [r _ oM,r _ oM]
         · rw [u (a+1) (b+1) oM oM oM oM]
       omega
end
end
end Go.Proofs.YtnmapianpjamnaaGreatDoor
