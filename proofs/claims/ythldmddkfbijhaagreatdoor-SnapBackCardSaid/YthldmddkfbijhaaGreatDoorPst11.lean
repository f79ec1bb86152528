/- Lemmas of the walk. Conditions: each its own. -/
import Derived.Test.YthldmddkfbijhaaGreatDoorPst10
import Derived.Test.YthldmddkfbijhaaGreatDoorProg
import Derived.Test.YthldmddkfbijhaaGreatDoorShl
set_option linter.all false
set_option maxRecDepth 100000
set_option maxHeartbeats 4000000
open Go.Proofs.Tryz
namespace Go.Proofs.YthldmddkfbijhaaGreatDoor
section
open Go.RowKit Go.Shelf
theorem ShelfRow.same {p w':World} {e:Nat} {o:Value} {f:List Nat} {l m:Nat} (r:ShelfRow p e o f l m) (k:∀a d b,Bk p a d b->Bk w' a d b):ShelfRow w' e o f l m:=by
 obtain ⟨q,s,g⟩:=r;exact ⟨q,aA s fun a b _ c=>k _ _ _ c,fun n j=>⟨(g n j).1,(g n j).2.same fun a d b _ c=>k _ _ _ c⟩⟩
theorem WalkAt.same {g w':World} {b gk:Nat} {c:List Nat} (l:WalkAt g b gk c) (a:∀d f e,Bk g d f e->Bk w' d f e):WalkAt w' b gk c:=by
 obtain ⟨k,j,n,⟨m,S,t,o,p⟩,q⟩:=l;exact ⟨k,j,a _ _ _ n,⟨m,S,t,a _ _ _ o,fun s r=>(p s r).same a⟩,a _ _ _ q⟩
def LvW (a:World) (b d:Nat) (c:List Nat):Prop:=∃gk e f g,Bk a d 92 #[.pointer (some ⟨gk,0,none⟩),e,f,g]/\WalkAt a b gk c
theorem LvW.vis {e w':World} {a c:Nat} {b:List Nat} (f:LvW e a c b) (d:Vis e w'):LvW w' a c b:=by
 obtain ⟨gk,k,l,m,g,j⟩:=f;exact ⟨gk,k,l,m,d.bk g dC dC,j.vis d⟩
theorem LvW.same {j w':World} {a e:Nat} {b:List Nat} (k:LvW j a e b) (f:∀c g d,Bk j c g d->Bk w' c g d):LvW w' a e b:=by
 obtain ⟨gk,n,o,p,l,m⟩:=k;exact ⟨gk,n,o,p,f _ _ _ l,m.same f⟩
theorem LvW.lt {b:World} {c a:Nat} {d:List Nat} (e:LvW b c a d):a < b.heap.size:=by
 obtain ⟨gk,j,k,l,f,g⟩:=e;exact f.lt
theorem LiveAt.lvw {e:World} {a c gk k j:Nat} {o p q:Value} {f l m:Nat} {b:List Nat} {g:List (Nat×Nat)} {n:List Bool} (d:LiveAt e a c gk k j o p q f l m b g n):LvW e a c b:=⟨gk,_,_,_,d.blk,d.walk⟩
theorem bQ (d f:Nat) (b:List Nat) (a:Nat) (c:World) (k:LvW c d f b) (m:b.length=a+1) (p:a<=1000000):
 Calls prog 37 #[f] c fun e j=>e=.returned (.int .i64 (a:Int))/\c=j:=by
 obtain ⟨gk,q,r,s,g,l⟩:=k;have n:=g.cell 0;have o:IntKind.i64.wrap (((a+1:Nat):Int) - 1)=(a:Int):=by rw [IntKind.wrap_i64];omega
 clear g;go_enter func37,ntmps37;go_wp2_with fail;refine (kQ d gk b _ l).mono ?_;rintro e j ⟨rfl,rfl⟩;rw [m];go_wp2_with fail;go_ret;exact ⟨fB oM,rfl⟩
theorem vC (b:List Nat) (a e:Nat):cH b a e<=b.length:=by
 unfold cH;have k:=(List.take_sublist e b).count_le a;have l:b.countP (fun c=>decide (c < a))+b.count a<=b.length:=by
  induction b with
  | nil=>simp
  | cons c j g=>
    have:=g ((List.take_sublist e j).count_le a);rw [zBn,List.count_cons];by_cases d:c < a;have:¬c=a:=oM;simp [d,this];omega;by_cases f:c=a;simp [d,f];omega;simp [d,f];omega
 omega
end
section
theorem iD (e:List Nat) (c d:Nat):sufLt e c d↔aN e c < aN e d∨(aN e c=aN e d/\sufLt e (c+1) (d+1)):=by
 constructor
 · rintro ⟨k,b,n,f,g⟩;rcases b with _ | b;exact .inl g
   · refine .inr ⟨f 0 oM,k,b,by omega,fun a j=>?_,?_⟩
     · have:=f (a+1) oM;rwa [show c+(a+1)=c+1+a by omega,show d+(a+1)=d+1+a by omega] at this
     · rwa [show c+(b+1)=c+1+b by omega,show d+(b+1)=d+1+b by omega] at g
 · rintro (l |⟨m,k,b,n,f,g⟩);exact ⟨1,0,by omega,fun a j=>absurd j oM,l⟩
   · refine ⟨k+1,b+1,by omega,fun a j=>?_,?_⟩
     · rcases a with _ | a;exact m
       · have:=f a oM;rwa [show c+(a+1)=c+1+a by omega,show d+(a+1)=d+1+a by omega]
     · rwa [show c+(b+1)=c+1+b by omega,show d+(b+1)=d+1+b by omega]
theorem sZ {R:Nat->Nat->Prop} {P:Nat->Bool} {b:List Nat} (o:b.Pairwise R) (l:∀c a,R c a->P a=true->P c=true):b.take (b.countP P)=b.filter P:=by
 induction b with
 | nil=>rfl
 | cons c e q=>
   obtain ⟨g,j⟩:=List.pairwise_cons.1 o;rw [zBn,List.filter_cons];by_cases d:P c=true
   · simp only [d,if_true];rw [List.take_succ_cons,q j]
   · have f:∀a∈e,¬P a=true:=fun a p n=>d (l c a (g a p) n);have k:e.countP P=0:=List.countP_eq_zero.2 f;have m:e.filter P= []:=List.filter_eq_nil_iff.2 f;simp [d,k,m]
theorem IsSuf.count {b c:List Nat} (d:IsSuf b c) (a:Nat->Bool):c.countP a=(List.range b.length).countP a:=d.perm.countP_eq a
theorem bT {a:List Nat} (b:0 < a.length):bM a 0=a.getD (a.length - 1) 0:=by
 unfold bM;rw [zBi,zBu oM]
theorem aY {a:List Nat} {b:Nat} (c:b+1 < a.length):bM a (b+1)=a.getD b 0:=by
 unfold bM;rw [show b+1+a.length - 1=b+a.length by omega,Nat.add_mod_right,zBu oM]
theorem eU {a:List Nat} {b:Nat} (c:b < a.length):aN a b=((a.getD b 0:Nat):Int):=by
 rw [aKf c,zAb,zAa c];rfl
theorem fX {m:Nat} (b:Nat->Bool) (c:Nat->Bool) (d:b 0=c m) (e:∀a,a < m->b (a+1)=c a):(List.range (m+1)).countP b=(List.range (m+1)).countP c:=by
 rw [List.range_succ_eq_map,zBn,List.countP_map,<-List.range_succ_eq_map,List.range_succ,List.countP_append,zBn,List.countP_nil,zBi,d];congr 1;refine List.countP_congr fun a f=>?_;have g:a < m:=by simpa using f
 simp [Function.comp,e a g]
theorem tK {α:Type} (b:List α) (c d:α->Bool) (e:∀a∈b,¬(c a=true/\d a=true)):b.countP (fun a=>c a||d a)=b.countP c+b.countP d:=by
 induction b with
 | nil=>rfl
 | cons a b g=>
   rw [zBn,zBn,zBn,g (fun j f=>e j (by simp [f]))];have:=e a (by simp);cases k:c a <;> cases l:d a <;> simp_all <;> omega
structure EndOk (l:List Nat) (m:Nat):Prop where
 len:l.length=m+1
 last:l.getD m 0=0
 pos:∀p,p < m->0 < l.getD p 0
theorem eE (a:List UInt8):EndOk (aF a) a.length:=by
 refine ⟨aL a,?_,fun c b=>?_⟩
 · unfold aF dF;rw [zAb,zAo (by simp)];simp
 · unfold aF dF;rw [zAb,zAn (by simpa using b),zAf,zAa b];simp
end
section
open Go.RowKit
noncomputable def ltP (a:List Nat) (b c:Nat):Bool:=@decide (sufLt a c b) (Classical.propDecidable _)
theorem rP (a:List Nat) (b c:Nat):ltP a b c=true↔sufLt a c b:=by
 unfold ltP;exact @decide_eq_true_iff _ (Classical.propDecidable _)
theorem aAz {b a:List Nat} (g:IsSuf b a) (i:Nat) (k:i < a.length):a.countP (ltP b a[i])=i:=by
 have n:(a.take i).countP (ltP b a[i])=i:=by rw [List.countP_eq_length.2 fun m f=>?_];rw [zAj];omega;obtain ⟨d,e,rfl⟩:=zBo.1 f;rw [zAj] at e;rw [List.getElem_take,rP];exact zAr.1 g.sorted d i oM k oM
 have o:(a.drop i).countP (ltP b a[i])=0:=List.countP_eq_zero.2 fun m f c=>by obtain ⟨d,e,rfl⟩:=zBo.1 f;rw [zAw] at e;rw [List.getElem_drop,rP] at c;rcases zBa d with j | j;subst j;exact sufLt.asymm c c;exact sufLt.asymm c (zAr.1 g.sorted i (i+d) k oM oM)
 have l:a.countP (ltP b a[i])=(a.take i++a.drop i).countP (ltP b a[i]):=congrArg (List.countP _) (zAu i a).symm;rw [l,List.countP_append];omega
theorem aCf {a d:List Nat} (e:IsSuf a d) (b:Nat->Bool) (k:∀g j,sufLt a g j->b j=true->b g=true) (f:Nat):((aE a d).take (d.countP b)).count f=(List.range a.length).countP (fun c=>decide (bM a c=f)&&b c):=by
 rw [aE,<-List.map_take,sZ e.sorted k,<-e.count,List.count_eq_countP,List.countP_map,List.countP_filter];refine List.countP_congr fun c _=>?_;simp [Function.comp,and_comm]
theorem lf {a e:List Nat} {g:Nat} (f:IsSuf a e) (o:EndOk a g) {i m b:Nat} (q:i < e.length) (y:m < e.length) (x:e[i]=b+1) (z:e[m]=b):cH (aE a e) (a.getD b 0) i=m:=by
 have j:=o.len;have A:b < g:=by have:=f.lt (zBj q);omega
 have B:=o.pos b A;obtain ⟨d,r⟩:=eqx (a.getD b 0);rw [r] at B⊢;have p:=aAz f i q;have n:=aAz f m y;rw [x] at p;rw [z] at n;have s:=aCf f (ltP a (b+1)) (fun c F C u=>by rw [rP] at u⊢;exact C.trans u) d;rw [p] at s;rw [f.count] at n;unfold cH;rw [s];have v:(aE a e).countP (fun c=>decide (c < d))=(List.range (g+1)).countP (fun b=>decide (a.getD b 0 < d)):=by
  rw [aE,List.countP_map,f.count,j];refine fX _ _ ?_ fun b D=>?_
  · show decide (bM a 0 < d)=_;rw [bT oM,j,zBb]
  · show decide (bM a (b+1) < d)=_;rw [aY oM]
 have w:(List.range a.length).countP (fun c=>decide (bM a c=d)&&ltP a (b+1) c)=(List.range (g+1)).countP (fun c=>decide (a.getD c 0=d)&&ltP a (b+1) (c+1)):=by
  rw [j];refine fX _ _ ?_ fun c t=>?_;show (decide (bM a 0=d)&&_)=(decide (a.getD g 0=d)&&_);rw [bT oM,j,zBb,o.last];have:decide (0=d)=false:=(by simp;omega);rw [this];rfl
  · show (decide (bM a (c+1)=d)&&_)=_;rw [aY oM]
 rw [v,w,<-tK,<-n,j];refine List.countP_congr fun c t=>?_;have E:c < g+1:=(by simpa using t);rw [rP,iD,eU (by omega:c < a.length),eU (by omega:b < a.length),r];simp only [Bool.or_eq_true,zBd,zCa,rP];constructor;rintro (k |⟨k,l⟩);exact .inl oM;exact .inr ⟨by omega,l⟩;rintro (k |⟨k,l⟩);exact .inl oM;exact .inr ⟨by omega,l⟩;intro c _;simp only [zBd,zCa];rintro ⟨k,l,_⟩;omega
theorem rS {a c:List Nat} {d:Nat} (e:EndOk a d) {i b:Nat} (f:i < c.length) (g:c[i]=b+1) (k:b < d):(aE a c)[i]'(by rw [bP];exact f)=a.getD b 0:=by
 have j:=e.len;unfold aE;rw [List.getElem_map,g,aY oM]
theorem IsSuf.row {d b:List Nat} (f:IsSuf d b) {p:Nat} (g:p < d.length):∃a,∃c:a < b.length,b[a]=p:=by
 obtain ⟨a,c,e⟩:=zBo.1 (f.mem g);exact ⟨a,c,e⟩
theorem aBz (a:List Nat) (b c:Nat) (e:b < a.length):(aK a c (bC a[b] c))[fN a b a[b] c]?=some (fY a[b] c):=by
 unfold aK fN;have d:a=a.take b++a[b]::a.drop (b+1):=by rw [<-zAx e,zAu]
 generalize f:a[b]=s at d⊢;generalize a.take b=A at d⊢;rw [d,List.filter_append,List.filter_cons,zBx (by simp),zAz,List.countP_eq_length_filter,zAo (by simp)];simp
theorem aJc (e gk d:Nat) (y z:Int) (n:Value) (c:List Bool) (b:Nat) (a:World) (q:TreeAt a e c) (k:Bk a gk 3 #[(b:Int)]) (l:Bk a d 4 #[n]) (p:b < c.length):
 Calls prog 112 #[.agg #[e,.int .i64 y,.int .i64 z],gk,d] a fun o A=>o=.returned (.tuple #[])/\
  ∃w1,VisK (fun g=>g=e) a w1/\Bk w1 d 4 #[n]/\A=w1.setCell ⟨d,0,none⟩ (.bool (c.getD b false)):=by
 have C:a.cell? ⟨gk,0,none⟩=some (.int .i64 (b:Int)):=(k.cell 0).trans rfl;have F:=k.lt;have G:=l.lt;obtain ⟨B,j⟩:=eqx (c.getD b false);rw [j];obtain ⟨t,x,v,u⟩:=hqq4 j q l p;clear q k l j p;go_enter func112,ntmps112;go_wp2_with fail;refine (aDh e c b _ (x.out.below (bR.alloc nL _)) u.out).mono ?_;rintro o w1 ⟨rfl,r⟩;rw [t.out];have m:VisK (fun g=>g=e) a w1:=(VisK.of_below (bR.alloc nL _)).trans r;have f:=m.1.bk v.out dC dC;have D:w1.cell? ⟨d,0,none⟩=some n:=(f.cell 0).trans rfl;have E:=f.frozen 0;obtain ⟨s,w⟩:=hqq2 m f;clear r m f;go_wp2_with fail;go_end0;exact ⟨rfl,w1,s.out,w.out,rfl⟩
theorem aG9 (b e gk c:Nat) (S:Nat->Value) (A ad K j:Int) (af:Value) (u:List Bool) (s:Nat) (w0 d:World) (J:Bk d b 154 (wcells S A ad)) (W:TreeAt w0 e u) (X:Vis w0 d) (ax:w0.heap.size<=c) (Q:Bk d gk 3 #[(s:Int)]) (H:Bk d c 4 #[af]) (aB:s < u.length):
 Calls prog 111 #[b,.agg #[e,.int .i64 K,.int .i64 j],.func (.func 112) #[] #[gk,c]] d fun k Z=>k=.returned (.tuple #[])/\
  VisF (fun a=>a=c) d Z/\Keep (fun a=>a=b∨a=e∨a=c) d Z/\Bk Z c 4 #[.bool (u.getD s false)]:=by
 have a9:=W.vis X;obtain ⟨q,O⟩:=eqx (u.getD s false);rw [O];obtain ⟨an,aq,am⟩:=hqq3 O W X;clear O W X;obtain ⟨aG,U⟩:=eqx (Obj.cells #[e,.int .i64 K,.int .i64 j] 157);have a6:=(Below.refl d.heap.size d).alloc nL aG;have V:=Bk.new d 157 #[e,.int .i64 K,.int .i64 j];rw [U] at V;have aX:=Q.lt;have aY:=H.lt;have aZ:=J.lt;have aF:=Bk.ne H J dC;obtain ⟨L,a1,a0,a3,o,a2,ao⟩:=hqq7 a9 H Q J a6 V U;clear a9 Q H J a6 V U;go_enter func111,ntmps111;go_wp2_with fail;rw [ao.out];refine (aJc e gk c K j af u s _ (L.out.below o.out) (a0.out.alloc _) (a1.out.alloc _) aB).mono ?_;rintro k t ⟨rfl,w1,r,a8,rfl⟩;rw [an.out];obtain ⟨n,ab⟩:=((Vis.of_below o.out).trans r.1).waveC a3.out;have z:=ab.far (p:=⟨c,0,none⟩) (fun g=>aF g.symm) (.bool q);have aC:=L.out.vis ((Vis.of_below o.out).trans r.1);have y:TreeAt (w1.setCell ⟨c,0,none⟩ (.bool q)) e u:=aq.out.vis (((am.out.trans (Vis.of_below o.out)).trans r.1).fresh (p:=⟨c,0,none⟩) ax _);obtain ⟨B,Y⟩:=y.visits;have v:=(r.1.bk a2.out dC dC).far (p:=⟨c,0,none⟩) (fun g=>absurd (show d.heap.size=c from g) oM) (.bool q);have I:=a8.set 0 (.bool q);have P:VisF (fun a=>a=c) d (w1.setCell ⟨c,0,none⟩ (.bool q)):=VisF.put (F:=fun a=>a=c) (VisF.of_vis ((Vis.of_below o.out).trans r.1)) (p:=⟨c,0,none⟩) (.inl rfl) _;have T:Keep (fun a=>a=b∨a=e∨a=c) d (w1.setCell ⟨c,0,none⟩ (.bool q)):=Keep.setCell (F:=fun a=>a=b∨a=e∨a=c) ((Keep.of_below o.out).trans (r.2.mono fun a _ k=>.inr (.inl k))) (p:=⟨c,0,none⟩) (.inl (.inr (.inr rfl))) _;obtain ⟨D,a5⟩:=eqx (w1.setCell ⟨c,0,none⟩ (.bool q));rw [a5] at z y Y v I P T⊢;have aH:D.cell? ⟨d.heap.size,0,none⟩=some (.pointer (some ⟨e,0,none⟩)):=(v.cell 0).trans rfl;obtain ⟨C,ap,al,aj,ak,ar,au⟩:=hqq7 z v I P T y Y;have aE:=y.lt;have aW:=v.lt;have az:=Bk.ne z v dC;have ay:=Bk.ne z I dC;have aA:e≠b:=by rintro rfl;obtain ⟨aU,ad,⟨_,_,E⟩|⟨_,_,_,_,_,G⟩⟩:=ar.out;exact absurd (aM E C.out).1 dC;exact absurd (aM G.tree C.out).1 dC
 clear z v I P T y Y a5 ab aC a8 r o L a1 a0 a3 a2 aH;go_wp2_with fail;refine wp_region_any kR ?_;refine bH [9,10,11,12,13,14,15,16,17,18] (fun a=>a=b) 10 [3,10] (fun t=>Bk t b 154 (wcells S A n)) (fun _ t=>Bk t b 154 (wcells S A (IntKind.i64.wrap (n+B)))) [is b,is b,is (.pointer (some ⟨b,10,none⟩)),is (.int .i64 n),is d.heap.size,is e,is (.int .i64 B),is (.int .i64 (IntKind.i64.wrap (n+B))),is b,is (.pointer (some ⟨b,10,none⟩)),cX] _ _ rfl kR kR (C.out) (fun t b1 g _ aw=>Bk.below g aw g.lt) (fun _ _ _ g s=>Bk.below g s g.lt) tA0 ?_ ?_
 · refine aO ?_;refine pH3 0 (.pointer (some ⟨b,0,none⟩)) ?_;refine pV3 0 9 ?_;refine pV3 1 10 ?_;refine sC3 (fun _ l _ M _ _ _ m _ _ _ w=>?_) ?_
   · have x:=M rfl;have aN:_=_:=m 2 11 kR rfl;have aK:l.cell? ⟨b,10,none⟩=some (.int .i64 n):=(x.cell 10).trans (bI _ _ _).2.2.2.2.2.2.2.2.2.2;go_simp;exact kq w rfl
   refine pH3 4 (.pointer (some ⟨d.heap.size,0,none⟩)) ?_;refine pL3 4 13 (fun l f=>have f:Keep (fun a=>a=b) D l:=kD f;(((f.bk ap.out (fun g=>az (show d.heap.size=b from g).symm)).cell 0).trans rfl:l.cell? ⟨d.heap.size,0,none⟩=some (.pointer (some ⟨e,0,none⟩)))) ?_;refine sC3 (fun _ l f _ _ _ _ m _ _ _ w=>?_) ?_
   · replace f:Keep (fun a=>a=b) D l:=kD f;have aP:_=_:=m 5 14 kR rfl;go_simp;refine (fK e B l ((f.cell aE aA).trans au.out)).mono ?_;rintro k b2 ⟨rfl,av⟩;exact w _ _ (aJ av) rfl
   refine pW3 3 12 6 15 ?_;refine pV3 0 9 ?_;refine pV3 8 17 ?_;refine sC3 (fun _ l _ M _ _ _ m _ _ _ w=>?_) ?_
   · have x:=M rfl;have aR:_=_:=m 9 18 kR rfl;have aQ:_=_:=m 7 16 kR rfl;have aL:l.cell? ⟨b,10,none⟩=some (.int .i64 n):=(x.cell 10).trans (bI _ _ _).2.2.2.2.2.2.2.2.2.2;have aT:=x.frozen 10;go_simp;refine w (.bool true) _ (aV (Keep.setCell (F:=fun a=>a=b) (Keep.refl _ _) (p:=⟨b,10,none⟩) (.inl rfl) _)) ?_;rw [<-cM S A n];exact x.set 10 _
   exact aD
 · intro aS ae f m a7;replace f:Keep (fun a=>a=b) D ae:=kD f;obtain ⟨b0,ac⟩:∃aI,(fun _ t=>Bk t b 154 (wcells S A (IntKind.i64.wrap (n+B)))) aI ae:=a7 10 dC;simp only [zqq];clear m a7;have aa:=Vis.of_wave f C.out ac;have a4:=VisF.trans aj.out (VisF.of_vis aa);have E:=ak.out.trans (f.mono fun a _ k=>.inl k);have G:=f.bk al.out (fun k=>ay (show c=b from k).symm);obtain ⟨ag,ah,ai⟩:=hqq3 a4 E G;clear aa a4 E G ac f;go_wp2_with fail;go_end0;exact ⟨rfl,ag.out,ah.out,ai.out⟩
theorem eB (c d:List Nat) (a b:Nat):aK (c++d) a b=aK c a b++aK d a b:=by
 unfold aK;rw [List.filter_append,zAz]
theorem kO (c:Nat) (d:List Nat) (a b:Nat):aK (c::d) a b=if bC c a=b then fY c a::aK d a b else aK d a b:=by
 unfold aK;rw [List.filter_cons];by_cases e:bC c a=b
 · simp [e]
 · simp [e]
theorem sB (a:List Nat) (d b c:Nat):aK a b c=aK (a.take d) b c++aK (a.drop d) b c:=by
 rw [<-eB,zAu]
theorem aAG (b:List Nat) (c d a:Nat):(aK (b.take c) a (bC d a)).length=fN b c d a:=by
 rw [iW];rfl
theorem aEY (c:List Nat) (d b a:Nat):aK (aP c d b) a (bC b a)=aP (aK c a (bC b a)) (fN c d b a) (fY b a):=by
 have e:=aAG c d b a;unfold aP;rw [eB,kO,zBx rfl]
 conv=>rhs;rw [sB c d a (bC b a)]
 rw [<-e,List.take_left,List.drop_left]
theorem zH (c:List Nat) (f d a b:Nat) (e:bC d a≠b):aK (aP c f d) a b=aK c a b:=by
 unfold aP;rw [eB,kO,zBw e,<-sB]
theorem aII {a:List Nat} {b c:Nat} (d:a[b]?=some c):a=a.take b++c::a.drop (b+1):=by
 obtain ⟨e,f⟩:=zAc.1 d;rw [<-f,<-zAx e,zAu]
theorem aEZ {c:List Nat} {d b:Nat} (a:Nat) (g:c[d]?=some b):aK (aG c d) a (bC b a)=aG (aK c a (bC b a)) (fN c d b a):=by
 have e:=aAG c d b a;have f:aK c a (bC b a)=aK (c.take d) a (bC b a)++fY b a::aK (c.drop (d+1)) a (bC b a):=by
  conv=>lhs;rw [aII g]
  rw [eB,kO,zBx rfl]
 unfold aG;rw [eB,f];generalize aK (c.take d) a (bC b a)=A at e⊢;generalize aK (c.drop (d+1)) a (bC b a)=C;rw [<-e,List.take_left,List.drop_append,List.drop_eq_nil_of_le oM,show A.length+1 - A.length=1 by omega];rfl
theorem zI {a:List Nat} {d e:Nat} (b c:Nat) (f:a[d]?=some e) (g:bC e b≠c):aK (aG a d) b c=aK a b c:=by
 conv=>rhs;rw [aII f]
 unfold aG;rw [eB,eB,kO,zBw g]
theorem aFV {α:Type} (b:List α) (a:Nat) (d:α) (e:a<=b.length):(aP b a d).take a=b.take a:=by
 unfold aP;have c:(b.take a).length=a:=by rw [zAj];omega
 rw [List.take_append,c,Nat.sub_self,List.take_zero,List.append_nil,List.take_take,Nat.min_self]
theorem aJP {b:List Nat} {e d c:Nat} (f:∀a∈b,a < c) (j:d < c):∀a∈aP b e d,a < c:=fun a k=>by
 rcases List.mem_cons.1 ((eX b e d).mem_iff.1 k) with rfl | g;exact j;exact f a g
theorem oW {c:List Nat} {g d:Nat} (e:∀a∈c,a < d):∀a∈aG c g,a < d:=fun a f=>by
 unfold aG at f;rcases zCp.1 f with b | b;exact e a (List.mem_of_mem_take b);exact e a (List.mem_of_mem_drop b)
def TC (a b:Nat):Nat:=16+512*a+b
theorem aKV {c a d b:Nat} (f:a < 512) (g:b < 512) (e:TC c a=TC d b):c=d/\a=b:=by
 unfold TC at e;omega
theorem aKx {a b:Nat} (d:a < 9) (e:b < 2 ^ a):b < 512:=by
 have:2 ^ a<=2 ^ 9:=zBp dC oM;have c:(2:Nat)^ 9=512:=dC;omega
def cZ (own:Nat->Nat) (d c b a:Nat):Nat:=if a < d then own a else if a < c then b else 0
structure WaveS (w:World) (B:Nat) (own:Nat->Nat) (gv:Nat) (S:Nat->Value) (Ls:Nat->List Nat) (n v:Int):Prop where
 blk:Bk w gv 154 (wcells S n v)
 base:B<=gv/\own gv=2
 rows:∀lv,lv < 9->∃G:Nat->Nat,w.ownsRow B 157 3 (S lv) (2 ^ lv) (dY G lv (2 ^ lv))/\(∀b,(S lv).ownBlock=some b->own b=2)/\∀p,p < 2 ^ lv->TreeE w (fun b=>own b=TC lv p) (G p) (aK (Ls lv) lv p)
 bnd:∀b,own b≠0->B<=b/\b < w.heap.size
def WaveE (e:World) (b:Nat) (own:Nat->Nat) (c:Nat) (a:List Nat):Prop:=∃S d,WaveS e b own c S (fun _=>a) (a.length:Int) d
theorem WaveS.vis {l w':World} {d:Nat} {own:Nat->Nat} {g:Nat} {S:Nat->Value} {e:Nat->List Nat} {k v:Int} (a:WaveS l d own g S e k v) (b:Vis l w'):∃c,WaveS w' d own g S e k c:=by
 obtain ⟨c,q⟩:=b.waveC a.blk;refine ⟨c,q,a.base,fun t r=>?_,fun f j=>⟨(a.bnd f j).1,zAl (a.bnd f j).2 b.size⟩⟩;obtain ⟨m,n,o,p⟩:=a.rows t r;exact ⟨m,b.own n dC dC,o,fun u s=>(p u s).vis b⟩
theorem WaveE.vis {e w':World} {b:Nat} {own:Nat->Nat} {d:Nat} {c:List Nat} (a:WaveE e b own d c) (g:Vis e w'):WaveE w' b own d c:=by
 obtain ⟨S,k,a⟩:=a;obtain ⟨j,f⟩:=a.vis g;exact ⟨S,j,f⟩
theorem WaveE.at {k:World} {c:Nat} {own:Nat->Nat} {g:Nat} {e:List Nat} (a:WaveE k c own g e):WaveAt k c g e:=by
 obtain ⟨S,p,a⟩:=a;refine ⟨a.base.1,S,p,a.blk,fun o n=>?_⟩;obtain ⟨d,l,q,f⟩:=a.rows o n;refine ⟨d,l,fun b j=>⟨?_,(f b j).at⟩⟩;have m:=(f b j).1;exact (a.bnd (d b) (by rw [m];unfold TC;omega)).1
theorem WaveS.edit {f m:World} {u:Nat} {own:Nat->Nat} {y:Nat} {S:Nat->Value} {r:Nat->List Nat} {F aa Q:Int} (g:WaveS f u own y S r F aa) {lv p gx:Nat} (a5:lv < 9) (a7:p < 2 ^ lv) {q:Nat->Nat} (Z:f.ownsRow u 157 3 (S lv) (2 ^ lv) (dY q lv (2 ^ lv)))
 (L:own gx < 16) (a3:∀w,¬Bk f gx 157 w) {I:List Bool} (a8:TreeE m (Gw (fun a=>own a=TC lv p) f.heap.size) (q p) I) (E:Keep (fun G=>own G=TC lv p∨G=y∨G=gx) f m) (D:Bk m y 154 (wcells S F Q))
 {L':List Nat} (a1:aK L' lv p=I) (a2:∀c,c≠p->aK L' lv c=aK (r lv) lv c):
 WaveS m u (cZ own f.heap.size m.heap.size (TC lv p)) y S (fun b=>if b=lv then L' else r b) F Q:=by
 have an:u<=f.heap.size:=zAk g.base.1 (zCm g.blk.lt);have B:∀a,a < f.heap.size->cZ own f.heap.size m.heap.size (TC lv p) a=own a:=fun a D=>by unfold cZ;rw [zBx D]
 refine ⟨D,⟨g.base.1,by rw [B _ g.blk.lt];exact g.base.2⟩,fun b P=>?_,fun a l=>?_⟩
 · obtain ⟨o,x,J,K⟩:=g.rows b P;refine ⟨o,aA x fun a w A s=>E.bk s fun d=>?_,fun a A=>?_,fun c t=>?_⟩;rcases d with d | d | d;rw [J a A] at d;unfold TC at d;omega;subst d;exact absurd (aM s g.blk).1 dC;subst d;exact a3 w s;rw [B _ (x.lt a A).2];exact J a A
   · have O:(b≠lv∨c≠p)->TreeE m (fun a=>cZ own f.heap.size m.heap.size (TC lv p) a=TC b c) (o c) (aK (r b) b c):=fun a6=>by
        have a9:=(K c t).keep E fun a ap w M s j d=>by rcases d with d | d | d;rw [j] at d;obtain ⟨e,n⟩:=aKV (aKx P t) (aKx a5 a7) d;rcases a6 with z | z;exact z e;exact z n;subst d;rw [(aM s g.blk).1] at M;exact absurd M dC;subst d;rw [j] at L;unfold TC at L;omega
        have ao:TreeE f (fun a=>own a=TC b c) (o c) (aK (r b) b c):=K c t;refine a9.mono fun a l j=>?_;have a4:a < f.heap.size:=(g.bnd a (by rw [j];unfold TC;omega)).2;rw [B a a4];exact j
     by_cases e:b=lv
     · subst e;rw [zBx rfl];by_cases n:c=p
       · subst n;rw [a1]
         have a0:o c=q c:=by
           have z:=x.1;have e:=(fF o b (2 ^ b) c t).1;have n:=(fF q b (2 ^ b) c t).1
           have Y:dY o b (2 ^ b)=dY q b (2 ^ b):=by
             rcases x.2 with ⟨H,T⟩|⟨al,ah,aj,H,T,U,ab,ac,ad,V⟩;have:=Nat.two_pow_pos b;omega
             · rcases Z.2 with ⟨k,v⟩|⟨am,ai,ak,k,v,W,ae,af,ag,X⟩;have:=Nat.two_pow_pos b;omega
               · rw [H] at k;injection k with k _ _;injection k with k;injection k with k _;subst k;obtain ⟨_,rfl⟩:=aM U W;rw [<-V,<-X]
           rw [Y,n] at e;injection e with e;injection e with e;injection e with e;injection e with e _;exact e.symm
         rw [a0];refine a8.mono fun a l j=>?_;rcases j with j | j;rw [B a (g.bnd a (by rw [j];unfold TC;omega)).2];exact j
         · unfold cZ;rw [zBw oM,zBx l]
       rw [a2 c n];exact O (.inr n)
     rw [zBw e];exact O (.inl e)
 unfold cZ at l;by_cases C:a < f.heap.size;rw [zBx C] at l;exact ⟨(g.bnd a l).1,zAl C E.size⟩;rw [zBw C] at l;by_cases v:a < m.heap.size;exact ⟨by omega,v⟩;rw [zBw v] at l;exact absurd rfl l
theorem aHd (S:Nat->Value) (c a b:Int):(wcells S c b).setIfInBounds 9 (.int .i64 a)=wcells S a b:=by
 unfold wcells;rfl
theorem WaveS.set_n {f:World} {j:Nat} {own:Nat->Nat} {b:Nat} {S:Nat->Value} {k:Nat->List Nat} {A o:Int} (c:WaveS f j own b S k A o) (e:Int):WaveS (f.setCell ⟨b,9,none⟩ (.int .i64 e)) j own b S k e o:=by
 have g:Keep (fun a=>a=b) f (f.setCell ⟨b,9,none⟩ (.int .i64 e)):=Keep.setCell (F:=fun a=>a=b) (Keep.refl _ _) (p:=⟨b,9,none⟩) (.inl rfl) _;refine ⟨by have:=c.blk.set 9 (.int .i64 e);rw [aHd] at this;exact this,c.base,fun z x=>?_,fun a l=>⟨(c.bnd a l).1,zAl (c.bnd a l).2 g.size⟩⟩;obtain ⟨q,u,v,w⟩:=c.rows z x;exact ⟨q,aA u fun a r _ d=>g.bk d (Bk.ne d c.blk dC),v,fun n y=>(w n y).keep g fun a B r m d _ s=>by
  have t:a=b:=s;subst t;rw [(aM d c.blk).1] at m;exact absurd m dC⟩
theorem WaveS.far {p w':World} {f:Nat} {own:Nat->Nat} {k:Nat} {S:Nat->Value} {g:Nat->List Nat} {n o:Int} (b:WaveS p f own k S g n o) {H:Nat->Prop} (d:Keep H p w') (e:∀a,H a->own a≠2/\own a < 16):WaveS w' f own k S g n o:=by
 refine ⟨d.bk b.blk (fun c=>by have:=e _ c;have:=b.base.2;omega),b.base,fun y w=>?_,fun a l=>⟨(b.bnd a l).1,zAl (b.bnd a l).2 d.size⟩⟩;obtain ⟨q,s,j,t⟩:=b.rows y w;exact ⟨q,aA s fun a r u m=>d.bk m (fun c=>by have:=e _ c;have:=j a u;omega),j,fun z x=>(t z x).keep d fun a B r A m v c=>by
  have:=e a c;rw [v] at this;unfold TC at this;omega⟩
theorem WaveE.far {f w':World} {c:Nat} {own:Nat->Nat} {e:Nat} {d:List Nat} (b:WaveE f c own e d) {H:Nat->Prop} (j:Keep H f w') (g:∀a,H a->own a≠2/\own a < 16):WaveE w' c own e d:=by
 obtain ⟨S,k,b⟩:=b;exact ⟨S,k,b.far j g⟩
theorem WaveS.paint {c:World} {d:Nat} {own own':Nat->Nat} {e:Nat} {S:Nat->Value} {j:Nat->List Nat} {n o:Int} (b:WaveS c d own e S j n o) (f:∀a,a < c.heap.size->2<=own a->own' a=own a) (r:∀a,own' a≠0->d<=a/\a < c.heap.size):WaveS c d own' e S j n o:=by
 refine ⟨b.blk,⟨b.base.1,by rw [f e b.blk.lt (by rw [b.base.2];omega)];exact b.base.2⟩,fun v t=>?_,r⟩;obtain ⟨p,k,l,q⟩:=b.rows v t;refine ⟨p,k,fun a g=>?_,fun w u=>(q w u).mono fun a s m=>?_⟩;rw [f a (k.lt a g).2 (by rw [l a g];omega)];exact l a g;rw [f a s (by rw [m];unfold TC;omega)];exact m
theorem WaveE.paint {b:World} {c:Nat} {own own':Nat->Nat} {f:Nat} {e:List Nat} (d:WaveE b c own f e) (g:∀a,a < b.heap.size->2<=own a->own' a=own a) (j:∀a,own' a≠0->c<=a/\a < b.heap.size):WaveE b c own' f e:=by
 obtain ⟨S,k,d⟩:=d;exact ⟨S,k,d.paint g j⟩
def aIR (N:Nat) (c:TypeId) (b:Array Value):Value->World->Prop:=fun d e=>∃a,d=.pointer (some ⟨a,0,none⟩)/\Bk e a c b/\N<=a
theorem aIQ {d:Nat} {b:Nat->Prop} (N:Nat) (a:TypeId) (k:Array Value) (l:a≠202) (m:a≠154) (n:∀j,¬b j):aGZ (VFB d b) (aIR N a k):=fun _ _ _ ⟨c,e,f,g⟩ o=>⟨c,e,o.1.bk f l m (n c),g⟩
theorem WaveS.cells {d:World} {f:Nat} {own:Nat->Nat} {a:Nat} {S:Nat->Value} {g:Nat->List Nat} {b c:Int} (e:WaveS d f own a S g b c):(∀i,i < 9->d.cell? ⟨a,i,none⟩=some (S i))/\d.cell? ⟨a,9,none⟩=some (.int .i64 b)/\d.cell? ⟨a,10,none⟩=some (.int .i64 c):=by
 obtain ⟨m,n,o,p,q,r,s,t,u,k,j⟩:=bI S b c;exact ⟨fun i l=>(e.blk.cell i).trans (sY S b c i l),(e.blk.cell 9).trans k,(e.blk.cell 10).trans j⟩
theorem xV (a1 g:Nat) (own:Nat->Nat) (k:List Nat) (m l:Nat) (j:World) (s:WaveE j a1 own g k) (ac:l < 257) (ao:m<=k.length) (aC:∀L∈k,L < 257) (c2:k.length<=127):
 Calls prog 116 #[g,(m:Int),(l:Int)] j fun o b5=>o=.returned (.int .i64 0)/\∃b3,WaveE b5 a1 b3 g (aP k m l)/\(∀a,a < j.heap.size->b3 a=own a)/\(∀a,j.heap.size<=a->b3 a≠1)/\Keep (fun a=>a=g∨16<=own a) j b5:=by
 have bz:=lH k m l ao aC ac;obtain ⟨S,e9,s⟩:=s;obtain ⟨r,au⟩:=eqx k.length;rw [au] at s ao c2;have bT:(aP k m l).length=r+1:=by rw [eF _ _ oM,au]
 obtain ⟨cN,cM,cE⟩:=s.cells;have cP:=s.blk.frozen 10;have d2:=s.blk.lt;have dR:a1<=j.heap.size:=zAk s.base.1 (zCm d2);obtain ⟨ea,a6⟩:=s.vis ((VisK.alloc (VB.set_wave s.blk s.base.1 0) (.cells #[(m:Int)] 3)).1);have cW:g≠j.heap.size:=oM;have W:=Bk.new (j.setCell ⟨g,10,none⟩ (.int .i64 0)) 3 #[(m:Int)];rw [show (j.setCell ⟨g,10,none⟩ (.int .i64 0)).heap.size=j.heap.size by simp [World.setCell]] at W;have aT:Keep (fun a=>a=g∨16<=own a) j ((j.setCell ⟨g,10,none⟩ (.int .i64 0)).alloc (.cells #[(m:Int)] 3)):=(Keep.setCell (F:=fun a=>a=g∨16<=own a) (Keep.refl _ _) (p:=⟨g,10,none⟩) (.inl (.inl rfl)) _).alloc _;obtain ⟨A,aE⟩:=eqx ((j.setCell ⟨g,10,none⟩ (.int .i64 0)).alloc (.cells #[(m:Int)] 3));rw [aE] at a6 W aT;obtain ⟨E,bo,cF⟩:=a6.cells;have cD:∀b,(A.drewN b).cell? ⟨g,0,none⟩=some (S 0):=fun b=>E 0 oM;have O:∀b,(A.drewN b).cell? ⟨g,1,none⟩=some (S 1):=fun b=>E 1 oM;have ai:∀b,(A.drewN b).cell? ⟨g,2,none⟩=some (S 2):=fun b=>E 2 oM;have cG:∀b,(A.drewN b).cell? ⟨g,3,none⟩=some (S 3):=fun b=>E 3 oM;have cH:∀b,(A.drewN b).cell? ⟨g,4,none⟩=some (S 4):=fun b=>E 4 oM;have cI:∀b,(A.drewN b).cell? ⟨g,5,none⟩=some (S 5):=fun b=>E 5 oM;have cJ:∀b,(A.drewN b).cell? ⟨g,6,none⟩=some (S 6):=fun b=>E 6 oM;have cK:∀b,(A.drewN b).cell? ⟨g,7,none⟩=some (S 7):=fun b=>E 7 oM;have cL:∀b,(A.drewN b).cell? ⟨g,8,none⟩=some (S 8):=fun b=>E 8 oM;have bp:A.cell? ⟨g,9,none⟩=some (.int .i64 (r:Int)):=bo;have bq:A.cell? ⟨j.heap.size,0,none⟩=some (.int .i64 (m:Int)):=(W.cell 0).trans rfl;have d0:decide ((m:Int) < 0)=false:=by simp
 have e2:¬r < m:=oM;have e3:¬((m:Int) > (r:Int)):=oM;have bE:=a6.blk.lt;have aF:=W.lt;obtain ⟨b7,bd,bg,cb,du,ce,cq,b9,dw⟩:=hqq9 a6 W aT bz aC au bT aE ao;obtain ⟨dv,bL⟩:=hqq2 s.base s.bnd;clear s a6 W aT bz aC au bT aE cN E bo cF ao;go_enter func116,ntmps116;go_wp2_with fail;rw [b9.out];clear cE cP cM;refine (eY l _ ac).mono ?_;rintro o w1 ⟨rfl,U⟩;have br:w1.cell? ⟨g,9,none⟩=some (.int .i64 (r:Int)):=(U.cell (p:=⟨g,9,none⟩) bE).trans bp;have bs:w1.cell? ⟨j.heap.size,0,none⟩=some (.int .i64 (m:Int)):=(U.cell (p:=⟨j.heap.size,0,none⟩) aF).trans bq;obtain ⟨ca,w⟩:=b7.out.vis (Vis.of_below U);have aR:=bd.out.below U aF;have bU:Keep (fun a=>a=g∨16<=own a) j w1:=bg.out.trans (Keep.of_below U);have dB:∀b,(w1.drewN b).cell? ⟨g,0,none⟩=some (S 0):=fun b=>w.cells.1 0 oM;have cO:∀b,(w1.drewN b).cell? ⟨g,1,none⟩=some (S 1):=fun b=>w.cells.1 1 oM;have dD:∀b,(w1.drewN b).cell? ⟨g,2,none⟩=some (S 2):=fun b=>w.cells.1 2 oM;have dE:∀b,(w1.drewN b).cell? ⟨g,3,none⟩=some (S 3):=fun b=>w.cells.1 3 oM;have dF:∀b,(w1.drewN b).cell? ⟨g,4,none⟩=some (S 4):=fun b=>w.cells.1 4 oM;have dL:∀b,(w1.drewN b).cell? ⟨g,5,none⟩=some (S 5):=fun b=>w.cells.1 5 oM;have dM:∀b,(w1.drewN b).cell? ⟨g,6,none⟩=some (S 6):=fun b=>w.cells.1 6 oM;have dN:∀b,(w1.drewN b).cell? ⟨g,7,none⟩=some (S 7):=fun b=>w.cells.1 7 oM;have dO:∀b,(w1.drewN b).cell? ⟨g,8,none⟩=some (S 8):=fun b=>w.cells.1 8 oM;have e0:=w.blk.lt;have dV:=aR.lt;have dz:∀b,(w1.drewN b).cell? ⟨g,9,none⟩=some (.int .i64 (r:Int)):=fun b=>br;have dA:∀b,(w1.drewN b).cell? ⟨j.heap.size,0,none⟩=some (.int .i64 (m:Int)):=fun b=>bs;obtain ⟨b8,co,cr⟩:=hqq3 w aR bU;clear w aR bU U b7 bd bg cD O ai cG cH cI cJ cK cL bp bq bE aF b9;go_wp2_with fail;go_quiet (fail);clear br bs d0;go_wp2_with fail;go_loopw [35] (fun i wr=>∃(d:Nat) (v:Nat->Nat) (ay:Int),d<=9/\i=.int .i64 d/\WaveS wr a1 v g S (fun C=>if C < d then aP k m l else k) (r:Int) ay/\Bk wr j.heap.size 3 #[.int .i64 ((fN k m l d:Nat):Int)]/\(∀a,a < j.heap.size->v a=own a)/\(∀a,j.heap.size<=a->v a≠1)/\v j.heap.size=0/\Keep (fun a=>a=g∨16<=own a) j wr) (fun i _=>9 -(intOf i).toNat)
 case atStart=>refine ⟨0,own,ca,by omega,rfl,?_,?_,fun _ _=>rfl,fun a J o=>?_,?_,?_⟩;obtain ⟨b4,a7⟩:=b8.out.vis (Vis.of_below (below_drewN bR _));have:b4=ca:=(by have bm:=a7.cells.2.2;have bn:=b8.out.cells.2.2;have a4:=bn.symm.trans bm;injection a4 with a4;injection a4 with _ a4;exact a4.symm);subst this;simpa using a7;rw [cb.out];exact co.out.drewN _;have:=(bL.out a oM).2;omega;rcases zBa (own j.heap.size) with o | o;exact o;have:=(bL.out j.heap.size oM).2;omega;exact cr.out.drewN _
 case round=>
  obtain ⟨d,v,ay,e4,rfl,P,al,av,aw,aU,ap⟩:=hrel;by_cases Y:d < 9
  · have cY:=ix9 S d Y;obtain ⟨z,Z,d4,aZ⟩:=P.rows d Y;obtain ⟨ae,aq⟩:=eqx (2 ^ d);obtain ⟨c,K⟩:=eqx (bC l d);have aV:c < ae:=(by rw [<-aq,<-K];exact lY l d ac oM);have d5:c < 2 ^ d:=(by rw [aq];exact aV);have cU:=lhd Z;rw [aq] at Z aZ;obtain ⟨T,a5,bD,e5,dZ⟩:=World.ownsRow.form Z oM;rw [bD] at cY Z;obtain ⟨L,ad⟩:=eqx (fN k m l d);obtain ⟨y,a0⟩:=eqx (fN k m l (d+1));obtain ⟨a,ak⟩:=eqx (fY l d);have b1:=lI k m l d Y;have b0:=aFQ k m l d;have aJ:=aEY k m l d;have aO:=zH k m l d;have aN:(aK k d (bC l d)).length<=127:=(by rw [iW];exact zAk zBh (by rw [ce.out];exact c2));rw [K,ad,ak,a0] at b1;rw [K,ad] at b0;rw [K,ad,ak] at aJ;rw [K] at aN aO;rw [ad] at al;have c5:TreeE wr (fun a=>v a=TC d c) (z c) (aK k d c):=(by have:=aZ c aV;rw [zBw oM] at this;exact this);have e6:(c:Int) < (ae:Int):=oM;obtain ⟨cv,bj,cB,ah,ch,ck,cj,cw,cg⟩:=hqq9 Z c5 b1 b0 aJ aO aN K ak;obtain ⟨cC,ag,az,a3,aA,bi,bh⟩:=hqq7 a0 P al av aw aU ap;clear Z aZ bD aq K ad a0 ak b1 b0 aJ aO aN P al av aw aU ap c5 d4;go_wp2_with fail;refine wp_region_any kR ?_;refine cA wr.heap.size 11 [39,40,41,42,43,44,45,46,47,9,10] (fun _=>False) 8 [] (fun _=>True) (is (.bool a)) [is (.slice (some ⟨T,0,none⟩) ae a5),is (l:Int),is (d:Int),is (c:Int),is (.pointer (some ⟨T,c*3,none⟩)),is (.agg #[.pointer (some ⟨z c,0,none⟩),(d:Int),(c:Int)]),is (l:Int),is (d:Int),cX,aIR wr.heap.size 157 #[.pointer none,.int .i64 0,.int .i64 0],aIR wr.heap.size 4 #[.bool false]] _ _ rfl dC kR kR kR (trivial) (fun _ _ _ _ _=>trivial) (iI _ _) (by repeat' (first | exact iI _ _ | exact jS _ | exact aIQ _ _ _ dC dC (fun _ e=>e)|(refine zAe.2 ⟨?_,?_⟩)|(intro c K;cases K))) ?_ ?_
    · refine bJ ?_;refine pH3 8 (.slice (some ⟨T,0,none⟩) ae a5) ?_;refine pH3 2 (.int .i64 (l:Int)) ?_;refine pH3 7 (.int .i64 (d:Int)) ?_;refine sC3 (fun _ x _ _ _ _ _ u _ _ _ t=>?_) ?_
      · have dG:_=_:=u 1 40 kR rfl;have dH:_=_:=u 2 41 kR rfl;go_simp;refine (kS l d x ac oM).mono ?_;rintro o di ⟨rfl,aI⟩;rw [cw.out];exact t _ _ (aH (VisK.of_below aI)) rfl
      refine pW3 0 39 3 42 ?_;refine sC3 (fun _ x q _ _ _ _ u _ _ _ t=>?_) ?_
      · replace q:VFB wr.heap.size (fun _=>False) wr x:=fD q;have dI:_=_:=u 4 43 kR rfl;have d7:=q.1.to_vis (fun _ _ e=>e);have aX:=d7.own cv.out dC dC;obtain ⟨dc,dd,de⟩:=fF z d ae c aV;have dx:x.cell? ⟨T,c*3,none⟩=_:=(World.ownsRow.cellAt aX (c*3) oM).trans dc;have bm:x.cell? ⟨T,c*3+1,none⟩=_:=(World.ownsRow.cellAt aX (c*3+1) oM).trans dd;have bn:x.cell? ⟨T,c*3+2,none⟩=_:=(World.ownsRow.cellAt aX (c*3+2) oM).trans de;go_simp;exact t _ _ (aH vR) rfl
      refine pH3 2 (.int .i64 (l:Int)) ?_;refine pH3 7 (.int .i64 (d:Int)) ?_;refine sC3 (fun _ x _ _ _ _ _ u _ _ _ t=>?_) ?_
      · have dJ:_=_:=u 6 45 kR rfl;have dK:_=_:=u 7 46 kR rfl;go_simp;refine (mO l d x ac oM).mono ?_;rintro o di ⟨rfl,aI⟩;rw [cg.out];exact t _ _ (aH (VisK.of_below aI)) rfl
      refine sC3 (fun _ x q _ _ _ _ _ _ _ _ t=>?_) ?_
      · replace q:VFB wr.heap.size (fun _=>False) wr x:=fD q;go_simp;exact t _ _ (aH (VisK.of_below (bR.alloc nL _))) ⟨_,rfl,Bk.new _ _ _,q.1.size⟩
      refine sC3 (fun _ x q _ _ _ _ _ _ _ _ t=>?_) ?_
      · replace q:VFB wr.heap.size (fun _=>False) wr x:=fD q;go_simp;exact t _ _ (aH (VisK.of_below (bR.alloc nL _))) ⟨_,rfl,Bk.new _ _ _,q.1.size⟩
      exact aD
    · intro aj D e q u bF;replace q:VFB wr.heap.size (fun _=>False) wr D:=fD q;have bt:aj (.tmp 44)=.agg #[.pointer (some ⟨z c,0,none⟩),(d:Int),(c:Int)]:=u 5 44 dC rfl;have bu:aj (.tmp 47)=.bool a:=u 8 47 dC rfl;have da:(aIR wr.heap.size 157 #[.pointer none,.int .i64 0,.int .i64 0]) (aj (.tmp 9)) D:=u 9 9 dC rfl;have d9:(aIR wr.heap.size 4 #[.bool false]) (aj (.tmp 10)) D:=u 10 10 dC rfl;obtain ⟨dh,c7⟩:=bF 8 dC;have db:(is (.bool a)) dh D:=c7;clear c7 bF;simp only [zqq];rw [bt];rw [bu];clear u;obtain ⟨n,c9,G,am⟩:=da;obtain ⟨I,c8,V,bO⟩:=d9;rw [c9,c8];have c6:Below wr.heap.size wr D:=q.2.to_below nL (fun a J e=>by rcases e with e | e;exact e;omega);have dr:D.cell? ⟨n,0,none⟩=some (.pointer none):=(G.cell 0).trans rfl;have ds:D.cell? ⟨n,1,none⟩=some (.int .i64 0):=(G.cell 1).trans rfl;have dt:D.cell? ⟨n,2,none⟩=some (.int .i64 0):=(G.cell 2).trans rfl;have cR:=G.frozen 0;have cS:=G.frozen 1;have cT:=G.frozen 2;have b6:D.cell? ⟨I,0,none⟩=some (.bool false):=(V.cell 0).trans rfl;have cQ:=V.frozen 0;have ar:n≠I:=Bk.ne G V dC;have Y:=G.lt;have d1:=V.lt;obtain ⟨bc,ba,bl⟩:=hqq3 G V c6;clear G V c6 q db bt bu c9 c8;change wpAny prog Region.Mode.any _ _ (2+e) (bX 11 13) _ D;rw [show 2+e=e+1+1 by omega];refine bG (f:=e+1) (i:=11) kR ?_;refine bV rfl rfl ?_;generalize t:wpAny prog _ _ _ (e+1) _=K5;go_simp;subst t;refine bG (f:=e) (i:=12) kR ?_;refine bV rfl rfl ?_;generalize t:wpAny prog _ _ _ e _=K5;go_simp;subst t;refine bW kR ?_;obtain ⟨B,a9⟩:=eqx (((((D.setCell ⟨n,0,none⟩ (.pointer (some ⟨z c,0,none⟩))).setCell ⟨n,1,none⟩ (.int .i64 (d:Int))).setCell ⟨n,2,none⟩ (.int .i64 (c:Int))).setCell ⟨I,0,none⟩ (.bool a)));have bI:Bk B n 157 #[.pointer (some ⟨z c,0,none⟩),(d:Int),(c:Int)]:=(by rw [<-a9];exact (((bc.out.set 0 _).set 1 _).set 2 _).far (p:=⟨I,0,none⟩) ar _);have bH:Bk B I 4 #[.bool a]:=(by rw [<-a9];exact (((ba.out.far (p:=⟨n,0,none⟩) (fun o=>ar o.symm) _).far (p:=⟨n,1,none⟩) (fun o=>ar o.symm) _).far (p:=⟨n,2,none⟩) (fun o=>ar o.symm) _).set 0 _);have bY:Keep (fun _=>False) wr B:=(by rw [<-a9];exact Keep.setCell (F:=fun _=>False) (Keep.setCell (F:=fun _=>False) (Keep.setCell (F:=fun _=>False) (Keep.setCell (F:=fun _=>False) (Keep.of_below bl.out) (p:=⟨n,0,none⟩) (.inr am) _) (p:=⟨n,1,none⟩) (.inr am) _) (p:=⟨n,2,none⟩) (.inr am) _) (p:=⟨I,0,none⟩) (.inr bO) _);rw [a9];have bK:Below wr.heap.size wr B:=bY.to_below nL (fun _ _ e=>e);obtain ⟨a2,bb,Q⟩:=hqq3 bI bH bK;clear bI bH bY bK a9 dr ds dt cR cS cT b6 cQ bc ba bl Y d1;obtain ⟨df,bx⟩:=ag.out.vis (Vis.of_below Q.out);have bQ:=az.out.below Q.out az.out.lt;have c3:=bj.out.below Q.out;have bS:=ag.out.base.2;have bM:=ag.out.bnd;have e8:=Q.out.size;have dY:=az.out.lt;have dj:B.cell? ⟨n,0,none⟩=some (.pointer (some ⟨z c,0,none⟩)):=(a2.out.cell 0).trans rfl;have dk:B.cell? ⟨n,1,none⟩=some (.int .i64 (d:Int)):=(a2.out.cell 1).trans rfl;have dl:B.cell? ⟨n,2,none⟩=some (.int .i64 (c:Int)):=(a2.out.cell 2).trans rfl;have dT:=a2.out.lt;have d3:∀(bv:Fn) (first a5:Array Value) (j:World),(Instr.makeFunc bv first a5).run prog j=.ok (.func bv first a5) j:=fun _ _ _ _=>rfl;obtain ⟨af,be,cy,bf,cl⟩:=hqq5 bx bQ c3 bS bM;clear bx bQ c3 bS bM;go_wp2_with fail;refine (aG8 g (z c) j.heap.size I S r df d c (fun a=>v a=TC d c) (aK k d c) L a B af.out.blk cy.out (fun e=>by rw [bf.out] at e;unfold TC at e;omega) (fun y a0=>(af.out.bnd y (by rw [a0];unfold TC;omega)).2) be.out bb.out cj.out ah.out).mono ?_;rintro o M ⟨rfl,aY,X,dg,aL⟩;have aQ:=af.out.edit (lv:=d) (p:=c) (gx:=g) Y d5 (aS cU.out Q.out) (by rw [bf.out];omega) (fun dy cV=>absurd (aM cV af.out.blk).1 dC) aY (X.mono fun y _ e=>by rcases e with e | e;exact .inl e;exact .inr (.inl e)) aL (L':=aP k m l) ch.out (fun b d6=>by rw [zBw (zCl _)];exact ck.out b (fun o=>d6 o.symm));have bN:(fun C=>if C=d then aP k m l else if C < d then aP k m l else k)=fun C=>if C < d+1 then aP k m l else k:=by
       funext C;by_cases O:C=d
       · rw [zBx O,zBx oM]
       · by_cases ai:C < d
         · rw [zBw O,zBx ai,zBx oM]
         · rw [zBw O,zBw ai,zBw oM]
      rw [bN] at aQ;have b2:∀y,wr.heap.size<=y->¬(v y=TC d c∨y=g):=fun y a0 e=>by rcases e with e | e;have:=(cl.out y (by rw [e];unfold TC;omega)).2;omega;have:=ag.out.blk.lt;omega
      have an:=X.bk be.out (fun e=>by
       rcases e with e | e;rw [bi.out] at e;unfold TC at e;omega
       · exact cW e.symm)
      have aa:=X.bk a2.out (b2 n am);have aG:=X.bk bb.out (b2 I bO);have b6:M.cell? ⟨n,0,none⟩=some (.pointer (some ⟨z c,0,none⟩)):=(aa.cell 0).trans rfl;have dm:M.cell? ⟨n,1,none⟩=some (.int .i64 (d:Int)):=(aa.cell 1).trans rfl;have dn:M.cell? ⟨n,2,none⟩=some (.int .i64 (c:Int)):=(aa.cell 2).trans rfl;have dq:M.cell? ⟨j.heap.size,0,none⟩=some (.int .i64 (L:Int)):=(an.cell 0).trans rfl;have dp:M.cell? ⟨I,0,none⟩=some (.bool a):=(aG.cell 0).trans rfl;have dU:=aa.lt;have dS:=aG.lt;have dW:=an.lt;have c4:=aY.at
      have bA:v (z c)=TC d c:=bj.out.1;obtain ⟨cm,cs,cp,cz,ci,cd⟩:=hqq6 aQ X an c4 aL bA;have d8:L<=(aP (aK k d c) L a).length:=(by rw [eF _ _ ah.out];have:=ah.out;omega);clear aY X aL aQ bN b2 an aa aG c4 dj dk dl d3 bA;go_wp2_with fail;refine (mN g (z c) S r dg d c (aP (aK k d c) L a) L a M ci.out cz.out d8).mono ?_;rintro o aB ⟨rfl,ax⟩;rw [aFV _ _ _ ah.out,cB.out];obtain ⟨b4,a7⟩:=cm.out.vis ax.1;have ab:=ax.1.bk cp.out dC dC;have ec:aB.cell? ⟨j.heap.size,0,none⟩=some (.int .i64 (L:Int)):=(ab.cell 0).trans rfl;have dQ:=ab.frozen 0;have dX:=ab.lt;have bP:=ab.set 0 (.int .i64 (y:Int));have aW:cZ v B.heap.size M.heap.size (TC d c) j.heap.size=0:=(by unfold cZ;rw [zBx oM];exact bi.out);have bw:=a7.far (w':=aB.setCell ⟨j.heap.size,0,none⟩ (.int .i64 (y:Int))) (H:=fun a=>a=j.heap.size) (Keep.setCell (F:=fun a=>a=j.heap.size) (Keep.refl _ _) (p:=⟨j.heap.size,0,none⟩) (.inl rfl) _) (fun a o=>by rw [show a=j.heap.size from o,aW];omega);have e7:=bh.out.size;have bZ:Keep (fun a=>a=g∨16<=own a) j (aB.setCell ⟨j.heap.size,0,none⟩ (.int .i64 (y:Int))):=Keep.setCell (F:=fun a=>a=g∨16<=own a) (((bh.out.trans (Keep.of_below Q.out)).trans' cs.out (fun a J e=>by
       rcases e with e | e;right;rw [<-a3.out a J,e];unfold TC;omega
       · exact .inl e)).trans' ax.2 (fun a J e=>by
       rcases e with e | e;exact .inl e
       · right;rw [<-a3.out a J,e,cd.out];unfold TC;omega)) (p:=⟨j.heap.size,0,none⟩) (.inr nL) _
      obtain ⟨cc,cn,ct,cx⟩:=hqq4 bw bP bZ aW;clear ax a7 ab bP bw bZ aW b6 dm dn dq dp;go_wp2_with fail;go_roundw
      case rel=>
       refine ⟨d+1,cZ v B.heap.size M.heap.size (TC d c),b4,by omega,by go_num,cc.out,?_,fun a J=>?_,fun a J=>?_,cx.out,ct.out⟩;rw [cC.out];exact cn.out;unfold cZ;rw [zBx oM];exact a3.out a J
       · unfold cZ;by_cases O:a < B.heap.size;rw [zBx O];exact aA.out a J
         · rw [zBw O];unfold TC;split <;> omega
      case measure=>simp [intOf];omega
  · obtain rfl:d=9:=oM;have a8:WaveS wr a1 v g S (fun _=>aP k m l) (r:Int) ay:=⟨P.blk,P.base,fun C c1=>by have:=P.rows C c1;simpa [c1] using this,P.bnd⟩;obtain ⟨_,eb,_⟩:=a8.cells;have dP:=a8.blk.frozen 9;have e1:=a8.blk.lt;have bB:=a8.set_n ((r:Int)+1);have cO:wrap64 ((r:Int)+1)=(r:Int)+1:=(by unfold wrap64;omega);have c0:Keep (fun a=>a=g∨16<=own a) j (wr.setCell ⟨g,9,none⟩ (.int .i64 ((r:Int)+1))):=Keep.setCell (F:=fun a=>a=g∨16<=own a) ap (p:=⟨g,9,none⟩) (.inl (.inl rfl)) _;obtain ⟨cf,cu,a3,aA⟩:=hqq4 bB c0 av aw;clear P a8 bB ap c0 al av aw aU;go_wp2_with fail;go_ret;refine ⟨rfl,v,⟨S,ay,?_⟩,a3.out,aA.out,cu.out⟩;rw [cq.out];exact cf.out
end
section
def inR (a b:Nat):Nat:=if b<=a then a+1 else a
def aW (a b:Nat):Nat:=if b < a then a - 1 else a
abbrev ro (R:List Nat) (a:Nat):Nat:=R.idxOf a
theorem cC {R:List Nat} {a:Nat} (b:a∈R):R[ro R a]?=some a:=zAc.2 ⟨List.idxOf_lt_length_iff.2 b,List.getElem_idxOf _⟩
theorem fP {R:List Nat} (e:R.Nodup) {a b:Nat} (d:R[a]?=some b):ro R b=a:=by
 obtain ⟨f,c⟩:=zAc.1 d;subst c;exact e.idxOf_getElem a f
theorem eS {R:List Nat} {b c:Nat} (e:b∈R) (f:c∈R) (d:ro R b=ro R c):b=c:=by
 have a:=cC e;rw [d,cC f] at a;injection a with a;exact a.symm
theorem uZ {R:List Nat} (n:R.Nodup) {a t d:Nat} (g:R[a]?=some d) (u:t < R.length):
 (aP (aG R a) t d).Perm R/\ro (aP (aG R a) t d) d=t/\∀c∈R,c≠d->ro (aP (aG R a) t d) c=inR (aW (ro R c) a) t:=by
 have f:=(zAc.1 g).1;have q:=cW R f;have l:(aP (aG R a) t d).Perm R:=(eX _ _ _).trans (eJ g);have k:(aP (aG R a) t d).Nodup:=l.nodup_iff.2 n;refine ⟨l,?_,fun c o p=>?_⟩
 · refine fP k ?_;rw [iT _ _ oM,zBw oM,zBx rfl]
 · have b:=cC o;have s:ro R c≠a:=fun m=>by rw [m,g] at b;injection b with b;exact p b.symm
   refine fP k ?_;have r:=(zAc.1 b).1;rw [iT _ _ oM];unfold inR aW;by_cases j:a < ro R c;rw [zBx j];by_cases e:t<=ro R c - 1;rw [zBx e,zBw oM,zBw oM,dW _ f,zBw oM];rw [<-b];congr 1;omega;rw [zBw e,zBx oM,dW _ f,zBw oM,<-b];congr 1;omega
   · rw [zBw j];by_cases e:t<=ro R c
     · rw [zBx e,zBw oM,zBw oM,dW _ f,zBx oM,<-b];congr 1
     · rw [zBw e,zBx oM,dW _ f,zBx oM,<-b]
def tI (S R:List Nat) (a b:Nat):Prop:=S.getD a 0 < S.getD b 0∨(S.getD a 0=S.getD b 0/\ro R (a+1) < ro R (b+1))
structure Near (S R:List Nat) (N i:Nat):Prop where
 endk:EndOk S N
 perm:R.Perm (List.range (N+1))
 first:∀p q,p<=N->q<=N->ro R p < ro R q->S.getD p 0<=S.getD q 0
 cons:∀p q,p<=N->q<=N->p≠q->p+1≠i->q+1≠i->(ro R p < ro R q↔tI S R p q)
section
variable {S R : List Nat} {N i : Nat}
theorem Near.nodup (a:Near S R N i):R.Nodup:=a.perm.nodup_iff.2 List.nodup_range
theorem Near.mem (b:Near S R N i) {a:Nat}:a∈R↔a<=N:=by
 rw [b.perm.mem_iff,zCj];omega
theorem Near.len (a:Near S R N i):R.length=N+1:=by simpa using a.perm.length_eq
theorem aCP {S:List Nat} {a b:Nat} (k:a < S.length) (l:b < S.length) (j:S.getD a 0=S.getD b 0) (e:sufLt S (a+1) (b+1)):sufLt S a b:=by
 obtain ⟨m,d,n,f,g⟩:=e;refine ⟨m+1,d+1,by omega,fun c o=>?_,?_⟩
 · cases c with
   | zero=>
     rw [zBq,zBq,eU k,eU l,j]
   | succ c=>
     have:=f c oM;rw [show a+(c+1)=a+1+c by omega,show b+(c+1)=b+1+c by omega];exact this
 rw [show a+(d+1)=a+1+d by omega,show b+(d+1)=b+1+d by omega];exact g
theorem aFD {S:List Nat} {a b:Nat} (c:a < S.length) (d:b < S.length) (e:S.getD a 0 < S.getD b 0):sufLt S a b:=by
 refine ⟨1,0,by omega,fun g f=>by omega,?_⟩;rw [zBq,zBq,eU c,eU d];omega
theorem Near.sorted (c:Near S R N 0):IsSuf S R:=by
 obtain ⟨r,C,k⟩:=c.endk;have B:∀e a b,N < a+e->a<=N->b<=N->a≠b->ro R a < ro R b->sufLt S a b:=by
  intro e
  induction e with
  | zero=>intro a b u o;omega
  | succ e A=>
    intro a b u o z y v;rcases (c.cons a b o z y oM oM).1 v with j |⟨j,s⟩;exact aFD oM oM j
    · have D:a≠N:=fun d=>by subst d;have:=k b oM;omega
      have E:b≠N:=fun d=>by subst d;have:=k a oM;omega
      exact aCP oM oM j (A (a+1) (b+1) oM oM oM oM s)
 refine ⟨by rw [r];exact c.perm,?_⟩;rw [zAr];intro f g l m t;have n:=c.nodup;have w:R[f]<=N:=c.mem.1 (zBj l);have x:R[g]<=N:=c.mem.1 (zBj m);have p:ro R R[f]=f:=fP n (zAa l);have q:ro R R[g]=g:=fP n (zAa m);exact B (N+1) _ _ oM w x (fun d=>by rw [d,q] at p;omega) (by rw [p,q];exact t)
theorem IsSuf.near (p:IsSuf S R) (y:EndOk S N):Near S R N 0:=by
 obtain ⟨t,w,m⟩:=y;have B:R.Perm (List.range (N+1)):=by rw [<-t];exact p.perm
 have G:=p.nodup;have n:∀a,a<=N->a∈R:=fun a c=>p.mem oM;have q:∀a b,a<=N->b<=N->ro R a < ro R b->sufLt S a b:=fun a b c e j=>by have C:=(zAc.1 (cC (n a c)));have E:=(zAc.1 (cC (n b e)));obtain ⟨d,f⟩:=C;obtain ⟨l,x⟩:=E;have:=zAr.1 p.sorted _ _ d l j;rwa [f,x] at this
 have s:∀a b,a<=N->b<=N->sufLt S a b->ro R a < ro R b:=fun a b c e j=>by rcases Nat.lt_trichotomy (ro R a) (ro R b) with d | d | d;exact d;have:=eS (n a c) (n b e) d;subst this;exact (j.asymm j).elim;exact (j.asymm (q b a e c d)).elim
 have u:∀a b,a<=N->b<=N->sufLt S a b->S.getD a 0<=S.getD b 0:=fun a b c e ⟨F,g,d,f,l⟩=>by
  cases g with
  | zero=>
    rw [zBq,zBq,eU oM,eU oM] at l;omega
  | succ g=>
    have:=f 0 oM;rw [zBq,zBq,eU oM,eU oM] at this;omega
 have v:∀a b,a<=N->b<=N->a≠b->S.getD a 0=S.getD b 0->(sufLt S a b↔sufLt S (a+1) (b+1)):=fun a b c e r z=>by
  constructor
  · rintro ⟨F,g,d,f,l⟩;cases g with
    | zero=>
      rw [zBq,zBq,eU oM,eU oM] at l;omega
    | succ g=>
      refine ⟨g+1,g,by omega,fun o n=>?_,?_⟩;have:=f (o+1) oM;rw [show a+1+o=a+(o+1) by omega,show b+1+o=b+(o+1) by omega];exact this;rw [show a+1+g=a+(g+1) by omega,show b+1+g=b+(g+1) by omega];exact l
  exact aCP oM oM z
 refine ⟨⟨t,w,m⟩,B,fun a b c e j=>u a b c e (q a b c e j),fun a b c e r _ _=>?_⟩;unfold tI;constructor
 · intro j;have d:=q a b c e j;rcases Nat.lt_or_eq_of_le (u a b c e d) with f | f;exact .inl f
   · refine .inr ⟨f,?_⟩;have A:a≠N:=fun k=>by subst k;have:=m b oM;omega
     have D:b≠N:=fun k=>by subst k;have:=m a oM;omega
     exact s _ _ oM oM ((v a b c e r f).1 d)
 · rintro (d |⟨d,f⟩);exact s a b c e (aFD oM oM d)
   · have A:a≠N:=fun k=>by subst k;have:=m b oM;omega
     have D:b≠N:=fun k=>by subst k;have:=m a oM;omega
     exact s a b c e ((v a b c e r d).2 (q _ _ oM oM f))
def aBk (S R:List Nat) (N b c:Nat):Nat:=(List.range (N+1)).countP fun a=>decide (S.getD a 0 < b∨(S.getD a 0=b/\ro R (a+1) < c))
theorem aAo {R:List Nat} (j:R.Nodup) (b:Nat) (c:Nat->Bool):(R.take b).countP c=R.countP fun a=>c a&&decide (ro R a < b):=by
 have k:R.countP (fun a=>c a&&decide (ro R a < b))=(R.take b).countP (fun a=>c a&&decide (ro R a < b))+(R.drop b).countP (fun a=>c a&&decide (ro R a < b)):=by rw [<-List.countP_append,zAu]
 have l:(R.drop b).countP (fun a=>c a&&decide (ro R a < b))=0:=by rw [List.countP_eq_zero];intro a e;obtain ⟨f,g,d⟩:=zBo.1 e;rw [List.getElem_drop] at d;have:ro R a=b+f:=fP j (by rw [<-d];exact zAa _);simp;omega
 have m:(R.take b).countP (fun a=>c a&&decide (ro R a < b))=(R.take b).countP c:=by refine List.countP_congr fun a e=>?_;obtain ⟨f,g,d⟩:=zBo.1 e;rw [zAj] at g;rw [List.getElem_take] at d;have:ro R a=f:=fP j (by rw [<-d];exact zAa _);have n:ro R a < b:=oM;simp [n]
 rw [k,l,m];rfl
theorem aBu {b:List Nat} {c d:Nat->Bool} (e:∀a∈b,¬(c a=true/\d a=true)):b.countP c+b.countP d=b.countP fun a=>c a||d a:=by
 induction b with
 | nil=>rfl
 | cons a b g=>
   have m:=e a (by simp);rw [zBn,zBn,zBn,<-g fun j f=>e j (by simp [f])];cases k:c a <;> cases l:d a <;> simp_all <;> omega
theorem rM (n:EndOk S N) (c:R.Perm (List.range (N+1))) {a:Nat} (r:0 < a) (d:Nat):cH (aE S R) a d=aBk S R N a d:=by
 obtain ⟨e,f,q⟩:=n;have o:R.Nodup:=c.nodup_iff.2 List.nodup_range;unfold cH aBk;have g:(aE S R).countP (fun p=>decide (p < a))=(List.range (N+1)).countP fun b=>decide (S.getD b 0 < a):=by
  unfold aE;rw [List.countP_map,c.countP_eq];refine fX _ _ ?_ fun b c=>?_;simp only [Function.comp];rw [bT oM,e];rfl
  · simp only [Function.comp];rw [aY oM]
 have j:((aE S R).take d).count a=(List.range (N+1)).countP fun b=>decide (S.getD b 0=a)&&decide (ro R (b+1) < d):=by
  unfold aE;rw [<-List.map_take,List.count_eq_countP,List.countP_map,aAo o,c.countP_eq];refine fX _ _ ?_ fun b c=>?_
  · simp only [Function.comp];rw [bT oM,e];have:(N+1 - 1)=N:=oM;rw [this,f];have m:¬(0:Nat)=a:=oM;simp [m]
  simp only [Function.comp];rw [aY oM];rfl
 rw [g,j,aBu]
 · refine List.countP_congr fun b _=>?_;simp
 intro b _ ⟨k,l⟩;simp at k l;omega
theorem aBc {K:Nat->Bool}:∀ {d:List Nat},d.Pairwise (fun a o=>K o=true->K a=true)->∀(c a:Nat),d[c]?=some a->(K a=true↔c < d.countP K)
 | [],_,c,a,b=>by simp at b
 | g::d,hO,c,a,b=>by
   obtain ⟨k,l⟩:=List.pairwise_cons.1 hO;cases e:K g with
   | true=>
     rw [List.countP_cons_of_pos e];cases c with
     | zero=>
       injection b with b;subst b;simp [e]
     | succ c=>
       rw [aBc l c a b];omega
   | false=>
     have j:(g::d).countP K=0:=by
        rw [List.countP_eq_zero];intro p f;rcases List.mem_cons.1 f with rfl | f
        · simp [e]
        · intro m;have:=k p f m;rw [e] at this;cases this
     rw [j];have n:a∈g::d:=zAd b;have:=(List.countP_eq_zero.1 j) a n;simp [this]
def KB (S R:List Nat) (i a:Nat):Bool:=decide (S.getD a 0 < S.getD i 0∨(S.getD a 0=S.getD i 0/\ro R (a+1) < ro R (i+1)))
theorem aJN (a:Near S R N (i+1)) (u:i<=N):∀b,b<=N->b≠i->(KB S R i b=true↔aW (ro R b) (ro R i) < aBk S R N (S.getD i 0) (ro R (i+1))):=by
 intro b z I;have m:=a.nodup;have s:=cC (a.mem.2 u);have t:=cC (a.mem.2 z);have v:=(zAc.1 s).1;have e:=eJ s;have U:(aG R (ro R i)).Nodup:=(List.nodup_cons.1 (e.nodup_iff.2 m)).2;have V:ro R b≠ro R i:=fun c=>I (eS (a.mem.2 z) (a.mem.2 u) c);have D:(aG R (ro R i))[aW (ro R b) (ro R i)]?=some b:=by
  unfold aW;rw [dW _ v];by_cases r:ro R i < ro R b;rw [zBx r,zBw oM,<-t];congr 1;omega
  · rw [zBw r,zBx oM,<-t]
 have F:aBk S R N (S.getD i 0) (ro R (i+1))=(aG R (ro R i)).countP (KB S R i):=by
  unfold aBk;rw [<-a.perm.countP_eq,<-e.countP_eq,zBn];have B:decide (S.getD i 0 < S.getD i 0∨(S.getD i 0=S.getD i 0/\ro R (i+1) < ro R (i+1)))=false:=by rw [decide_eq_false_iff_not];omega
  rw [B];rfl
 rw [F];refine aBc ?_ _ _ D;rw [zAr];intro n o C E T p;have j:(aG R (ro R i))[n]?=some (aG R (ro R i))[n]:=zAa C;have k:(aG R (ro R i))[o]?=some (aG R (ro R i))[o]:=zAa E;obtain ⟨f,J⟩:=eqx ((aG R (ro R i))[n]);obtain ⟨g,O⟩:=eqx ((aG R (ro R i))[o]);rw [J] at j⊢;rw [O] at k p;have y:=(List.nodup_cons.1 (e.nodup_iff.2 m)).1;have w:=zAd j;have x:=zAd k;have W:f≠i:=fun c=>y (by rw [c] at w;exact w);have X:g≠i:=fun c=>y (by rw [c] at x;exact x);have L:f∈R:=e.subset (by simp [zAd j]);have Q:g∈R:=e.subset (by simp [zAd k]);have K:=a.mem.1 L;have P:=a.mem.1 Q;have A:∀ {d q:Nat},(aG R (ro R i))[d]?=some q->ro R q=if d < ro R i then d else d+1:=fun {d q} l=>by rw [dW _ v] at l;split at l;rw [zBx (by assumption)];exact fP m l;rw [zBw (by assumption)];exact fP m l
 have H:ro R f < ro R g:=by rw [A j,A k];split <;> split <;> omega
 have M:f≠g:=fun c=>by subst c;omega
 have G:=(a.cons f g K P M oM oM).1 H;unfold KB at p⊢;rw [zCa] at p⊢;unfold tI at G;omega
def tgt (S R:List Nat) (i:Nat):Nat:=cH (aE S R) (S.getD i 0) (ro R (i+1))
theorem aHo (a:Near S R N (i+1)) (b:i < N):tgt S R i=aBk S R N (S.getD i 0) (ro R (i+1)):=rM a.endk a.perm (a.endk.pos i b) _
theorem aHn (c:Near S R N (i+1)) (e:i < N):tgt S R i < N+1:=by
 rw [aHo c e];unfold aBk;have d:(List.range (N+1)).countP (fun a=>decide (S.getD a 0 < S.getD i 0∨(S.getD a 0=S.getD i 0/\ro R (a+1) < ro R (i+1))))≠(List.range (N+1)).length:=fun b=>by have:=(List.countP_eq_length.1 b) i (by simp;omega);rw [zCa] at this;omega
 have f:=zBh (p:=fun a=>decide (S.getD a 0 < S.getD i 0∨(S.getD a 0=S.getD i 0/\ro R (a+1) < ro R (i+1)))) (l:=List.range (N+1));rw [zCi] at d f;omega
theorem aFz (k:Near S R N (i+1)) (I:i < N) {g:List Nat} {n:Nat} (J:n=tgt S R i) (z:g.Perm R) (F:ro g i=n) (m:∀a∈R,a≠i->ro g a=inR (aW (ro R a) (ro R i)) n) (B:Nat) (U:B=i∨(ro R i=n/\B=0)):Near S g N B:=by
 have x:=aJN k oM;rw [<-aHo k I,<-J] at x;have l:∀a,a<=N->a∈R:=fun a d=>k.mem.2 d;have t:∀a,a<=N->a≠i->ro R a≠ro R i:=fun a d e j=>e (eS (l a d) (l i oM) j);have u:∀a b,a<=N->b<=N->a≠i->b≠i->(ro g a < ro g b↔ro R a < ro R b):=fun a b d f e c=>by rw [m a (l a d) e,m b (l b f) c];have Q:=t a d e;have T:=t b f c;unfold inR aW;split <;> split <;> split <;> split <;> omega
 have E:∀a,a<=N->a≠i->(ro g a < ro g i↔KB S R i a=true):=fun a d e=>by rw [x a d e,F,m a (l a d) e];unfold inR;split <;> omega
 have D:∀a,a<=N->a≠i->(ro g i < ro g a↔¬KB S R i a=true):=fun a d e=>by rw [x a d e,F,m a (l a d) e];unfold inR;split <;> omega
 have G:∀a,a < N->a≠i->(a+1≠i∨ro R i=n)->(ro R (a+1) < ro R (i+1)↔ro g (a+1) < ro g (i+1)):=fun a d e q=>by
  rcases q with q | q;exact (u (a+1) (i+1) oM oM q oM).symm
  · have r:∀b,b<=N->ro g b=ro R b:=fun b f=>by
        by_cases c:b=i;subst c;omega
        · rw [m b (l b f) c,q];have:=t b f c;unfold inR aW;split <;> split <;> omega
    rw [r _ oM,r _ oM]
 obtain ⟨O,P,C⟩:=k.endk;refine ⟨k.endk,z.trans k.perm,fun a b d f y=>?_,fun a b d f A X Y=>?_⟩;by_cases e:a=i;subst e;by_cases c:b=a;subst c;omega;have:=(D b f c).1 y;unfold KB at this;rw [zCa] at this;omega;by_cases c:b=i;subst c;have:=(E a d e).1 y;unfold KB at this;rw [zCa] at this;omega;exact k.first a b d f ((u a b d f e c).1 y)
 · have w:∀o p,o<=N->p<=N->o≠p->S.getD o 0=S.getD p 0->o < N/\p < N:=fun o p K L Z a0=>by refine ⟨Nat.lt_of_le_of_ne K fun j=>?_,Nat.lt_of_le_of_ne L fun j=>?_⟩;subst j;have:=C p oM;omega;subst j;have:=C o oM;omega
   by_cases e:a=i;subst e;have c:b≠a:=fun j=>A j.symm;rw [D b f c];unfold KB tI;rw [zCa];by_cases s:S.getD b 0=S.getD a 0;obtain ⟨v,H⟩:=w b a f d c s;have:=G b v c oM;have V:ro R (b+1)≠ro R (a+1):=fun j=>c (by have:=eS (l (b+1) oM) (l (a+1) oM) j;omega);have W:ro g (b+1)≠ro g (a+1):=fun j=>c (by have:=eS ((z.trans k.perm).mem_iff.2 (by simp;omega)) ((z.trans k.perm).mem_iff.2 (by simp;omega)) j;omega);omega;omega
   · by_cases c:b=i;subst c;rw [E a d e];unfold KB tI;rw [zCa];by_cases s:S.getD a 0=S.getD b 0;obtain ⟨v,H⟩:=w a b d f e s;have:=G a v e oM;omega;omega
     · rw [u a b d f e c,k.cons a b d f A oM oM];unfold tI;by_cases s:S.getD a 0=S.getD b 0
       · obtain ⟨v,H⟩:=w a b d f A s;by_cases M:ro R i=n
         · have r:∀b,b<=N->ro g b=ro R b:=fun b f=>by
            by_cases c:b=i;subst c;omega
            · rw [m b (l b f) c,M];have:=t b f c;unfold inR aW;split <;> split <;> omega
           rw [r _ oM,r _ oM]
         · rw [u (a+1) (b+1) oM oM oM oM]
       omega
end
end
end Go.Proofs.YthldmddkfbijhaaGreatDoor
