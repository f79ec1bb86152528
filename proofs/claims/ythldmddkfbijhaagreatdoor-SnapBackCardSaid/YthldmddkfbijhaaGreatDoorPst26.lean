/- Lemmas of the walk. Conditions: each its own. -/
import Derived.Test.YthldmddkfbijhaaGreatDoorPst23
import Derived.Test.YthldmddkfbijhaaGreatDoorPst24
import Derived.Test.YthldmddkfbijhaaGreatDoorProg
import Derived.Test.YthldmddkfbijhaaGreatDoorShl
import Derived.Test.YthldmddkfbijhaaGreatDoorShi
import Derived.Test.YthldmddkfbijhaaGreatDoorSht
import Derived.Test.YthldmddkfbijhaaGreatDoorShs
set_option linter.all false
set_option maxRecDepth 100000
set_option maxHeartbeats 4000000
open Go.Proofs.Tryz
namespace Go.Proofs.YthldmddkfbijhaaGreatDoor
section
open Go.RowKit Go.Shelf
theorem WaveS.low {w:World} {B B':Nat} {own:Nat->Nat} {f:Nat} {d:Nat->Value} {c:Nat->List Nat} {i j:Int} (a:WaveS w B own f d c i j) (b:B'<=B):WaveS w B' own f d c i j:=by
 refine ⟨a.blk,⟨zAk b a.base.1,a.base.2⟩,fun p o=>?_,fun e g=>⟨zAk b (a.bnd e g).1,(a.bnd e g).2⟩⟩;obtain ⟨k,l,m,n⟩:=a.rows p o;exact ⟨k,bZ l b,m,n⟩
theorem WalkE.low {w:World} {B B':Nat} {own:Nat->Nat} {gk:Nat} {a T:List Nat} (e:WalkE w B own gk a T) (l:B'<=B):WalkE w B' own gk a T:=by
 obtain ⟨d,c,f,g,⟨b,m,i⟩,j,k⟩:=e;exact ⟨d,c,f,g,⟨b,m,i.low l⟩,j,k⟩
def aH8 (own:Nat->Nat) (b gk a:Nat):Nat:=if a=b then 2 else if a=gk then 2 else own a
theorem aDc (e:Option Addr) (d k B:Nat) (a:List Nat) (w:World) (C:Rd w B 1 e d (a.map sv)) (v:B<=w.heap.size) (I:d<=128) (x:∀L∈a,L < 257):
 Calls prog 141 #[.slice e d k] w fun l w'=>∃gk own,l=.returned (.pointer (some ⟨gk,0,none⟩))/\w.heap.size<=gk/\WalkE w' w.heap.size own gk a a/\Below w.heap.size w w':=by
 obtain ⟨o,n⟩:=hqq2 C x;clear C x;go_enter func141,ntmps141;go_wp2_with fail;refine (aBB e d k B a _ o.out v I n.out).mono ?_;rintro l w1 ⟨u,own,rfl,E,y⟩;obtain ⟨q,b⟩:=hqq2 E y;clear E y;go_wp2_with fail;refine (sE e d k B a w1 (o.out.below (b.out.mono v)) (by have:=b.out.size;omega) oM n.out).mono ?_;rintro l m ⟨f,rfl,P,D,g⟩;have F:=q.out.vis (Vis.of_below g);have z:=b.out.trans (g.mono b.out.size);obtain ⟨H,p,j,G⟩:=hqq4 F D z g.size;clear F D z g;go_wp2_with fail;go_ret;have K:=H.out.vis (w':=m.alloc (.cells #[u,f] 100)) ((Vis.refl _).alloc _);have A:=q.out.bnd;have R:=p.out.lt;have O:=b.out.size;have Q:=G.out;have J:=K.paint (own':=aH8 own f m.heap.size) (fun c N M=>by
  have:=(A c oM).2;unfold aH8;rw [zBw oM,zBw oM]) (fun c i=>by
  unfold aH8 at i;by_cases r:c=f;subst r;exact ⟨by omega,by simp;omega⟩
  · rw [zBw r] at i;by_cases s:c=m.heap.size;subst s;exact ⟨by omega,by simp⟩
    · rw [zBw s] at i;have:=A c i;exact ⟨this.1,by simp;omega⟩)
 refine ⟨_,_,rfl,j.out.size,⟨u,f,Bk.new _ _ _,?_,J,p.out.alloc _,?_⟩,j.out.alloc j.out.size _⟩
 · unfold aH8;rw [zBw oM,zBx rfl]
 · unfold aH8;rw [zBx rfl]
theorem aBC (c:Option Addr) (a f B:Nat) (t:List UInt8) (w:World) (j:Rd w B 1 c a (t.map bv)) (s:B<=w.heap.size) (z:a<=127):
 Calls prog 87 #[.slice c a f] w fun e w'=>∃gk b,IsSuf (aF t) b/\e=.returned (.pointer (some ⟨gk,0,none⟩))/\w.heap.size<=gk/\(∃own,WalkE w' w.heap.size own gk (aE (aF t) b) (aE (aF t) b))/\Below w.heap.size w w':=by
 have o:=lhd j;clear j;go_enter func87,ntmps87;go_wp2_with fail;refine (nX c a f B t _ o.out s oM).mono ?_;rintro e w1 ⟨b,m,r,k,rfl,i,g⟩;obtain ⟨p,n,d⟩:=hqq3 k i.rd g;clear k i g;go_wp2_with fail;refine (aDc m (a+1) r _ _ w1 n.out nL oM (dG (eC t))).mono ?_;rintro e A ⟨gk,own,rfl,y,l,u⟩;have v:=d.out.trans (u.mono d.out.size);have x:=d.out.size;have q:=lhd l;clear l;go_wp2_with fail;go_ret;exact ⟨gk,b,p.out,rfl,by omega,⟨own,q.out.low x⟩,v⟩
theorem LiveE.far0 {w w':World} {B:Nat} {own:Nat->Nat} {gl:Nat} {t:List UInt8} {rate:Nat} {f:Nat->Prop} (j:LiveE w B own gl t rate) (e:Keep f w w') (d:∀a,f a->own a=0):LiveE w' B own gl t rate:=by
 obtain ⟨gk,i,o,T,q,p,⟨k,b,l,m⟩,n⟩:=j;refine ⟨gk,i,o,T,q,p,⟨k,⟨e.bk b.blk fun c=>?_,b.col,b.walk.far e fun a c=>?_,b.perm.keep e fun a c g=>?_⟩,l,m⟩,n⟩;have:=d _ c;have:=b.col;omega;have:=d a c;omega;have:=d a g;omega
theorem LiveE.low {w:World} {B B':Nat} {own:Nat->Nat} {gl:Nat} {t:List UInt8} {rate:Nat} (c:LiveE w B own gl t rate) (i:B'<=B):LiveE w B' own gl t rate:=by
 obtain ⟨gk,b,j,T,l,k,⟨d,a,e,f⟩,g⟩:=c;exact ⟨gk,b,j,T,l,k,⟨d,⟨a.blk,a.col,a.walk.low i,a.perm⟩,e,f⟩,g⟩
theorem LiveE.tp {w:World} {B:Nat} {own:Nat->Nat} {gl:Nat} {t:List UInt8} {rate:Nat} (b:LiveE w B own gl t rate) (j:t.length<=127):TpAt w B gl t rate:=by
 obtain ⟨gk,a,n,T,l,k,⟨c,d,e,f⟩,i,m⟩:=b;exact ⟨l,gk,a,k,c,d.g e,f,i,j⟩
open Classical in
noncomputable def ownL (own:Nat->Nat) (c b:Nat) (d e f:Value) (gl a:Nat):Nat:=if PF c b d e f a then 1 else if a=gl then 3 else own a
theorem PermAt.low {w:World} {B g f:Nat} {l m n k:Value} {d c:Nat} {i:List Nat} {b:List (Nat×Nat)} {j:List Bool} {e:List Nat} (a:PermAt w B g f l m n k d c i b j e):PermAt w 0 g f l m n k d c i b j e:=
 ⟨a.blk,bZ a.lrow (zAp _),bZ a.orow (zAp _),a.ar,bZ a.trow (zAp _),bZ a.frow (zAp _),a.apart,a.lt,⟨zAp _,zAp _⟩⟩
theorem aEj (a:List (Nat×Nat)):(List.range a.length).map (fun b=>(aB a b,aI a b))=a:=(tU a).symm
theorem aHI {d:List Nat} {rate c b:Nat} (e:∃a,d[a]?=some b/\a < c) (i:b % rate=0):Smp (cT d rate c) b:=by
 obtain ⟨a,f,g⟩:=e;exact ⟨(a,b),(aHK _ _ _ _ _).2 ⟨g,by rw [zAb,f];rfl,i⟩,rfl⟩
theorem aHJ {t:List UInt8} {c:List Nat} {rate:Nat} (b:IsSuf (aF t) c) (q:1<=rate):pS (Smp (cT c rate (t.length+1))) rate t.length:=fun l ⟨m,j,d⟩ o=>by
 obtain ⟨n,a⟩:=m;have g:=(aHK _ _ _ _ _).1 j;have e:a=l:=d;subst e;refine ⟨a+rate,aHI ?_ (by rw [Nat.add_mod_right];exact g.2.2),by omega,zAs _⟩;obtain ⟨k,i,f⟩:=b.row (p:=a+rate) (by rw [aL];omega);refine ⟨k,by rw [zAa i,f],?_⟩;have:=b.len;rw [aL] at this;omega
theorem aGx {w wr:World} {v w2s u:Nat} {own:Nat->Nat} {gl gk e f rate k:Nat} {g i j:Value} {t:List UInt8} {c:List Nat} {o:List Bool} (L:t.length=k) (q:IsSuf (aF t) c) (P:1<=rate) (V:k<=127) (J:WalkE wr v own gk (aE (aF t) c) (aE (aF t) c)) (M:∀a,own a≠0->a < w2s) (U:gl=w2s) (R:w2s < u) (F:Bk wr gl 92 #[gk,e,(rate:Int),.int .i64 0])
 (l:PermAt wr u e f g i j (.slice none 0 0) (k+1) (k+1) (List.range (cT c rate (k+1)).length) (cT c rate (k+1)) o []) (I:o.length=(cT c rate (k+1)).length) (Q:∀a∈o,a=true) (S:v<=w2s):∃own',LiveE wr v own' gl t rate:=by
 subst L;have y:∀a,PF e f g i j a->u<=a/\a < wr.heap.size:=fun a b=>by refine ⟨l.foot b,?_⟩;rcases b with rfl | rfl | b | b | b;exact l.blk.lt;exact l.ar.lt;exact (l.lrow.lt _ b).2;exact (l.orow.lt _ b).2;exact (l.trow.lt _ b).2
 have p:∀a,PF e f g i j a->ownL own e f g i j gl a=1:=fun a b=>by unfold ownL;rw [zBx b]
 have N:ownL own e f g i j gl gl=3:=by unfold ownL;rw [zBw (fun d=>by have:=(y _ d).1;omega),zBx rfl]
 have O:∀a,a < w2s->ownL own e f g i j gl a=own a:=fun a b=>by unfold ownL;rw [zBw (fun d=>by have:=(y _ d).1;omega),zBw oM]
 have W:c.length=t.length+1:=by rw [q.len,aL]
 refine ⟨ownL own e f g i j gl,gk,e,0,_,c,cT c rate (t.length+1),⟨q,⟨F,N,J.paint (fun a _ D=>O a (M a oM)) (fun a r=>?_),⟨⟨f,g,i,j,.slice none 0 0,List.range (cT c rate (t.length+1)).length,cT c rate (t.length+1),o, [],?_,(aEj _).symm⟩,rB _ _ _,fun z s=>?_⟩⟩,List.Perm.refl _,wH oM⟩,?_,aHJ q P⟩;unfold ownL at r;by_cases A:PF e f g i j a;have:=y a A;exact ⟨by omega,this.2⟩;rw [zBw A] at r;by_cases C:a=gl;subst C;exact ⟨by omega,F.lt⟩;rw [zBw C] at r;exact J.bnd a r
 · have H:∀m,m < o.length->o[m]?=some true:=fun m G=>by rw [zAa G];congr 1;exact Q _ (zBj G)
   refine ⟨l.low,p _ (.inl rfl),p _ (.inr (.inl rfl)),fun a b=>p _ (.inr (.inr (.inl b))),fun a b=>p _ (.inr (.inr (.inr (.inl b)))),fun a b=>p _ (.inr (.inr (.inr (.inr b)))),fun a b=>(by cases b),List.nodup_range,I,fun m=>?_,List.nodup_nil,fun m=>?_,by have:=aHL c rate (t.length+1);omega⟩
   · rw [zCj,<-I];constructor
     · intro d;exact (zAc.1 d).1
     exact H m
   · constructor
     · intro d;cases d
     · intro d;have x:=H m (zAc.1 d).1;rw [x] at d;cases d
 have x:=oF s;have D:=wH (rs:=c) (rate:=rate) (n:=t.length+1) oM z s;have E:=q.lt (zAd D);rw [aL] at E;exact ⟨x.1,E⟩;obtain ⟨z,s,K⟩:=aGf (rate:=rate) q;exact ⟨z,s,K⟩
theorem jI (rate:Nat) (Z:Option Addr) (S aq B:Nat) (U:List Sl) (t:List UInt8) (o:Nat) (bh:gG U=t) (K:t.length=o) (w:World) (aT:Rd w B 1 Z S (U.map slV)) (aV:∀aj∈U,Rd w B 1 aj.A aj.n (aj.l.map bv)) (bf:B<=w.heap.size) (bL:S<=1000000) (aO:o<=127) (bt:1<=rate) (bN:rate<=64):
 Calls prog 35 #[(rate:Int),.slice Z S aq] w fun m w'=>∃gl own,m=.returned (.tuple #[.pointer (some ⟨gl,0,none⟩),.int .i64 0])/\w.heap.size<=gl/\LiveE w' w.heap.size own gl t rate/\Below w.heap.size w w':=by
 have bi:=K;have aF:=mU Z S aq B U t o bh K w aT aV bf oM oM;have bO:¬((rate:Int) < 1):=oM;have bP:¬((rate:Int) > 64):=oM;clear aT aV;go_enter func35,ntmps35;go_wp2_with fail;refine aF.mono ?_;clear aF;rintro m w1 ⟨ak,au,rfl,aK,a8⟩;have bj:=a8;have ax:=aK.rd;obtain ⟨a0,G⟩:=hqq2 ax a8;clear aK a8 bj ax;go_wp2_with fail;refine (aBC ak o au w1.heap.size t w1 a0.out nL aO).mono ?_;rintro m e ⟨gk,c,aW,rfl,bn,E,u⟩;have ay:=a0.out.below u;have aD:=G.out.trans (u.mono G.out.size);have y:=lhd aW;obtain ⟨bS,E⟩:=E;have aQ:=E.bnd;have b3:=lhd aQ;clear aQ;obtain ⟨b7,b1,H⟩:=hqq3 (E.low G.out.size) (ay.mono u.size) aD;clear aW E ay aD u a0 G bn;go_wp2_with fail;obtain ⟨f,aP⟩:=eqx (o+1);have bq:(o:Int)+1=(f:Int):=oM;rw [bq];have N:=Bk.new e 92 #[gk,.pointer none,(rate:Int),.int .i64 0];have aa:Below e.heap.size e (e.alloc (.cells #[gk,.pointer none,(rate:Int),.int .i64 0] 92)):=bR.alloc nL _;obtain ⟨gl,M⟩:=eqx e.heap.size;rw [M] at N;rw [M];have I:=lhd M;generalize e.alloc (.cells #[gk,.pointer none,(rate:Int),.int .i64 0] 92)=w3 at N aa⊢;obtain ⟨J,a2,F⟩:=hqq3 N aa aP;clear N aa aP M;refine (aDC f w3 oM).mono ?_;rintro m Y ⟨q,a5,rfl,aR,a9⟩;have O:=J.out.below a9 J.out.lt;have ba:Y.cell? ⟨gl,1,none⟩=some (.pointer none):=(O.cell 1).trans rfl;have bb:=O.frozen 1;obtain ⟨am,b5,b2⟩:=hqq3 O aR a9;clear O aR a9;go_wp2_with fail;have aG:=(Keep.refl (fun i=>i=gl) Y).setCell (p:=⟨gl,1,none⟩) (.inl rfl) (.pointer (some ⟨q,0,none⟩));have af:=am.out.set 1 (.pointer (some ⟨q,0,none⟩));have ag:=b5.out.keep aG (fun i t b9 d k=>by
  subst d;have:=(aM k am.out).1;subst this;decide)
 have z:Below e.heap.size e (Y.setCell ⟨gl,1,none⟩ (.pointer (some ⟨q,0,none⟩))):=(a2.out.trans (b2.out.mono a2.out.size)).setCell (by rw [I.out];exact zAs _) _;have bJ:=I.out;have b0:=lhd (show e.heap.size < w3.heap.size by have:=J.out.lt;omega);have bG:e.heap.size<=w3.heap.size:=a2.out.size;clear ba bb;generalize Y.setCell ⟨gl,1,none⟩ (.pointer (some ⟨q,0,none⟩))=w5 at af ag z⊢;have ah:=nW ak o au e.heap.size t w5 (b1.out.below z) z.size oM;rw [F.out] at ah;obtain ⟨a3,ao,a1⟩:=hqq3 af ag z;clear aG af ag z;refine ah.mono ?_;clear ah;rintro m bA ⟨bu,al,av,aX,rfl,aN,L⟩;obtain rfl:c=bu:=y.out.unique aX;have aJ:c.length=f:=by rw [y.out.len,aL,K,F.out]
 have a:LvInv e w3.heap.size w5.heap.size gl gk q a5 f rate al av c 0 (.slice none 0 0) (.slice none 0 0) (.slice none 0 0) [] bA:=
  ⟨ao.out.below L,rfl,fun b8 _ k=>(by cases k),aN.own,a3.out.below L a3.out.lt,a1.out.trans (L.mono a1.out.size)⟩
 obtain ⟨an,g⟩:=hqq2 aJ a;clear a aN L aX aJ a3 ao a1;go_wp2_with fail;go_loopw [8,9,36] (fun _ _ ai wr=>∃b:Nat,b<=f/\ai=.int .i64 b/\∃V W X v,LvInv e w3.heap.size w5.heap.size gl gk q a5 f rate al av c b V W X v wr/\∀i∈v,i=true) (fun _ _ ai _=>f -(intOf ai).toNat)
 case atStart=>exact ⟨0,by omega,rfl,_,_,_,_,g.out,fun i k=>by cases k⟩
 case round=>
  clear g;obtain ⟨b,bK,rfl,V,W,X,v,a,aY⟩:=hrel;have a4:=lhd aY;clear aY;by_cases P:b < f
  · have ae:b < c.length:=(by rw [an.out];exact P);obtain ⟨j,n⟩:∃j,c[b]?=some j:=⟨_,zAa ae⟩;have bs:j < f:=(by have:=y.out.lt (zAd n);rw [aL,K,F.out] at this;exact this);have ab:c.getD b 0=j:=(by rw [zAb,n];rfl);have aU:=Rd.of_own a.row;obtain ⟨i,bQ,bT,be,aE,R,bl⟩:=aU.get P;rw [zAf,n] at R;injection R with R;subst R be;unfold sv at bl;have bD:=a.blk.cell 1;have bp:((j:Int)).tmod (rate:Int)=((j % rate:Nat):Int):=(by rw [Int.tmod_eq_emod_of_nonneg oM];simp);have bo:((j:Int))%(rate:Int)=((j % rate:Nat):Int):=(by simp);obtain ⟨aZ,Q⟩:=eqx (j % rate);rw [Q] at bp bo;have r:=aEc c rate b;rw [ab,Q] at r;obtain ⟨bB,b4,bC,g,b6⟩:=hqq5 ab n Q a aE;clear ab n Q a aU ae aE;by_cases aS:aZ=0
    · subst aS;rw [zBx rfl] at r;have x:=lhd r;clear r;go_wp2_with fail;have az:=aDE w3.heap.size q a5 V W X f f (List.range (cT c rate b).length) (cT c rate b) v b j wr g.out.perm (aCx (rB c rate b)) (fun s ac=>(oF (aCy (by simpa using ac))).1) (fun s ac m=>by
       have aw:=oF (aCy (C:=cT c rate b) (by simpa using ac));have bc:aI (cT c rate b) s=c.getD (aB (cT c rate b) s) 0:=aw.2;have bF:aB (cT c rate b) s < b:=aw.1;have ae:b < c.length:=(by rw [an.out];exact P);have bd:c[aB (cT c rate b) s]?=c[b]?:=(by rw [b4.out,<-m,bc,zAb,zAa (show aB (cT c rate b) s < c.length by omega)];rfl);have:=(List.getElem?_inj (show aB (cT c rate b) s < c.length by omega) y.out.nodup).1 bd
       omega) P bs g.out.len (by
        have:(cT c rate b).length<=b:=(by unfold cT;rw [zBc];exact zAk (zCu _ _) (by simp));omega) (by
        have:(cT c rate b).length<=b:=(by unfold cT;rw [zBc];exact zAk (zCu _ _) (by simp));simp;omega) (by have:=g.out.perm.blk.lt;have:=g.out.perm.lo.1;omega)
      refine az.mono ?_;clear az;rintro m bU ⟨rfl,ad,bw,bx,bz,br,bm,bH,bI⟩;go_wp2_with fail;go_roundw
      case rel=>
       have a:=g.out;refine ⟨b+1,by omega,by go_num,bw,bx,bz,v++ [true],⟨?_,?_,?_,?_,?_,?_⟩,fun i k=>by rcases zCp.1 k with a6 | a6;exact a4.out i a6;exact List.mem_singleton.1 a6⟩;rw [x.out];simpa [List.range_succ] using br
       · rw [x.out];simp [a.len]
       exact a.apt.next2 bm (fun b8 a7=>by injection a7 with a7;subst a7;exact b6.out);refine aA a.row fun ap b9 aC D=>ad.bk D (fun d=>?_);rcases d with d | d | d | d | d;subst d;exact Bk.ne D a.perm.blk dC rfl;subst d;exact Bk.ne D a.perm.ar dC rfl;exact bE a.perm.lrow D dC d.symm;have u:i=ap:=(by simpa [Value.ownBlock] using aC);subst u;exact a.apt _ rfl d;exact bE a.perm.trow D dC d.symm;refine ad.bk a.blk (fun d=>?_);have:=a.perm.foot d;have:=J.out.lt;omega;exact a.below.trans (ad.to_below a.below.size (fun ap aC d=>by have:=a.perm.foot d;omega))
      case measure=>simp [intOf];omega
    · rw [zBw aS] at r;have x:=lhd r;have bM:((aZ:Int)==0)=false:=(by simp;omega);clear r;go_wp2_with fail;go_roundw
      case rel=>have a:=g.out;exact ⟨b+1,by omega,by go_num,V,W,X,v,⟨by rw [x.out];exact a.perm,by rw [x.out];exact a.len,a.apt,a.row,a.blk,a.below⟩,a4.out⟩
      case measure=>simp [intOf];omega
  · obtain rfl:f=b:=oM;have g:=lhd a;clear a;go_wp2_with fail;go_ret2;have a:=g.out;have n:=a.perm;have aH:=a.len;rw [<-F.out] at n aH;obtain ⟨own',bg⟩:=aGx (w:=w) (w2s:=e.heap.size) bi y.out bt aO (b7.out.vis (Vis.of_below a.below)) (fun i k=>(b3.out i k).2) I.out.symm b0.out a.blk n aH a4.out H.out.size;exact ⟨gl,own',rfl,by have:=H.out.size;have:=I.out;omega,bg,H.out.trans (a.below.mono H.out.size)⟩
end
section
open Go.RowKit
def iA (most rate a:Nat):Array Value:=#[.int .i64 (most:Int),.int .i64 (rate:Int),.int .i64 (a:Int)]
theorem nJ {P:Program} {fn:Func} {a p b:Tmp} {ty:TypeId} (i:fn.results=#[.tmp a,.cell p ty,.tmp b]) (c:Array Value) (w:World) (e:Nat) (t:TypeId) (d:Array Value) (g:Nat×Nat) (f:TypeDesc)
 (m:c.getD p undef=.pointer (some ⟨e,0,none⟩)) (k:w.heap[e]?=some (.cells d t g))
 (o:P.underlying ty=some f) (j:(match f with | .struct _ | .array _ _=>true | _=>false)=true) (l:(P.info? ty).map (·.size)=some d.size):
 (results fn c).run P w=.ok (.tuple #[c.getD a undef,.agg d,c.getD b undef]) w:=by
 have n:c[p]?.getD undef=.pointer (some ⟨e,0,none⟩):=by simpa using m
 simp [results,i,n,asAddr,run_loadVar_row w e t ty d g f k o j l]
def lP (w:World) (t:List UInt8) (rate most:Nat) (a:Ending) (w':World):Prop:=
 ∃gl,a=.returned (.tuple #[.pointer (some ⟨gl,0,none⟩),.agg (iA most rate t.length),.int .i64 0])/\(∃own,LiveE w' w.heap.size own gl t rate)/\VB w.heap.size w w'
theorem aJY {w:World} {b:Nat} {t d:TypeId} {e f:Array Value} (c:Bk w b t e) (a:Bk w b d f):t=d:=by
 unfold Bk at c a;rw [c] at a;injection a with a;injection a with _ ht
theorem aIr {w w':World} {c:Array Value} {e gl rate most d:Nat} {t:List UInt8} (m:c.getD 3 undef=.pointer (some ⟨e,0,none⟩)) (j:c.getD 2 undef=.pointer (some ⟨gl,0,none⟩)) (k:c.getD 4 undef=.int .i64 0) (l:Bk w' e 30 (iA most rate d))
 (n:∃own,LiveE w' w.heap.size own gl t rate) (o:VB w.heap.size w w'):
 bodyPost prog f11 (fun i w'=>∃gl,i=.returned (.tuple #[.pointer (some ⟨gl,0,none⟩),.agg (iA most rate d),.int .i64 0])/\(∃own,LiveE w' w.heap.size own gl t rate)/\VB w.heap.size w w') .ret ⟨c, []⟩ w':=by
 have g:=nJ (P:=prog) (fn:=f11) (a:=2) (p:=3) (b:=4) (ty:=30) rfl c w' e 30 (iA most rate d) (0,0) _ m l underlying30 rfl kR;rw [j,k] at g;exact bodyPost_ret g rfl ⟨gl,rfl,n,o⟩
theorem jG (e:Option Addr) (a s most rate:Nat) (t:List UInt8) (f:List Nat) (w:World) (H:IsSuf (aF t) f) (cj:t.length<=127) (cn:1<=rate) (co:rate<=64) (d6:t.length<=most) (d7:most<=2147483648)
 (G:Rd w s 1 e (dN (aE (aF t) f) f most rate t.length).length ((dN (aE (aF t) f) f most rate t.length).map bv)) (K:s<=w.heap.size) (aZ:(dN (aE (aF t) f) f most rate t.length).length<=a) (O:a<=maxLen):
 Calls prog 11 #[.slice e (dN (aE (aF t) f) f most rate t.length).length a] w (lP w t rate most):=by
 obtain ⟨j,M⟩:=eqx (aE (aF t) f);rw [M] at G aZ⊢;have bc:=dG (rs:=f) (eC t);have bb:j.length=t.length+1:=by rw [<-M,bP,H.len,aL]
 rw [M] at bc;obtain ⟨b,aU⟩:=eqx t.length;unfold lP;rw [aU] at G aZ bb d6 cj⊢;obtain ⟨l,ac⟩:=eqx (pK j f most rate b);obtain ⟨cx,cy,cz,cA,d,o,F⟩:=SnAt.of j f most rate b;rw [ac] at o F;have Q:dN j f most rate b=l++rW (mI l):=by unfold dN;rw [ac]
 have bq:(dN j f most rate b).length=d+4:=by rw [Q,zAi,F,rV]
 rw [bq] at G aZ⊢;have dM:4<=d:=by have:=o.h1;have:=o.h2;have:=o.h3;have:=o.h4;have:=o.h5;omega
 have dD:¬(d+4 < 8):=oM;have dO:d<=10000:=by have a5:=o.h1;have aQ:=o.h2;have a6:=o.h3;have cZ:=o.h4;have d0:=o.h5;have cV:=dH most;have du:=dH rate;have dv:=dH b;have dw:=dH (fW j).length;have dx:=dH (vZ f rate b).length;have dy:=qF j;have cW:=rA f rate (b / rate+1);have dz:b / rate<=b:=Nat.div_le_self _ _;rw [<-uX] at cW;rw [jL] at cZ d0;omega
 have bn:=(G.cut_hi0 (k:=d) (cap:=a) oM);have c6:=aFM l;have cw:((dN j f most rate b).map bv).take (d*1)=l.map bv:=by rw [<-List.map_take,Q,zBl,List.take_left' F]
 rw [cw] at bn;have ai:=aJG l [] (mI l) c6;rw [List.append_nil,<-Q,F] at ai;have b0:∀(e W:Option Addr) (S a aO:Nat) (w:World),Rd w w.heap.size 1 e S (l.map bv)->S<=1099511627776->Rd w w.heap.size 1 W 1 [.slice e S a]->Calls prog 44 #[.slice W 1 aO] w fun i w'=>i=.returned (.int .u32 ((mI l:Nat):Int))/\Below w.heap.size w w':=fun e W S a aO w a5 aQ a6=>pE e W S a aO l w a5 aQ a6;obtain ⟨dp,cr⟩:=eqx (mI l);rw [cr] at ai b0;have bB:=lhd b0;clear b0;obtain ⟨bQ,bY,C,cM,a2,Z,u,bZ,ds⟩:=hqq9 G bn o bc bb M aU H Q;obtain ⟨dq,cO,cN,cP⟩:=hqq4 ac F ai bq;clear G bn o bc bb M aU H Q ac F cw ai bq c6 cr;have dT:=lV (P:=prog) 26 5 1 underlying26 (fun w=>by kernel_rfl) e (d+4) a d oM;have cV:IntKind.i64.wrap (((d+4:Nat):Int) - 4)=(d:Int):=by rw [IntKind.wrap_i64];omega
 go_enter func11,ntmps11;go_wp2_with fail;obtain ⟨c,ae⟩:=eqx w.heap.size;have b5:Bk (w.alloc (.cells #[.int .i64 0,.int .i64 0,.int .i64 0] 30)) c 30 #[.int .i64 0,.int .i64 0,.int .i64 0]:=ae ▸ Bk.new _ _ _;have ad:Below w.heap.size w (w.alloc (.cells #[.int .i64 0,.int .i64 0,.int .i64 0] 30)):=bR.alloc nL _;have bp:(w.alloc (.cells #[.int .i64 0,.int .i64 0,.int .i64 0] 30)).heap.size=c+1:=by simp [ae]
 rw [ae] at ad K⊢;generalize w.alloc (.cells #[.int .i64 0,.int .i64 0,.int .i64 0] 30)=W0 at b5 ad bp⊢;obtain ⟨aI,a0⟩:=hqq2 b5 ad;clear b5 ad;refine (aKg e (d+4) a (dN j f most rate b) (d:Int) s W0 dp 0 cN.out (bQ.out.below (a0.out.mono K)) (by unfold maxLen;omega)).mono ?_;rintro i w1 ⟨rfl,rfl⟩;go_wp2_with fail;have c3:=bY.out.below (a0.out.mono K);refine (bB.out (eZ e a 0 1) _ d a _ _ (((c3.mono (by omega:s<=W0.heap.size)).alloc nL _).mono (by simp)) oM (Rd.made' _ _ 1 1 _ _ rfl bp.symm)).mono ?_;rintro i ap ⟨rfl,c4⟩;have a8:=((Below.refl W0.heap.size W0).alloc nL (.cells #[.slice (eZ e a 0 1) d a] 26)).trans (c4.mono (by simp));have dc:=a8.size;obtain ⟨bz,bD⟩:=hqq2 (a0.out.trans (a8.mono oM)) (aI.out.below a8 aI.out.lt);clear c4 a8 a0 aI c3;go_wp2_with fail;have cp:∀x,Below c w x->Rd x s 1 (eZ e a 0 1) d (l.map bv):=fun x cY=>bY.out.below (cY.mono K);have y:=lhd cp;obtain ⟨m,b4⟩:=eqx ap.heap.size;have aj:Bk (ap.alloc (.cells #[.slice (eZ e a 0 1) d a,.int .i64 4,.bool false] 82)) m 82 (aHW (eZ e a 0 1) d a 4):=b4 ▸ Bk.new _ _ _;have aX:=bz.out.alloc oM (.cells #[.slice (eZ e a 0 1) d a,.int .i64 4,.bool false] 82);have b6:=bD.out.alloc (.cells #[.slice (eZ e a 0 1) d a,.int .i64 4,.bool false] 82);have br:m < (ap.alloc (.cells #[.slice (eZ e a 0 1) d a,.int .i64 4,.bool false] 82)).heap.size:=aj.lt;have dL:c < m:=oM;rw [b4];generalize ap.alloc (.cells #[.slice (eZ e a 0 1) d a,.int .i64 4,.bool false] 82)=W2 at aj aX b6 br⊢;obtain ⟨bS,aB,bE⟩:=hqq3 aj aX b6;have cd:∀(x bt:World),Below c w x->m < x.heap.size->Keep (fun n=>n=m) x bt->Below c w bt:=fun x bt a5 aQ a6=>a5.trans (a6.to_below oM (fun n a7 i=>by omega));have D:=lhd cd;clear cp b4 aj aX b6 cd bz bD bB dc bp;have E:d<=a:=oM;refine (mR m (eZ e a 0 1) d a s 4 cx most 2147483648 l W2 bS.out (y.out _ aB.out) E O (C.out.n1 oM) oM oM).mono ?_;rintro i cD ⟨rfl,bi,b8⟩;obtain ⟨bT,aC,bF⟩:=hqq3 bi (D.out _ _ aB.out br b8) (b8.bk bE.out oM);have cs:m < cD.heap.size:=bi.lt;clear bi b8 bS aB bE br;go_wp2_with fail;refine (mR m (eZ e a 0 1) d a s cx cy rate 64 l cD bT.out (y.out _ aC.out) E O (C.out.n2 oM) oM oM).mono ?_;rintro i cE ⟨rfl,bj,b9⟩;obtain ⟨bU,aD,bG⟩:=hqq3 bj (D.out _ _ aC.out cs b9) (b9.bk bF.out oM);have ct:m < cE.heap.size:=bj.lt;clear bj b9 bT aC bF cs;go_wp2_with fail;refine (mR m (eZ e a 0 1) d a s cy cz b 2147483648 l cE bU.out (y.out _ aD.out) E O (C.out.n3 oM) oM oM).mono ?_;rintro i aq ⟨rfl,bl,ba⟩;obtain ⟨bV,bA,bH⟩:=hqq3 bl (D.out _ _ aD.out ct ba) (ba.bk bG.out oM);have df:m < aq.heap.size:=bl.lt;clear bl ba bU aD bG ct;go_wp2_with fail;obtain ⟨gH,b2⟩:=eqx aq.heap.size;have aR:Bk (aq.alloc (.cells #[(most:Int),(rate:Int),(b:Int)] 30)) gH 30 (iA most rate b):=b2 ▸ Bk.new _ _ _;have aY:=bA.out.alloc oM (.cells #[(most:Int),(rate:Int),(b:Int)] 30);have b7:=bH.out.alloc (.cells #[(most:Int),(rate:Int),(b:Int)] 30);have A:=bV.out.alloc (.cells #[(most:Int),(rate:Int),(b:Int)] 30);have dI:m < gH:=oM;rw [b2];generalize aq.alloc (.cells #[(most:Int),(rate:Int),(b:Int)] 30)=W5 at aR aY b7 A⊢;have cu:m < W5.heap.size:=A.lt;obtain ⟨bu,aG,bI,bX⟩:=hqq4 aR aY b7 A;clear b2 aR aY b7 A bA bH bV df;obtain ⟨an,cb⟩:=eqx ((fW j).length);obtain ⟨dh,cc⟩:=eqx ((vZ f rate b).length);have d3:=qF j;have d5:=rA f rate (b / rate+1);have d4:=aJv f rate (b / rate+1);have dE:b / rate<=b:=Nat.div_le_self _ _;rw [<-uX,cc] at d5 d4;rw [cb,a2.out] at d3;obtain ⟨U,bf,cl,bg,d8⟩:=C.out.f1 oM;obtain ⟨dk,bh,d9,cm,da⟩:=C.out.f2 oM;rw [cb] at bf cl bg;rw [cc] at bh d9 cm;rw [cO.out] at d8 da;refine (sL m (eZ e a 0 1) d a s cz U an cA l W5 bX.out (y.out _ aG.out) E O oM bf cl oM).mono ?_;rintro i cF ⟨rfl,bm,ag⟩;obtain ⟨bW,aH,bJ,bx⟩:=hqq4 bm (D.out _ _ aG.out cu ag) (ag.bk bI.out oM) (ag.bk bu.out oM);have cv:m < cF.heap.size:=bm.lt;clear bm ag bX aG bI bu cu;go_wp2_with fail;refine (sL m (eZ e a 0 1) d a s cA dk dh d l cF bW.out (y.out _ aH.out) E O oM bh oM oM).mono ?_;rintro i I ⟨rfl,A,ah⟩;have cT:I.cell? ⟨m,2,none⟩=some (.bool false):=A.cell 2;obtain ⟨J,aM⟩:=hqq2 (D.out _ _ aH.out cv ah) (ah.bk bJ.out oM);have L:=ah.bk bx.out oM;have Y:=lhd L;have a3:I.cell? ⟨gH,0,none⟩=some (.int .i64 (most:Int)):=L.cell 0;have a4:I.cell? ⟨gH,1,none⟩=some (.int .i64 (rate:Int)):=L.cell 1;have c0:I.cell? ⟨gH,2,none⟩=some (.int .i64 (b:Int)):=L.cell 2;clear A ah bW aH bJ bx cv L;have cB:¬((rate:Int) < 1):=oM;have dl:decide ((rate:Int) < 1)=false:=zBy cB;have cC:¬((b:Int) > (most:Int)):=oM;have dm:decide ((b:Int) > (most:Int))=false:=zBy cC;have dn:decide (most < b)=false:=zBy oM;go_wp2_with fail;have bo:=((y.out _ J.out).cut (k:=U) (cap:=a) oM E).cut_hi (k:=an) oM;have c8:((l.map bv).drop (U*1)).take (an*1)=(fW j).map bv:=by rw [zBl,zBl,<-List.map_drop,<-List.map_take,bg]
 rw [c8] at bo;have b3:=aBn (jB j) (aCh cM.out) (by rw [oD,a2.out];omega) ((b:Int)+1) (by rw [oD,a2.out];omega) [];rw [List.append_nil,zBx rfl] at b3;refine (aG3 (eZ (eZ e a 0 1) a U 1) an (a - U) s (fW j) ((b:Int)+1) I (jB j) (b+1) 0 b3 (by rw [oD,a2.out]) bo (by have:=J.out.size;omega) oM oM oM oM).mono ?_;rintro i cG ⟨cI,cS,rfl,ch,a9⟩;have bd:=ch.rd;rw [<-aKc] at bd;have aW:=yP cI cS cG.heap.size t f cG bZ.out (by rw [Z.out,u.out];exact bd) nL (by rw [u.out];omega);rw [u.out] at aW;have d1:gH < I.heap.size:=Y.out.lt;have ax:=lhd (J.out.trans (a9.mono (by have:=J.out.size;omega)));obtain ⟨aJ,au⟩:=hqq2 (aM.out.below a9 aM.out.lt) (Y.out.below a9 Y.out.lt);clear ch a9 bd b3 c8 bo a3 a4 c0 cT cB dl cC dm dn bf bh bg cm Y aM J y D C d1;go_wp2_with fail;refine aW.mono ?_;clear aW;rintro i r ⟨ar,aN,rfl,ci,aa⟩;have aS:=au.out.below aa au.out.lt;have ay:=lhd (ax.out.trans (aa.mono (by have:=ax.out.size;omega)));obtain ⟨a1,X,bO⟩:=hqq3 (aJ.out.below aa aJ.out.lt) aS ci.rd;have a4:r.cell? ⟨gH,1,none⟩=some (.int .i64 (rate:Int)):=aS.cell 1;clear aa ci aS ax aJ au;go_wp2_with fail
 have ck:=jI rate (some ⟨r.heap.size,0,none⟩) 1 1 (r.heap.size+1) [(⟨ar,b,aN,t⟩:Sl)] t b (by simp [gG]) u.out (r.alloc (.cells #[.slice ar b aN] 26)) ((Rd.made r _ 1 1 _ rfl).mono (by simp)) (by
  intro dV H;simp at H;subst H;exact (bO.out.alloc nL _).mono oM) (by simp) oM cj cn co
 refine ck.mono ?_;clear ck;rintro i ao ⟨gl,di,rfl,d2,z,aV⟩;have bN:=lhd z;obtain ⟨gk,cX,dU,dt,bs,dj,R,_,_⟩:=z;have ak:=R.suf;have cq:=R.right;have db:=ak.unique bZ.out;subst db;have z:=R.live.g R.tal;rw [Z.out,u.out] at z;have ab:=((Below.refl r.heap.size r).alloc nL (.cells #[.slice ar b aN] 26)).trans (aV.mono (by simp));have aT:=X.out.below ab X.out.lt;have az:=lhd (ay.out.trans (ab.mono (by have:=ay.out.size;omega)));obtain ⟨bC,bw⟩:=hqq2 (a1.out.below ab a1.out.lt) aT;have a3:ao.cell? ⟨gH,0,none⟩=some (.int .i64 (most:Int)):=aT.cell 0;have dK:gH < r.heap.size:=X.out.lt;have dJ:c < r.heap.size:=a1.out.lt;have bK:=bN;have dr:=lhd ak;rw [World.size_alloc] at z;have dd:r.heap.size+1<=ao.heap.size:=by have:=aV.size;simpa using this
 have al:=jF (r.heap.size+1) gl gk cX rate most t bs dj ao (by rw [Z.out,u.out];exact z) cq ak (by rw [u.out];omega) cn co (by rw [u.out];omega) d7;unfold eK at al;rw [Z.out,u.out,cP.out] at al;have dF:=az.out.size;clear z ak R cq bN aV ab aT a4 ay a1 X bO d2;go_wp2_with fail;refine al.mono ?_;clear al;rintro i V ⟨cH,cR,rfl,cg,am⟩;have af:Below (r.heap.size+1) ao V:=am.2.to_below dd (fun n a7 i=>by omega);have dP:=am.1.size;have c1:Bk V gH 30 (iA most rate b):=bw.out.below af oM;have c9:Bk V c 30 #[.int .i64 0,.int .i64 0,.int .i64 0]:=bC.out.below af oM;have aA:=lhd (az.out.trans (af.mono oM));have b1:=zA cH e (d+4) (d+4) cR a V.heap.size (dN j bs most rate b) (dN j bs most rate b) V cg.rd ((bQ.out.below (aA.out.mono K)).mono oM);rw [beq_self_eq_true] at b1;obtain ⟨av,aK,bL⟩:=hqq3 c1 c9 (bK.out.vis am.1);clear cg am af c1 c9 az bC bw a3 bK;go_wp2_with fail;refine b1.mono ?_;clear b1;rintro i q ⟨rfl,N⟩;have c2:=av.out.below N av.out.lt;have ca:=aK.out.below N aK.out.lt;obtain ⟨cK,bM,aw,v⟩:=hqq4 (aA.out.trans (N.mono oM)) (bL.out.vis (Vis.of_below N)) c2 ca;clear N c2 ca aA av aK bL;go_wp2_with fail;have a3:q.cell? ⟨gH,0,none⟩=some (.int .i64 (most:Int)):=aw.out.cell 0;have a4:q.cell? ⟨gH,1,none⟩=some (.int .i64 (rate:Int)):=aw.out.cell 1;have c0:q.cell? ⟨gH,2,none⟩=some (.int .i64 (b:Int)):=aw.out.cell 2;have dQ:q.cell? ⟨c,0,none⟩=some (.int .i64 0):=v.out.cell 0;have dR:q.cell? ⟨c,1,none⟩=some (.int .i64 0):=v.out.cell 1;have dS:q.cell? ⟨c,2,none⟩=some (.int .i64 0):=v.out.cell 2;have dA:=v.out.frozen 0;have dB:=v.out.frozen 1;have dC:=v.out.frozen 2;have c7:Bk ((((q.setCell ⟨c,0,none⟩ (.int .i64 (most:Int))).setCell ⟨c,1,none⟩ (.int .i64 (rate:Int))).setCell ⟨c,2,none⟩ (.int .i64 (b:Int))).drew) c 30 (iA most rate b):=by have:=(((v.out.set 0 (.int .i64 (most:Int))).set 1 (.int .i64 (rate:Int))).set 2 (.int .i64 (b:Int))).drew;simpa [iA] using this
 have c5:Below c w ((((q.setCell ⟨c,0,none⟩ (.int .i64 (most:Int))).setCell ⟨c,1,none⟩ (.int .i64 (rate:Int))).setCell ⟨c,2,none⟩ (.int .i64 (b:Int))).drew):=
  (((cK.out.setCell (p:=⟨c,0,none⟩) nL _).setCell (p:=⟨c,1,none⟩) nL _).setCell (p:=⟨c,2,none⟩) nL _).drew
 have de:∀n t aP,t≠30->Bk q n t aP->Bk ((((q.setCell ⟨c,0,none⟩ (.int .i64 (most:Int))).setCell ⟨c,1,none⟩ (.int .i64 (rate:Int))).setCell ⟨c,2,none⟩ (.int .i64 (b:Int))).drew) n t aP:=fun n t aP dg a7=>by
  have be:n≠c:=fun i=>by subst i;exact dg (aJY a7 v.out)
  exact (((a7.far (p:=⟨c,0,none⟩) be _).far (p:=⟨c,1,none⟩) be _).far (p:=⟨c,2,none⟩) be _).drew
 have ce:Keep (fun n=>n=c) q ((((q.setCell ⟨c,0,none⟩ (.int .i64 (most:Int))).setCell ⟨c,1,none⟩ (.int .i64 (rate:Int))).setCell ⟨c,2,none⟩ (.int .i64 (b:Int))).drew):=
  (((((Keep.refl (fun n=>n=c) q).setCell (p:=⟨c,0,none⟩) (.inl rfl) _).setCell (p:=⟨c,1,none⟩) (.inl rfl) _).setCell (p:=⟨c,2,none⟩) (.inl rfl) _)).drew
 have cf:=(bM.out.far0 ce fun n i=>by
  have cU:n=c:=i;subst cU;by_cases a:di n=0;exact a
  · have:=(bM.out.bnd n a).1;rw [World.size_alloc] at this;omega).low (B':=c) (by rw [World.size_alloc];omega)
 obtain ⟨cL,cJ,cQ⟩:=hqq3 c7 c5 cf;clear c7 c5 de cf ce
 go_region
 go_wp2_with fail;subst ae;refine aIr rfl rfl rfl cL.out ⟨_,cQ.out⟩ (VisK.of_below cJ.out)
end
section
open Go.RowKit
open Classical in
theorem VisF.split {d:Nat->Prop} {w w':World} (f:VisF d w w'):∃w1,Keep d w w1/\Vis w1 w':=by
 let c:Array Obj:=Array.ofFn (n:=w'.heap.size) fun k=>if g:k.val < w.heap.size/\¬d k.val then w.heap[k.val]'g.1 else w'.heap[k.val]
 have x:c.size=w'.heap.size:=Array.size_ofFn;have q:∀a,a < w'.heap.size->c[a]?=if a < w.heap.size/\¬d a then w.heap[a]? else w'.heap[a]?:=fun a g=>by
  rw [zAq oM,Array.getElem_ofFn];by_cases b:a < w.heap.size/\¬d a
  · rw [zBx b,dif_pos b,zAq b.1]
  · rw [zBw b,dif_neg b,zAq g]
 refine ⟨{ w' with heap:=c },⟨f.os,f.tape,f.output,?_,fun j r v=>?_⟩,⟨rfl,rfl,rfl,?_,fun a g _=>?_⟩⟩;show w.heap.size<=c.size;rw [x];exact f.size
 · show c[j]?=w.heap[j]?;rw [q j (zAl r f.size),zBx ⟨r,v⟩]
 show c.size<=w'.heap.size;omega;have u:a < w'.heap.size:=(by have:a < c.size:=g;omega);have i:({ w' with heap:=c }:World).heap[a]?=if a < w.heap.size/\¬d a then w.heap[a]? else w'.heap[a]?:=q a u;by_cases b:a < w.heap.size/\¬d a;rw [zBx b] at i;have p:∀t e,Bk w a t e->Bk { w' with heap:=c } a t e:=fun t e j=>i.trans j;rcases f.block a b.1 b.2 with s |⟨e,o,l,m⟩|⟨e,o,l,m⟩;exact .inl (by rw [i];exact s);exact .inr (.inl ⟨e,o,p _ _ l,m⟩);exact .inr (.inr ⟨e,o,p _ _ l,m⟩);rw [zBw b] at i;exact .inl i.symm
theorem LiveE.visF {w w':World} {B:Nat} {own:Nat->Nat} {gl:Nat} {t:List UInt8} {rate:Nat} {a:Nat->Prop} (c:LiveE w B own gl t rate) (g:VisF a w w') (f:∀b,a b->own b=0):LiveE w' B own gl t rate:=by
 obtain ⟨w1,d,e⟩:=g.split;exact (c.far0 d f).vis e
end
section
open Go.RowKit
structure StAt (w:World) (B:Nat) (own:Nat->Nat) (gs gl most rate:Nat) (t:List UInt8):Prop where
 blk:Bk w gs 115 #[gl,(most:Int)]
 low:B<=gs
 col:own gs=0
 live:LiveE w B own gl t rate
 n127:t.length<=127
 len:t.length<=most
 max:most<=2147483648
 r1:1<=rate
 r2:rate<=64
section
variable {w w' : World} {B gs gl most rate : Nat} {own own' : Nat -> Nat} {t : List UInt8}
theorem StAt.tp (a:StAt w B own gs gl most rate t):TpAt w B gl t rate:=a.live.tp a.n127
theorem StAt.vb (a:StAt w B own gs gl most rate t) (b:Vis w w'):StAt w' B own gs gl most rate t:=
 ⟨b.bk a.blk dC dC,a.low,a.col,a.live.vis b,a.n127,a.len,a.max,a.r1,a.r2⟩
theorem StAt.size (a:StAt w B own gs gl most rate t):B<=w.heap.size:=by have:=a.low;have:=a.blk.lt;omega
theorem StAt.fresh (b:StAt w B own gs gl most rate t) {a:Nat} (d:w.heap.size<=a):own a=0:=Nat.eq_zero_of_not_pos fun c=>by have:=(b.live.bnd a oM).2;omega
end
structure LFS (B gs:Nat) (w w':World) (own own':Nat->Nat):Prop where
 old:∀b,b < w.heap.size->own' b≠0->own b≠0
 vis:VisF (fun b=>own b≠0∨b=gs) w w'
 keep:Keep (fun b=>B<=b) w w'
section
variable {B gs : Nat} {w w1 w' : World} {own own1 own' : Nat -> Nat}
theorem LFS.refl (B gs:Nat) (w:World) (own:Nat->Nat):LFS B gs w w own own:=⟨fun _ _ a=>a,VisF.of_vis (Vis.refl w),Keep.refl _ _⟩
theorem LFS.size (a:LFS B gs w w' own own'):w.heap.size<=w'.heap.size:=a.keep.size
theorem LFS.trans (b:LFS B gs w w1 own own1) (e:LFS B gs w1 w' own1 own'):LFS B gs w w' own own':=by
 have f:=b.keep.size;refine ⟨fun c d a=>b.old c d (e.old c oM a),b.vis.trans' e.vis fun c d a=>?_,b.keep.trans e.keep⟩;rcases a with a | a;exact .inl (b.old c d a);exact .inr a
theorem LFS.of_vb (gs:Nat) (own:Nat->Nat) (a:VB B w w'):LFS B gs w w' own own:=⟨fun _ _ b=>b,VisF.of_vis a.1,a.2⟩
theorem LFS.of_below (B gs:Nat) (own:Nat->Nat) (a:Below w.heap.size w w'):LFS B gs w w' own own:=LFS.of_vb gs own (VisK.of_below a)
theorem LFS.below (d:LFS B gs w w' own own') (c:B<=w.heap.size):Below B w w':=d.keep.to_below c fun a f b=>by have e:B<=a:=b;omega
theorem LFS.zero (e:LFS B gs w w' own own') {a:Nat} (d:a < w.heap.size) (c:own a=0):own' a=0:=by
 by_cases b:own' a=0;exact b;exact absurd c (e.old a d b)
theorem LFS.bk (j:LFS B gs w w' own own') {a:Nat} {t:TypeId} {c:Array Value} (d:Bk w a t c) (e:own a=0) (i:a≠gs) (f:t≠202) (g:t≠154):Bk w' a t c:=
 j.vis.bk d f g fun b=>b.elim (fun b=>b e) i
structure Ap (own:Nat->Nat) (gs b:Nat):Prop where
 col:own b=0
 ne:b≠gs
theorem Ap.step {a:Nat} (b:Ap own gs a) (d:LFS B gs w w' own own') (c:a < w.heap.size):Ap own' gs a:=⟨d.zero c b.col,b.ne⟩
def MadeZ (w:World) (own:Nat->Nat) (gs:Nat) (d:TypeId) (b:Option Addr) (e c:Nat) (f:List Value):Prop:=Made w 0 d 1 b e c f/\∀a,b=some a->a.block < w.heap.size/\Ap own gs a.block
theorem MadeZ.step {a:TypeId} {c:Option Addr} {e f:Nat} {i:List Value} (b:MadeZ w own gs a c e f i) (g:LFS B gs w w' own own') (n:a≠202) (o:a≠154):MadeZ w' own' gs a c e f i:=by
 have j:w'.ownsRow 0 a 1 (.slice c e f) e i:=aA b.1.own fun l r k q=>by
  rcases c with _ | d
  · cases k
  have m:d.block=l:=(by simpa [Value.ownBlock] using k);have:=(b.2 d rfl).2;rw [m] at this;exact g.bk q this.col this.ne n o
 refine ⟨⟨j,Rd.of_own j,b.1.cap,b.1.max⟩,fun d p=>?_⟩;have:=b.2 d p;exact ⟨zAl this.1 g.size,this.2.step g this.1⟩
def ArgZ (w:World) (B:Nat) (own:Nat->Nat) (gs:Nat) (b:Option Addr) (c:Nat) (d:List UInt8):Prop:=
 Rd w w.heap.size 1 b c (d.map bv)/\(0 < c->∀a,b=some a->a.block < B∨(Ap own gs a.block/\∃e f,w.heap[a.block]?=some (.cells e 5 f)))
theorem VisF.same {d:Nat->Prop} {b:Nat} {e:Array Value} {t:TypeId} {j:Nat×Nat} (n:VisF d w w') (c:w.heap[b]?=some (.cells e t j)) (m:¬d b) (k:t≠202) (l:t≠154):w'.heap[b]?=w.heap[b]?:=by
 rcases n.block b (lt_of_block c) m with g |⟨f,o,a,i⟩|⟨f,o,a,i⟩;exact g;exfalso;unfold Bk at a;rw [c] at a;injection a with a;injection a with _ a;exact k a;exfalso;unfold Bk at a;rw [c] at a;injection a with a;injection a with _ a;exact l a
theorem ArgZ.step {l:Option Addr} {k:Nat} {f:List UInt8} (c:ArgZ w B own gs l k f) (e:LFS B gs w w' own own'):ArgZ w' B own' gs l k f:=by
 have z:=e.size;rcases zBa k with d | d;subst d;have:f= []:=(by simpa using c.1.1);subst this;exact ⟨Rd.nil _ _ _ _,fun r=>absurd r oM⟩;obtain ⟨b,v,rfl,o,q⟩:=c.1.2 d;have p:w'.heap[b]?=w.heap[b]?:=(by rcases c.2 d _ rfl with a |⟨a,m,n,g⟩;exact e.keep.block b o (by have A:b < B:=a;omega);exact e.vis.same g (fun i=>i.elim (fun i=>i a.col) a.ne) dC dC);refine ⟨⟨c.1.1,fun _=>⟨b,v,rfl,by omega,fun u x s=>by rw [<-q u x s];exact World.cell?_of_block p⟩⟩,fun _ y j=>?_⟩;injection j with j;subst j;rcases c.2 d _ rfl with a |⟨a,m,n,g⟩;exact .inl a;exact .inr ⟨a.step e o,m,n,p.trans g⟩
theorem ArgZ.old {c:Nat} {b:Option Addr} {f:Nat} {d:List UInt8} (e:Rd w c 1 b f (d.map bv)) (m:c<=B) (l:B<=w.heap.size):ArgZ w B own gs b f d:=
 ⟨e.mono oM,fun j k a=>by
  obtain ⟨g,o,i,n,_⟩:=e.2 j;rw [i] at a;injection a with a;subst a;exact .inl (by show g < B;omega)⟩
theorem ArgZ.made {d:Option Addr} {f i:Nat} {e:List UInt8} (c:MadeZ w own gs 5 d f i (e.map bv)):ArgZ w B own gs d f e:=
 ⟨c.1.rd,fun p g a=>by
   have l:=(c.2 g a).2
   obtain ⟨o,n,j,b,_,k,_⟩:=c.1.own.2.resolve_left (fun m=>by
     have:=m.1;injection this with q1;rw [q1] at a;cases a)
   injection b with b;rw [b] at a;injection a with a;subst a;exact .inr ⟨l,j,_,k⟩⟩
theorem ArgZ.vis {a:Option Addr} {c:Nat} {b:List UInt8} (d:ArgZ w B own gs a c b) (e:Below w.heap.size w w'):ArgZ w' B own gs a c b:=d.step (LFS.of_below B gs own e)
theorem StAt.far {gl most rate:Nat} {t:List UInt8} {H:Nat->Prop} (a:StAt w B own gs gl most rate t) (e:Keep H w w') (d:∀b,H b->Ap own gs b):StAt w' B own gs gl most rate t:=
 ⟨e.bk a.blk fun c=>(d _ c).ne rfl,a.low,a.col,a.live.far0 e fun b c=>(d b c).col,a.n127,a.len,a.max,a.r1,a.r2⟩
def Two (own1:Nat->Nat) (b:Nat) (d:Nat->Nat) (c:Nat):Prop:=∀a,own1 a≠0∨a=b->Ap d c a
end
theorem StAt.other {w w':World} {B p i d k l n:Nat} {own1 m f:Nat->Nat} {o:List UInt8} (a:StAt w B f d k l n o) (j:LFS p i w w' own1 m) (e:Two own1 i f d):StAt w' B f d k l n o/\Two m i f d:=by
 refine ⟨⟨j.vis.bk a.blk dC dC fun g=>(e _ g).ne rfl,a.low,a.col,a.live.visF j.vis fun b g=>(e b g).col,a.n127,a.len,a.max,a.r1,a.r2⟩,fun b c=>?_⟩;rcases c with c | c;by_cases q:b < w.heap.size;exact e b (.inl (j.old b q c));exact ⟨a.fresh oM,by have:=a.blk.lt;omega⟩;exact e b (.inr c)
theorem Two.symm {own1 e:Nat->Nat} {c d:Nat} (g:Two own1 c e d) (j:own1 c=0) (k:e d=0):Two e d own1 c:=fun b a=>by
 refine ⟨?_,fun i=>?_⟩;by_cases f:own1 b=0;exact f;have:=g b (.inl f);rcases a with a | a;exact absurd this.col a;exact absurd a this.ne;have:=g b (.inr i);rcases a with a | a;exact a this.col;exact this.ne a
theorem StAt.save {w:World} {b gs gl most rate:Nat} {own:Nat->Nat} {t:List UInt8} {c:List Nat} (a:StAt w b own gs gl most rate t) (j:IsSuf (aF t) c):
 Calls prog 10 #[gl,(most:Int)] w (eK w b (dN (aE (aF t) c) c most rate t.length)):=by
 obtain ⟨l,gk,e,k,d,f,i,m,g⟩:=a.tp;obtain rfl:=d.unique j;exact jF b gl gk e rate most t l k w f i d g a.r1 a.r2 a.len a.max
def StDone (w:World) (B:Nat) (own:Nat->Nat) (gs most rate:Nat) (T:List UInt8) (b:Told) (g:Ending) (w':World):Prop:=
 ∃c e d f own' i,g=.returned (.agg (lX b c e d f))/\StAt w' B own' gs i most rate T/\LFS B gs w w' own own'/\Made w' w.heap.size 5 1 c b.data.length e (b.data.map bv)/\Made w' w.heap.size 3 1 d b.places.length f (b.places.map nv)/\(∀a,c=some a->own' a.block=0)/\(∀a,d=some a->own' a.block=0)
section
variable {w w1 w' : World} {B gs gl most rate : Nat} {own own' : Nat -> Nat} {T : List UInt8}
theorem LFS.put (a:LFS B gs w w1 own own') {p:Addr} (c:w.heap.size<=p.block) (d:B<=p.block) (b:Value):LFS B gs w (w1.setCell p b) own own':=
 ⟨a.old,VisF.put a.vis (.inr c) b,a.keep.setCell (.inr c) b⟩
theorem StAt.put (e:StAt w B own gs gl most rate T) {p:Addr} (f:Ap own gs p.block) (b:Value):StAt (w.setCell p b) B own gs gl most rate T:=
 e.far (Keep.setCell (F:=fun a=>a=p.block) (Keep.refl _ _) (.inl rfl) b) fun a c=>by have d:a=p.block:=c;rw [d];exact f
end
theorem aKZ (n:Option Addr) (d c a g B:Nat) (e:List Nat) (w:World) (L:Rd w B 1 n d (e.map sv)) (Y:B<=w.heap.size) (aE:d<=c) (x:a<=d) (a7:d<=1000):
 Calls prog 126 #[.slice n d c,(a:Int),(g:Int)] w fun G w'=>∃U X,G=.returned (.slice U (d+1) X)/\Made w' w.heap.size 3 1 U (d+1) X ((e.take a++g::e.drop a).map sv)/\Below w.heap.size w w':=by
 obtain ⟨Q,A,N,E,O⟩:=info_parts fR;have ab:∀w,(sizeOf 3).run prog w=.ok 1 w:=fun w=>by simp [sizeOf,typeInfo,A,E]
 have J:=L.cut_hi0 (cap:=c) x;have K:=L.cut (cap:=c) x aE;rw [zBl,<-List.map_take] at J;rw [zBl,<-List.map_drop] at K;have aP:=lV (P:=prog) 22 3 1 underlying22 ab n d c a oM;have R:=pZ (P:=prog) 22 3 1 underlying22 ab n d c a x;obtain ⟨ah,ai,am⟩:=hqq3 J K R;clear J K L R;go_enter func126,ntmps126;go_wp2_with (at_builtin;refine bY _ rfl (.tmp 8) (.tmp 11) _ rfl w.heap.size 3 Q (.int .i64 0) 1 8 underlying22 A N E O rfl dC (.slice (some ⟨w.heap.size,0,none⟩) 0 0) 0 [] rfl (oN w 3 1) w.heap.size (eZ n c 0 1) a c _ rfl ((ah.out.mono Y).alloc nL _) (qC _) (by unfold maxLen;omega) oM (by simp) ?_;intro aQ w1 C a2 az);have I:=aX ((Below.refl w.heap.size w).alloc nL _) (oN w 3 1) a2 (by simp);rw [zBi,List.nil_append] at C;obtain ⟨j,k,rfl,a5⟩:=aU C;have a4:∀b,(Value.slice j a k).ownBlock=some b->w.heap.size<=b/\b < w1.heap.size:=fun b a0=>a5.own.lt b a0;have aa:=I.size;obtain ⟨ae,ak,V⟩:=hqq3 I C a4;clear C a2 az I a5 a4;go_wp2_with fail;refine wp_region_any kR ?_;refine cS 7 [13,14,15,16,17,18,19] (fun b=>(Value.slice j a k).ownBlock=some b) 3 [3] (fun s=>s.ownsRow w.heap.size 3 1 (.slice j a k) a ((e.take a).map sv)) (fun S s=>s.ownsRow w.heap.size 3 1 S (a+1) ((e.take a).map sv++ [.int .i64 (g:Int)])) [is (.slice j a k),is (g:Int),rK (fun b=>(Value.slice j a k).ownBlock=some b) 3 #[(g:Int)] fun H=>.slice (some ⟨H,0,none⟩) 1 1,cX,is (.slice n d c),is (a:Int),is (.slice (eZ n c a 1) (d - a) (c - a))] _ _ rfl dC kR kR kR (ak.out) (fun s aY u _ aC=>aS u aC) (fun _ _ _ aw a=>aS aw a) tA3 ?_ ?_
 · refine bJ ?_;refine pH3 7 (.slice j a k) ?_;refine pH3 2 (.int .i64 (g:Int)) ?_;refine sC3 (fun _ q l _ _ _ _ m _ _ _ p=>?_) ?_
   · replace l:Keep (fun b=>(Value.slice j a k).ownBlock=some b) w1 q:=kD l;have aK:_=_:=m 1 14 kR rfl;go_simp;exact p _ _ (aJ (bR.alloc nL _)) ⟨_,rfl,Bk.new _ _ _,fun u=>by have:=(V.out _ u).2;have:=l.size;omega⟩
   refine sC3 (fun y q l ax _ _ _ m _ _ ay p=>?_) ?_;replace l:Keep (fun b=>(Value.slice j a k).ownBlock=some b) w1 q:=kD l;have aG:=ax rfl;have ap:_=_:=m 0 13 kR rfl;have aI:(rK (fun b=>(Value.slice j a k).ownBlock=some b) 3 #[(g:Int)] fun H=>.slice (some ⟨H,0,none⟩) 1 1) (y (.tmp 15)) q:=m 2 15 kR rfl;obtain ⟨av,aq,aB,aO⟩:=aI;subst ay;have aH:w.heap.size<=q.heap.size:=zAk aa l.size;refine eR q (.tmp 13) (.tmp 15) _ rfl w.heap.size 3 Q (.int .i64 0) 1 8 underlying22 A N E O rfl dC (.slice j a k) a ((e.take a).map sv) ap aG q.heap.size (some ⟨av,0,none⟩) 1 1 [.int .i64 (g:Int)] aq (aEh aB) (by simp [Value.oneCell']) (by unfold maxLen;omega) oM aH ?_;intro aT r aF v aN;exact p _ _ (aV ⟨v.os,v.tape,v.output,v.size,fun a x a7=>v.block a x (fun G=>a7 G.symm)⟩) aF;refine pH3 0 (.slice n d c) ?_;refine pH3 1 (.int .i64 (a:Int)) ?_;refine sC3 (fun _ _ _ _ _ _ _ m _ _ _ p=>?_) ?_
   · have aL:_=_:=m 4 17 kR rfl;have aM:_=_:=m 5 18 kR rfl;have R:=am.out;go_simp;exact kq p rfl
   exact aD
 · intro y r o l m;replace l:Keep (fun b=>(Value.slice j a k).ownBlock=some b) w1 r:=kD l;have F:(fun S s=>s.ownsRow w.heap.size 3 1 S (a+1) ((e.take a).map sv++ [.int .i64 (g:Int)])) (y (.tmp 16)) r:=m 3 16 dC rfl;have au:y (.tmp 19)=.slice (eZ n c a 1) (d - a) (c - a):=m 6 19 dC rfl;simp only [zqq];rw [au];clear m;obtain ⟨ac,an,ar,_,_⟩:=aR F;rw [ar] at F⊢;have z:Below w.heap.size w r:=ae.out.trans (l.to_below aa (fun b a0 u=>by have:=(V.out _ u).1;omega));have a9:=(ai.out.mono Y).below z;have W:=lhd F;have M:=z.size;obtain ⟨af,al⟩:=hqq2 z a9;clear F z a9;change wpAny prog Region.Mode.any _ _ (2+o) (bX 7 9) _ r;rw [show 2+o=o+1+1 by omega];refine bG (f:=o+1) (i:=7) kR ?_;refine bV rfl rfl ?_;refine eR r (.tmp 16) (.tmp 19) _ rfl w.heap.size 3 Q (.int .i64 0) 1 8 underlying22 A N E O rfl dC (.slice ac (a+1) an) (a+1) ((e.take a).map sv++ [.int .i64 (g:Int)]) rfl W.out r.heap.size (eZ n c a 1) (d - a) (c - a) ((e.drop a).map sv) rfl (al.out.mono M) (qC _) (by unfold maxLen;omega) oM M ?_;intro aW aZ D a3 aA;have a1:=aX af.out W.out a3 M;have a8:a+1+(d - a)=d+1:=oM;rw [a8] at D;have Z:(e.take a).map sv++ [.int .i64 (g:Int)]++(e.drop a).map sv=(e.take a++g::e.drop a).map sv:=(by simp [sv]);rw [Z] at D;obtain ⟨ad,ao,rfl,a6⟩:=aU D;obtain ⟨aj,ag⟩:=hqq2 a6 a1;clear D a3 aA a1 Z a8 a6;refine bG (f:=o) (i:=8) kR ?_;refine bV rfl rfl ?_;generalize p:wpAny prog _ _ _ o _=K5;go_simp;subst p;refine bW kR ?_;go_wp2;go_ret;exact ⟨ad,ao,rfl,aj.out,ag.out⟩
structure Part (l:List Nat) (x j:Nat) (L:List Nat):Prop where
 perm:L.Perm (List.range' x j)
 sorted:L.Pairwise (sufLt l)
theorem Part.len {d a:List Nat} {e b:Nat} (c:Part d e b a):a.length=b:=by simpa using c.perm.length_eq
theorem Part.mem {g c:List Nat} {b d a:Nat} (e:Part g b d c) (f:a∈c):b<=a/\a < b+d:=by
 have:=e.perm.mem_iff.1 f;rw [List.mem_range'_1] at this;exact this
theorem Part.rel {d a:List Nat} {j i c b:Nat} (e:Part d j i a) (f:c < b) (g:b < a.length):sufLt d (a[c]' oM) a[b]:=zAr.1 e.sorted c b oM g f
theorem Part.put {d b:List Nat} {e m c:Nat} (j:Part d (e+1) m b) (u:e < d.length) (v:e+1+m<=d.length) (x:c<=b.length) (r:∀a (g:a < b.length),a < c->sufLt d b[a] e) (s:∀a (g:a < b.length),c<=a->¬sufLt d b[a] e):
 Part d e (m+1) (b.take c++e::b.drop c):=by
 constructor;rw [List.range'_succ];refine List.perm_middle.trans (List.Perm.cons e ?_);rw [zAu];exact j.perm;have i:=j.sorted;rw [<-zAu c b,List.pairwise_append] at i;rw [List.pairwise_append];refine ⟨i.1,List.pairwise_cons.2 ⟨fun o f=>?_,i.2.1⟩,fun q p o f=>?_⟩;obtain ⟨a,g,rfl⟩:=zBo.1 f;rw [zAw] at g;rw [List.getElem_drop];have y:=j.mem (zBj (l:=b) (n:=c+a) oM);rcases sufLt.tri u (by omega:b[c+a]' oM < d.length) oM with k | k;exact k;exact absurd k (s (c+a) oM oM);rcases List.mem_cons.1 f with rfl | f;obtain ⟨a,g,rfl⟩:=zBo.1 p;rw [zAj] at g;rw [List.getElem_take];exact r a oM oM;exact i.2.2 q p o f
def uJ (t:List UInt8) (d:Nat) (w:World) (e:Ending) (w':World):Prop:=∃a c b,e=.returned (.slice a (d+1) c)/\IsSuf (aF t) b/\Made w' w.heap.size 3 1 a (d+1) c (b.map sv)/\Below w.heap.size w w'
theorem nY (t:List UInt8) (b:Nat) (w:World) (A:t.length=b) (aK:b<=900):
 Calls prog 67 #[.string ⟨t.toArray⟩] w (uJ t b w):=by
 have aP:(⟨t.toArray⟩:ByteArray).size=b:=(mK t).trans A;have a1:(aF t).length=b+1:=by rw [aL,A]
 obtain ⟨ag,E⟩:=hqq2 A a1;clear A a1;go_enter func67,ntmps67;go_wp2_with fail;go_loopw [3,4] (fun av M wr=>∃(a:Nat) (d:List Nat) (o:Option Addr) (p:Nat),a<=b+1/\av=.slice o a p/\M=.int .i64 ((b:Int) -(a:Int))/\Part (aF t) (b+1 - a) a d/\Made wr w.heap.size 3 1 o a p (d.map sv)/\Below w.heap.size w wr) (fun _ M _=>(intOf M+1).toNat)
 case atStart=>exact ⟨0, [],none,0,by omega,rfl,by simp,⟨by simp,List.Pairwise.nil⟩,⟨World.ownsRow_nil _ _ _ _,Rd.nil _ _ _ _,zAs _,by unfold maxLen;omega⟩,Below.refl _ _⟩
 case round=>
  obtain ⟨a,d,o,p,aD,rfl,rfl,l,a5,Y⟩:=hrel;obtain ⟨F,u⟩:=hqq2 a5 Y;clear a5 Y;by_cases aq:a<=b
  · obtain ⟨i,ab⟩:=eqx (b - a);rw [show b+1 - a=i+1 by omega] at l;have K:(b:Int) -(a:Int)=(i:Int):=oM;rw [K];have aM:(0:Int)<=(i:Int):=oM;have X:=l.len;obtain ⟨v,C,m,aj⟩:=hqq4 l X ab K;clear l X ab K;obtain ⟨k,an⟩:∃k,k=wr:=⟨_,rfl⟩;subst an;go_wp2_with fail;go_loopw [5,6] (fun G x wr=>∃c f j:Nat,c<=f/\f<=a/\G=.int .i64 (c:Int)/\x=.int .i64 (f:Int)/\(∀g (n:g < d.length),g < c->sufLt (aF t) d[g] i)/\(∀g (n:g < d.length),f<=g->¬sufLt (aF t) d[g] i)/\wr=k.drewN j) (fun G x _=>(intOf x - intOf G).toNat)
    case atStart=>exact ⟨0,a,0,by omega,by omega,rfl,rfl,fun g n y=>by omega,fun g n y=>by have:=C.out;omega,rfl⟩
    case round=>
        obtain ⟨c,f,j,aG,I,rfl,rfl,V,y,rfl⟩:=hrel;obtain ⟨O,P⟩:=hqq2 V y;clear V y;by_cases ap:c < f
        · obtain ⟨e,a2⟩:=eqx ((c+f)/ 2);have aH:(c:Int) < (f:Int):=oM;have ay:IntKind.i64.wrap ((c:Int)+(f:Int))=(c:Int)+(f:Int):=(by rw [IntKind.wrap_i64];omega);have az:((c:Int)+(f:Int)).tdiv 2=(e:Int):=(by rw [<-a2];exact (Int.ofNat_tdiv (c+f) 2).symm);have aA:IntKind.i64.wrap (e:Int)=(e:Int):=(by rw [IntKind.wrap_i64];omega);have a6:e < a:=oM;have J:e < d.length:=(by rw [C.out];exact a6);obtain ⟨x,aN,aO,am,aC,aa,z⟩:=(F.out.rd.drewN j).get a6;subst am;rw [zAf,zAa J] at aa;cases aa;unfold sv at z;have ar:=v.out.mem (zBj J);obtain ⟨aw,L⟩:=eqx (d[e]);rw [L] at z ar;have S:=lhd L;have ax:=z;clear L z;have aJ:c<=e:=oM;have aI:e < f:=oM;clear a2;go_wp2_with fail;refine (aIt t aw i b _ ag.out oM (by have:=m.out;omega) (by have:=m.out;omega) oM).mono ?_;rintro ak ad ⟨au,rfl,a8,ac,rfl⟩;have R:=lhd a8;clear a8;cases au with
          | true=>
            go_wp2_with fail;go_roundw
            case rel=>refine ⟨e+1,f,j+ac,by omega,I,by go_num,rfl,fun g n ao=>?_,P.out,rfl⟩;have s:sufLt (aF t) d[e] i:=(by rw [S.out];exact R.out.1 (by first | rfl | trivial));rcases zBe g e with q | q;exact (v.out.rel q J).trans s;obtain rfl:g=e:=oM;exact s
            case measure=>simp [intOf];omega
          | false=>
            go_wp2_with fail;go_roundw
            case rel=>refine ⟨c,e,j+ac,by omega,by omega,rfl,by go_num,O.out,fun g n ao W=>?_,rfl⟩;have s:¬sufLt (aF t) d[e] i:=(by rw [S.out];intro al;have:=R.out.2 al;cases this);rcases zBe e g with q | q;exact s ((v.out.rel q n).trans W);obtain rfl:g=e:=oM;exact s W
            case measure=>simp [intOf];omega
        · obtain rfl:c=f:=oM;have a7:=v.out.put (by rw [E.out];have:=m.out;omega) (by rw [E.out];have:=m.out;omega) (by rw [C.out];exact I) O.out P.out;have ah:=lhd a7;have H:Below k.heap.size k (k.drewN j):=below_drewN bR j;have a4:=F.out.below H;obtain ⟨Q,D⟩:=hqq2 a4 H;clear a7 a4 H ap;go_wp2_with fail;refine (aKZ o a p c i (k.drewN j).heap.size d (k.drewN j) Q.out.rd nL Q.out.cap I oM).mono ?_;rintro ak ad ⟨N,U,rfl,r,Z⟩;have a0:=u.out.trans ((D.out.trans (Z.mono D.out.size)).mono u.out.size);have a3:Made ad w.heap.size 3 1 N (a+1) U ((d.take c++i::d.drop c).map sv):=⟨bZ r.own (zAk u.out.size D.out.size),r.rd,r.cap,r.max⟩;obtain ⟨ae,af⟩:=hqq2 a0 a3;clear a0 a3 r Z;have aB:IntKind.i64.wrap ((i:Int) - 1)=(b:Int) -((a+1:Nat):Int):=(by rw [IntKind.wrap_i64];have:=aj.out;omega);go_wp2_with fail;go_roundw
          case rel=>exact ⟨a+1,_,N,U,by omega,rfl,rfl,by rw [show b+1 -(a+1)=i by have:=m.out;omega];exact ah.out,af.out,ae.out⟩
          case measure=>have:=m.out;simp [intOf];omega
  · obtain rfl:a=b+1:=oM;have aE:¬(0:Int)<=(b:Int) -((b+1:Nat):Int):=oM
    have a9:IsSuf (aF t) d:=⟨by
        have:=l.perm;rw [show b+1 -(b+1)=0 by omega] at this;rw [E.out,List.range_eq_range'];exact this,l.sorted⟩
    have ai:=lhd a9;clear a9 l aq;go_wp2_with fail;go_ret;exact ⟨o,p,d,rfl,ai.out,F.out,u.out⟩
def vM (w:World) (B:Nat) (own:Nat->Nat) (gs most rate:Nat) (T:List UInt8) (g l:Int) (i:List UInt8) (m:List Nat) (e f:Nat) (j:Ending) (w':World):Prop:=
 ∃a c b d own' k,j=.returned (.agg #[.int .i64 g,.int .i64 l,.slice a e c,.slice b f d])/\StAt w' B own' gs k most rate T/\LFS B gs w w' own own'/\MadeZ w' own' gs 5 a e c (i.map bv)/\MadeZ w' own' gs 3 b f d (m.map nv)
theorem StDone.v {w w':World} {B gs most rate:Nat} {own:Nat->Nat} {T:List UInt8} {j o:Int} {e:List UInt8} {i:List Nat} {m n:Nat} {l:Ending} (F:gs < w.heap.size) (u:e.length=m) (x:i.length=n) (z:StDone w B own gs most rate T ⟨j,o,e,i⟩ l w'):vM w B own gs most rate T j o e i m n l w':=by
 subst u x;obtain ⟨p,r,q,s,own',y,rfl,A,C,b,c,D,E⟩:=z;refine ⟨p,r,q,s,own',y,rfl,A,C,⟨⟨bZ b.own (zAp _),b.rd,b.cap,b.max⟩,fun a d=>?_⟩,⟨⟨bZ c.own (zAp _),c.rd,c.cap,c.max⟩,fun a d=>?_⟩⟩;have f:=D a d;subst d;have g:=b.own.lt (k:=a.block) rfl;exact ⟨g.2,f,by omega⟩;have f:=E a d;subst d;have g:=c.own.lt (k:=a.block) rfl;exact ⟨g.2,f,by omega⟩
def Kp (w:World) (own:Nat->Nat) (gs a:Nat) (t:TypeId) (b:Array Value):Prop:=Bk w a t b/\Ap own gs a
theorem Kp.step {w w':World} {B gs c:Nat} {own own':Nat->Nat} {t:TypeId} {b:Array Value} (a:Kp w own gs c t b) (d:LFS B gs w w' own own') (e:t≠202) (f:t≠154):Kp w' own' gs c t b:=⟨d.bk a.1 a.2.col a.2.ne e f,a.2.step d a.1.lt⟩
theorem Kp.new {a:World} {B gs gl most rate:Nat} {own:Nat->Nat} {d:List UInt8} (c:StAt a B own gs gl most rate d) (t:TypeId) (b:Array Value):Kp (a.alloc (.cells b t)) own gs a.heap.size t b:=⟨Bk.new a t b,c.fresh nL,by have:=c.blk.lt;omega⟩
def fZ (w:World) (B:Nat) (d:List Nat) (c:Nat) (e:Ending) (w':World):Prop:=∃a b,e=.returned (.slice a c b)/\Made w' w.heap.size 3 1 a c b (d.map sv)/\VB B w w'
theorem aHE:(prog.info? 122).map (fun a=>(a.zero.map (·.cells.size),a.size,a.bytes))=some (some 4,4,32):=by kernel_rfl
theorem aF9:∃b c,prog.info? 122=some b/\b.zero=some c/\b.size=4/\b.bytes=32/\c.cells.size=4:=by
 have a:=aHE;cases e:prog.info? 122 with
 | none=>rw [e] at a;cases a
 | some b=>
   rw [e] at a;cases d:b.zero with
   | none=>simp [d] at a
   | some c=>
     simp [d] at a;exact ⟨b,c,rfl,d,a.2.1,a.2.2,a.1⟩
theorem aKo (b:List Nat) (a:Nat):(shA b a).length+1<=2 ^ a:=by
 induction a with
 | zero=>exact zAs _
 | succ a c=>
   have:=aA1 b a (2 ^ a);unfold shA;rw [zAi,Nat.pow_succ];omega
def mQ (w:World) (a:List Shp) (c:Ending) (w':World):Prop:=∃b,c=.returned b/\w'.ownsRow w.heap.size 122 4 b a.length (cE a)/\Below w.heap.size w w'
theorem xT (B f:Nat) (own:Nat->Nat) (b:List Nat) (w:World) (q:WaveE w B own f b):
 Calls prog 129 #[f] w (mQ w (shA b 9)):=by
 obtain ⟨bm,br,bc,bi,bj,bk,bl⟩:=aF9;obtain ⟨e,bn,q⟩:=q;have aD:=q.rows;have d:=q.blk;obtain ⟨M,ah,ai,aj,ak,al,am,an,ao,b5,b4⟩:=bI e (b.length:Int) bn;have bu:w.cell? ⟨f,0,none⟩=some (e 0):=(d.cell 0).trans M;have bv:w.cell? ⟨f,1,none⟩=some (e 1):=(d.cell 1).trans ah;have bw:w.cell? ⟨f,2,none⟩=some (e 2):=(d.cell 2).trans ai;have bx:w.cell? ⟨f,3,none⟩=some (e 3):=(d.cell 3).trans aj;have bz:w.cell? ⟨f,4,none⟩=some (e 4):=(d.cell 4).trans ak;have bA:w.cell? ⟨f,5,none⟩=some (e 5):=(d.cell 5).trans al;have bB:w.cell? ⟨f,6,none⟩=some (e 6):=(d.cell 6).trans am;have bC:w.cell? ⟨f,7,none⟩=some (e 7):=(d.cell 7).trans an;have bD:w.cell? ⟨f,8,none⟩=some (e 8):=(d.cell 8).trans ao;have aW:=lhd aD;clear aD d q M ah ai aj ak al am an ao b5 b4;unfold mQ;go_enter func129,ntmps129;go_wp2_with fail;go_loopw [3,14] (fun ab l wr=>∃a:Nat,a<=9/\l=.int .i64 (a:Int)/\wr.ownsRow w.heap.size 122 4 ab (shA b a).length (cE (shA b a))/\Below w.heap.size w wr) (fun _ l _=>9 -(intOf l).toNat)
 case atStart=>exact ⟨0,by omega,rfl,World.ownsRow_nil _ _ _ _,Below.refl _ _⟩
 case round=>
  obtain ⟨a,bK,rfl,a3,d⟩:=hrel;by_cases av:a < 9
  · have bd:=ix9 e a av;obtain ⟨ac,s,_,aa⟩:=aW.out a av;obtain ⟨j,o⟩:=eqx (2 ^ a);have bL:j<=512:=(by rw [<-o];exact zAk (zBp dC (by omega:a<=9)) dC);have bf:0 < j:=(by rw [<-o];exact Nat.pow_pos dC);rw [o] at s aa;obtain ⟨O,bE,ap,bM,bJ⟩:=World.ownsRow.form s bf;rw [ap] at bd s;have a6:=aKo b a;rw [o] at a6;obtain ⟨aU,aN,b0,b2,aT,aY⟩:=hqq6 a3 d s aa o a6;clear a3 d s aa ap o a6;go_wp2_with fail;have bb:decide ((a:Int) < 9)=true:=zBz oM;rw [bb];go_loopw [3,19] (fun ab l aJ=>∃c:Nat,c<=j/\l=.int .i64 (c:Int)/\aJ.ownsRow w.heap.size 122 4 ab (shA b a++shL b a c).length (cE (shA b a++shL b a c))/\Below w.heap.size w aJ) (fun _ l _=>j -(intOf l).toNat)
    case atStart=>exact ⟨0,zAp _,rfl,by rw [show shA b a++shL b a 0=shA b a from List.append_nil _];exact aU.out,aN.out⟩
    case round=>
        obtain ⟨c,bN,rfl,E,m⟩:=hrel;have bh:=m.size;by_cases aC:c < j
        · have bO:(c:Int) < (j:Int):=oM;have F:=aS b0.out m;obtain ⟨aG,aH,aI⟩:=fF ac a j c aC;have b3:wr.cell? ⟨O,c*3,none⟩=_:=(World.ownsRow.cellAt F (c*3) oM).trans aG;have bs:wr.cell? ⟨O,c*3+1,none⟩=_:=(World.ownsRow.cellAt F (c*3+1) oM).trans aH;have bt:wr.cell? ⟨O,c*3+2,none⟩=_:=(World.ownsRow.cellAt F (c*3+2) oM).trans aI;obtain ⟨y,Y⟩:=eqx (ac c);rw [Y] at b3;have a8:=b2.out c aC;rw [Y] at a8;obtain ⟨L,A⟩:=eqx (wr.alloc (.cells #[.pointer (some ⟨y,0,none⟩),(a:Int),(c:Int)] 157));obtain ⟨b7,Z⟩:=eqx wr.heap.size;have V:Below wr.heap.size wr L:=(by rw [<-A];exact bR.alloc nL _);have D:Bk L b7 157 #[.pointer (some ⟨y,0,none⟩),(a:Int),(c:Int)]:=(by rw [<-A,<-Z];exact Bk.new _ _ _);have Q:=m.trans (V.mono bh);have G:=a8.vis (Vis.of_below Q);have ay:=aS E V;obtain ⟨i,W⟩:=eqx (aK b a c);rw [W] at G;have g:shL b a (c+1)=shL b a c++if i= [] then [] else [shO i]:=(by rw [<-W];rfl);have a0:=eP y i L G.at
          have M:=D.cell 0;have ba:=D.lt;obtain ⟨k,a1⟩:=eqx i.length;rw [a1] at a0;obtain ⟨aR,b1,aV,ad,aM,aQ,ae,u,aP⟩:=hqq9 a0 G ay Q A Z g a1 D;clear a0 G a8 E ay m Q V A Z g a1 F aG aH aI D Y W;go_wp2_with fail;rw [aM.out]
          try rw [aQ.out]
          refine aR.out.mono ?_;rintro N bp ⟨rfl,n⟩;have C:=ad.out.trans (n.mono ad.out.size);have a9:=b1.out.vis (Vis.of_below n);have r:=aS aV.out n;have X:=aP.out.below n ba;have b6:=X.cell 0;by_cases a2:k=0
          · subst a2;have b9:i= []:=zCx.1 u.out;have g:=ae.out;rw [zBx b9,List.append_nil] at g;obtain ⟨x,p,v⟩:=hqq3 r C g;clear r C g a9 X b6 n;go_wp2_with fail;go_roundw
            case rel=>exact ⟨c+1,by omega,by go_num,by rw [v.out];exact x.out,p.out⟩
            case measure=>first |(simp [intOf];omega)| simp [intOf]
          · have ax:i≠ []:=fun N=>a2 (by rw [<-u.out,N];rfl);have g:=ae.out;rw [zBw ax] at g;have bF:decide ((k:Int) > 0)=true:=zBz oM;have bG:decide (0 < k)=true:=zBz oM;have a7:=zJ _ y i bp a9 ax;have aF:(shO i).val=.agg #[(k:Int),.int .i64 0,.int .i64 1,.int .i64 1]:=(by rw [<-u.out];rfl);have aE:(shO i).cells= [.int .i64 (k:Int),.int .i64 0,.int .i64 1,.int .i64 1]:=(by rw [<-u.out];rfl);rw [aF] at a7;obtain ⟨K,z⟩:=eqx ((shA b a++shL b a c).length);have bH:K<=1024:=(by have:=aA1 b a c;have:=aY.out;rw [<-z,zAi];omega);rw [z] at r;obtain ⟨x,p,v,ag,aZ,aL⟩:=hqq6 r C g a7 aE z;clear r C g a9 X n a7 aF aE z a2;go_wp2_with fail;refine ag.out.mono ?_;rintro N H ⟨rfl,R⟩;have S:=p.out.trans (R.mono p.out.size);have az:=aS x.out R;have P:Below H.heap.size H (H.alloc (.cells #[(k:Int),.int .i64 0,.int .i64 1,.int .i64 1] 122)):=bR.alloc nL _;have U:=S.trans (P.mono S.size);have aA:=aS az P;have a5:=U.size;obtain ⟨af,aO⟩:=hqq2 aA U;clear R S U az aA P ag x p;go_wp2_with (at_builtin;refine bY _ rfl (.tmp 27) (.tmp 31) _ rfl w.heap.size 122 bm br 4 32 underlying112 bc bi bj bk bl dC u3 K _ rfl af.out _ _ 1 1 _ rfl (wM (Bk.new H 122 #[(k:Int),.int .i64 0,.int .i64 1,.int .i64 1]) rfl) (by simp [Value.oneCell']) (by unfold maxLen;omega) oM a5 ?_;intro bo bq aB au b8);have aq:=aX aO.out af.out au a5;have aw:(shA b a++shL b a (c+1)).length=K+1:=(by rw [v.out,<-zCo,zAi,aL.out];rfl);have ar:cE (shA b a++shL b a (c+1))=cE (shA b a++shL b a c)++ [.int .i64 (k:Int),.int .i64 0,.int .i64 1,.int .i64 1]:=(by rw [v.out,<-zCo,aAZ];rw [<-aZ.out];simp [cE]);have I:=lhd aq;have J:=lhd (show bq.ownsRow w.heap.size 122 4 bo (shA b a++shL b a (c+1)).length (cE (shA b a++shL b a (c+1))) by rw [aw,ar];exact aB);clear aq aB au b8 aw ar a5;go_roundw
            case rel=>exact ⟨c+1,by omega,by go_num,J.out,I.out⟩
            case measure=>first |(simp [intOf];omega)| simp [intOf]
        · have bg:c=j:=oM;subst bg;have a4:=E;rw [show shA b a++shL b a c=shA b (a+1) by rw [<-aT.out];rfl] at a4;obtain ⟨J,I⟩:=hqq2 a4 m;clear E a4 m;go_wp2_with fail;go_roundw
          case rel=>exact ⟨a+1,by omega,by go_num,J.out,I.out⟩
          case measure=>first |(simp [intOf];omega)| simp [intOf]
  · have be:a=9:=oM;subst be;go_wp2_with fail;go_ret;exact ⟨_,rfl,a3,d⟩
end
end Go.Proofs.YthldmddkfbijhaaGreatDoor
