/- Lemmas of the walk. Conditions: each its own. -/
import Derived.Test.YtcfpmjbojoidoaaGreatDoorPd19
import Derived.Test.YtcfpmjbojoidoaaGreatDoorProg
import Derived.Test.YtcfpmjbojoidoaaGreatDoorShl
import Derived.Test.YtcfpmjbojoidoaaGreatDoorShi
import Derived.Test.YtcfpmjbojoidoaaGreatDoorSht
set_option linter.all false
set_option maxRecDepth 100000
set_option maxHeartbeats 8000000
open Go.Proofs.Tryz
namespace Go.Proofs.YtcfpmjbojoidoaaGreatDoor
section
open Go.RowKit Go.Shelf
def WaveS.low {w:World} {B B':Nat} {own:Nat->Nat} {f:Nat} {d:Nat->Value} {c:Nat->List Nat} {i j:Int} (a:WaveS w B own f d c i j) (b:B'<=B):WaveS w B' own f d c i j:=by
 refine ⟨a.blk,⟨zAk b a.base.1,a.base.2⟩,fun p o=>?_,fun e g=>⟨zAk b (a.bnd e g).1,(a.bnd e g).2⟩⟩;obtain ⟨k,l,m,n⟩:=a.rows p o;exact ⟨k,bV l b,m,n⟩
def WalkE.low {w:World} {B B':Nat} {own:Nat->Nat} {gk:Nat} {a b:List Nat} (f:WalkE w B own gk a b) (m:B'<=B):WalkE w B' own gk a b:=by
 obtain ⟨e,d,g,i,⟨c,n,j⟩,k,l⟩:=f;exact ⟨e,d,g,i,⟨c,n,j.low m⟩,k,l⟩
def aGS (own:Nat->Nat) (b gk a:Nat):Nat:=if a=b then 2 else if a=gk then 2 else own a
def aCd (e:Option Addr) (d k B:Nat) (a:List Nat) (w:World) (C:Rd w B 1 e d (a.map sv)) (v:B<=w.heap.size) (I:d<=128) (x:∀L∈a,L < 257):
 Calls prog 51 #[.slice e d k] w fun l w'=>∃gk own,l=.returned (.pointer (some ⟨gk,0,none⟩))/\w.heap.size<=gk/\WalkE w' w.heap.size own gk a a/\Below w.heap.size w w':=by
 obtain ⟨o,n⟩:=hqq2 C x;clear C x;go_enter func51,ntmps51;go_wp2_with fail;refine (aAG e d k B a _ o.out v I n.out).mono ?_;rintro l w1 ⟨u,own,rfl,E,y⟩;obtain ⟨q,b⟩:=hqq2 E y;clear E y;go_wp2_with fail;refine (qL e d k B a w1 (o.out.below (b.out.mono v)) (by have:=b.out.size;omega) oM n.out).mono ?_;rintro l m ⟨f,rfl,P,D,g⟩;have F:=q.out.vis (Vis.of_below g);have z:=b.out.trans (g.mono b.out.size);obtain ⟨H,p,j,G⟩:=hqq4 F D z g.size;clear F D z g;go_wp2_with fail;go_ret;have K:=H.out.vis (w':=m.alloc (.cells #[u,f] 147)) ((Vis.refl _).alloc _);have A:=q.out.bnd;have R:=p.out.lt;have O:=b.out.size;have Q:=G.out;have J:=K.paint (own':=aGS own f m.heap.size) (fun c N M=>by
  have:=(A c oM).2;unfold aGS;rw [zBw oM,zBw oM]) (fun c i=>by
  unfold aGS at i;by_cases r:c=f;subst r;exact ⟨by omega,by simp;omega⟩
  · rw [zBw r] at i;by_cases s:c=m.heap.size;subst s;exact ⟨by omega,by simp⟩
    · rw [zBw s] at i;have:=A c i;exact ⟨this.1,by simp;omega⟩)
 refine ⟨_,_,rfl,j.out.size,⟨u,f,Bk.new _ _ _,?_,J,p.out.alloc _,?_⟩,j.out.alloc j.out.size _⟩
 · unfold aGS;rw [zBw oM,zBx rfl]
 · unfold aGS;rw [zBx rfl]
def aAH (c:Option Addr) (a f B:Nat) (t:List UInt8) (w:World) (j:Rd w B 1 c a (t.map bv)) (s:B<=w.heap.size) (z:a<=127):
 Calls prog 24 #[.slice c a f] w fun e w'=>∃gk b,IsSuf (aI t) b/\e=.returned (.pointer (some ⟨gk,0,none⟩))/\w.heap.size<=gk/\(∃own,WalkE w' w.heap.size own gk (aF (aI t) b) (aF (aI t) b))/\Below w.heap.size w w':=by
 have o:=lhd j;clear j;go_enter func24,ntmps24;go_wp2_with fail;refine (mK c a f B t _ o.out s oM).mono ?_;rintro e w1 ⟨b,m,r,k,rfl,i,g⟩;obtain ⟨p,n,d⟩:=hqq3 k i.rd g;clear k i g;go_wp2_with fail;refine (aCd m (a+1) r _ _ w1 n.out nL oM (cX (dR t))).mono ?_;rintro e A ⟨gk,own,rfl,y,l,u⟩;have v:=d.out.trans (u.mono d.out.size);have x:=d.out.size;have q:=lhd l;clear l;go_wp2_with fail;go_ret;exact ⟨gk,b,p.out,rfl,by omega,⟨own,q.out.low x⟩,v⟩
def LiveE.far0 {w w':World} {B:Nat} {own:Nat->Nat} {gl:Nat} {t:List UInt8} {rate:Nat} {f:Nat->Prop} (k:LiveE w B own gl t rate) (e:Keep f w w') (d:∀a,f a->own a=0):LiveE w' B own gl t rate:=by
 obtain ⟨gk,j,p,g,r,q,⟨l,b,m,n⟩,o⟩:=k;refine ⟨gk,j,p,g,r,q,⟨l,⟨e.bk b.blk fun c=>?_,b.col,b.walk.far e fun a c=>?_,b.perm.keep e fun a c i=>?_⟩,m,n⟩,o⟩;have:=d _ c;have:=b.col;omega;have:=d a c;omega;have:=d a i;omega
def LiveE.low {w:World} {B B':Nat} {own:Nat->Nat} {gl:Nat} {t:List UInt8} {rate:Nat} (d:LiveE w B own gl t rate) (j:B'<=B):LiveE w B' own gl t rate:=by
 obtain ⟨gk,c,k,b,m,l,⟨e,a,f,g⟩,i⟩:=d;exact ⟨gk,c,k,b,m,l,⟨e,⟨a.blk,a.col,a.walk.low j,a.perm⟩,f,g⟩,i⟩
def LiveE.tp {w:World} {B:Nat} {own:Nat->Nat} {gl:Nat} {t:List UInt8} {rate:Nat} (b:LiveE w B own gl t rate) (j:t.length<=127):TpAt w B gl t rate:=by
 obtain ⟨gk,a,o,m,l,k,⟨c,d,e,f⟩,i,n⟩:=b;exact ⟨l,gk,a,k,c,d.g e,f,i,j⟩
open Classical in
noncomputable def ownL (own:Nat->Nat) (c b:Nat) (d e f:Value) (gl a:Nat):Nat:=if PF c b d e f a then 1 else if a=gl then 3 else own a
def PermAt.low {w:World} {B g f:Nat} {l m n k:Value} {d c:Nat} {i:List Nat} {b:List (Nat×Nat)} {j:List Bool} {e:List Nat} (a:PermAt w B g f l m n k d c i b j e):PermAt w 0 g f l m n k d c i b j e:=
 ⟨a.blk,bV a.lrow (zAp _),bV a.orow (zAp _),a.ar,bV a.trow (zAp _),bV a.frow (zAp _),a.apart,a.lt,⟨zAp _,zAp _⟩⟩
def aC5 (a:List (Nat×Nat)):(List.range a.length).map (fun b=>(aB a b,aG a b))=a:=(sM a).symm
def aGu {d:List Nat} {rate c b:Nat} (e:∃a,d[a]?=some b/\a < c) (i:b % rate=0):Smp (cK d rate c) b:=by
 obtain ⟨a,f,g⟩:=e;exact ⟨(a,b),(aGw _ _ _ _ _).2 ⟨g,by rw [zAb,f];rfl,i⟩,rfl⟩
def aGv {t:List UInt8} {c:List Nat} {rate:Nat} (b:IsSuf (aI t) c) (q:1<=rate):zM (Smp (cK c rate (t.length+1))) rate t.length:=fun l ⟨m,j,d⟩ o=>by
 obtain ⟨n,a⟩:=m;have g:=(aGw _ _ _ _ _).1 j;have e:a=l:=d;subst e;refine ⟨a+rate,aGu ?_ (by rw [Nat.add_mod_right];exact g.2.2),by omega,zAs _⟩;obtain ⟨k,i,f⟩:=b.row (p:=a+rate) (by rw [aO];omega);refine ⟨k,by rw [zAa i,f],?_⟩;have:=b.len;rw [aO] at this;omega
def aFf {w wr:World} {v w2s u:Nat} {own:Nat->Nat} {gl gk e f rate k:Nat} {g i j:Value} {t:List UInt8} {c:List Nat} {o:List Bool} (L:t.length=k) (q:IsSuf (aI t) c) (P:1<=rate) (U:k<=127) (J:WalkE wr v own gk (aF (aI t) c) (aF (aI t) c)) (M:∀a,own a≠0->a < w2s) (T:gl=w2s) (R:w2s < u) (F:Bk wr gl 69 #[gk,e,(rate:Int),.int .i64 0])
 (l:PermAt wr u e f g i j (.slice none 0 0) (k+1) (k+1) (List.range (cK c rate (k+1)).length) (cK c rate (k+1)) o []) (I:o.length=(cK c rate (k+1)).length) (Q:∀a∈o,a=true) (S:v<=w2s):∃own',LiveE wr v own' gl t rate:=by
 subst L;have y:∀a,PF e f g i j a->u<=a/\a < wr.heap.size:=fun a b=>by refine ⟨l.foot b,?_⟩;rcases b with rfl | rfl | b | b | b;exact l.blk.lt;exact l.ar.lt;exact (l.lrow.lt _ b).2;exact (l.orow.lt _ b).2;exact (l.trow.lt _ b).2
 have p:∀a,PF e f g i j a->ownL own e f g i j gl a=1:=fun a b=>by unfold ownL;rw [zBx b]
 have N:ownL own e f g i j gl gl=3:=by unfold ownL;rw [zBw (fun d=>by have:=(y _ d).1;omega),zBx rfl]
 have O:∀a,a < w2s->ownL own e f g i j gl a=own a:=fun a b=>by unfold ownL;rw [zBw (fun d=>by have:=(y _ d).1;omega),zBw oM]
 have V:c.length=t.length+1:=by rw [q.len,aO]
 refine ⟨ownL own e f g i j gl,gk,e,0,_,c,cK c rate (t.length+1),⟨q,⟨F,N,J.paint (fun a _ D=>O a (M a oM)) (fun a r=>?_),⟨⟨f,g,i,j,.slice none 0 0,List.range (cK c rate (t.length+1)).length,cK c rate (t.length+1),o, [],?_,(aC5 _).symm⟩,pD _ _ _,fun z s=>?_⟩⟩,List.Perm.refl _,uE oM⟩,?_,aGv q P⟩;unfold ownL at r;by_cases A:PF e f g i j a;have:=y a A;exact ⟨by omega,this.2⟩;rw [zBw A] at r;by_cases C:a=gl;subst C;exact ⟨by omega,F.lt⟩;rw [zBw C] at r;exact J.bnd a r
 · have H:∀m,m < o.length->o[m]?=some true:=fun m G=>by rw [zAa G];congr 1;exact Q _ (zBj G)
   refine ⟨l.low,p _ (.inl rfl),p _ (.inr (.inl rfl)),fun a b=>p _ (.inr (.inr (.inl b))),fun a b=>p _ (.inr (.inr (.inr (.inl b)))),fun a b=>p _ (.inr (.inr (.inr (.inr b)))),fun a b=>(by cases b),List.nodup_range,I,fun m=>?_,List.nodup_nil,fun m=>?_,by have:=aGx c rate (t.length+1);omega⟩
   · rw [zCi,<-I];constructor
     · intro d;exact (zAc.1 d).1
     exact H m
   · constructor
     · intro d;cases d
     · intro d;have x:=H m (zAc.1 d).1;rw [x] at d;cases d
 have x:=mR s;have D:=uE (rs:=c) (rate:=rate) (n:=t.length+1) oM z s;have E:=q.lt (zAd D);rw [aO] at E;exact ⟨x.1,E⟩;obtain ⟨z,s,K⟩:=aE1 (rate:=rate) q;exact ⟨z,s,K⟩
def qW (rate:Nat) (Y:Option Addr) (S ap B:Nat) (T:List Sl) (t:List UInt8) (o:Nat) (bh:gE T=t) (K:t.length=o) (w:World) (aS:Rd w B 1 Y S (T.map slV)) (aV:∀ai∈T,Rd w B 1 ai.A ai.n (ai.l.map bv)) (bf:B<=w.heap.size) (bK:S<=1000000) (aM:o<=127) (bt:1<=rate) (bM:rate<=64):
 Calls prog 13 #[(rate:Int),.slice Y S ap] w fun m w'=>∃gl own,m=.returned (.tuple #[.pointer (some ⟨gl,0,none⟩),.int .i64 0])/\w.heap.size<=gl/\LiveE w' w.heap.size own gl t rate/\Below w.heap.size w w':=by
 have bi:=K;have aE:=lM Y S ap B T t o bh K w aS aV bf oM oM;have bN:¬((rate:Int) < 1):=oM;have bO:¬((rate:Int) > 64):=oM;clear aS aV;go_enter func13,ntmps13;go_wp2_with fail;refine aE.mono ?_;clear aE;rintro m w1 ⟨aj,aq,rfl,aJ,a7⟩;have bj:=a7;have aw:=aJ.rd;obtain ⟨Z,G⟩:=hqq2 aw a7;clear aJ a7 bj aw;go_wp2_with fail;refine (aAH aj o aq w1.heap.size t w1 Z.out nL aM).mono ?_;rintro m e ⟨gk,c,aW,rfl,bn,E,u⟩;have ax:=Z.out.below u;have aC:=G.out.trans (u.mono G.out.size);have y:=lhd aW;obtain ⟨bQ,E⟩:=E;have aP:=E.bnd;have b3:=lhd aP;clear aP;obtain ⟨b7,b1,H⟩:=hqq3 (E.low G.out.size) (ax.mono u.size) aC;clear aW E ax aC u Z G bn;go_wp2_with fail;obtain ⟨f,aN⟩:=eqx (o+1);have bq:(o:Int)+1=(f:Int):=oM;rw [bq];have N:=Bk.new e 69 #[gk,.pointer none,(rate:Int),.int .i64 0];have a9:Below e.heap.size e (e.alloc (.cells #[gk,.pointer none,(rate:Int),.int .i64 0] 69)):=bR.alloc nL _;obtain ⟨gl,M⟩:=eqx e.heap.size;rw [M] at N;rw [M];have I:=lhd M;generalize e.alloc (.cells #[gk,.pointer none,(rate:Int),.int .i64 0] 69)=w3 at N a9⊢;obtain ⟨J,a1,F⟩:=hqq3 N a9 aN;clear N a9 aN M;refine (aCs f w3 oM).mono ?_;rintro m X ⟨q,a4,rfl,aQ,a8⟩;have O:=J.out.below a8 J.out.lt;have ba:X.cell? ⟨gl,1,none⟩=some (.pointer none):=(O.cell 1).trans rfl;have bb:=O.frozen 1;obtain ⟨al,b5,b2⟩:=hqq3 O aQ a8;clear O aQ a8;go_wp2_with fail;have aF:=(Keep.refl (fun i=>i=gl) X).setCell (p:=⟨gl,1,none⟩) (.inl rfl) (.pointer (some q));have ae:=al.out.set 1 (.pointer (some q));have af:=b5.out.keep aF (fun i t b9 d k=>by
  subst d;have:=(aK k al.out).1;subst this;decide)
 have z:Below e.heap.size e (X.setCell ⟨gl,1,none⟩ (.pointer (some q))):=(a1.out.trans (b2.out.mono a1.out.size)).setCell (by rw [I.out];exact zAs _) _;have bI:=I.out;have b0:=lhd (show e.heap.size < w3.heap.size by have:=J.out.lt;omega);have bF:e.heap.size<=w3.heap.size:=a1.out.size;clear ba bb;generalize X.setCell ⟨gl,1,none⟩ (.pointer (some q))=w5 at ae af z⊢;have ag:=mJ aj o aq e.heap.size t w5 (b1.out.below z) z.size oM;rw [F.out] at ag;obtain ⟨a2,an,a0⟩:=hqq3 ae af z;clear aF ae af z;refine ag.mono ?_;clear ag;rintro m bA ⟨bu,ak,au,aX,rfl,aL,L⟩;obtain rfl:c=bu:=y.out.unique aX;have aI:c.length=f:=by rw [y.out.len,aO,K,F.out]
 have a:LvInv e w3.heap.size w5.heap.size gl gk q a4 f rate ak au c 0 (.slice none 0 0) (.slice none 0 0) (.slice none 0 0) [] bA:=
  ⟨an.out.below L,rfl,fun b8 _ k=>(by cases k),aL.own,a2.out.below L a2.out.lt,a0.out.trans (L.mono a0.out.size)⟩
 obtain ⟨am,g⟩:=hqq2 aI a;clear a aL L aX aI a2 an a0;go_wp2_with fail;go_loopw [8,9,36] (fun _ _ ah wr=>∃b:Nat,b<=f/\ah=.int .i64 b/\∃U V W v,LvInv e w3.heap.size w5.heap.size gl gk q a4 f rate ak au c b U V W v wr/\∀i∈v,i=true) (fun _ _ ah _=>f -(intOf ah).toNat)
 case atStart=>exact ⟨0,by omega,rfl,_,_,_,_,g.out,fun i k=>by cases k⟩
 case round=>
  clear g;obtain ⟨b,bJ,rfl,U,V,W,v,a,aY⟩:=hrel;have a3:=lhd aY;clear aY;by_cases P:b < f
  · have ad:b < c.length:=(by rw [am.out];exact P);obtain ⟨j,n⟩:∃j,c[b]?=some j:=⟨_,zAa ad⟩;have bs:j < f:=(by have:=y.out.lt (zAd n);rw [aO,K,F.out] at this;exact this);have aa:c.getD b 0=j:=(by rw [zAb,n];rfl);have aU:=Rd.of_own a.row;obtain ⟨i,bP,bS,be,aD,R,bl⟩:=aU.get P;rw [zAf,n] at R;injection R with R;subst R be;unfold sv at bl;have bD:=a.blk.cell 1;have bp:((j:Int)).tmod (rate:Int)=((j % rate:Nat):Int):=(by rw [Int.tmod_eq_emod_of_nonneg oM];simp);have bo:((j:Int))%(rate:Int)=((j % rate:Nat):Int):=(by simp);obtain ⟨aZ,Q⟩:=eqx (j % rate);rw [Q] at bp bo;have r:=aCZ c rate b;rw [aa,Q] at r;obtain ⟨bB,b4,bC,g,b6⟩:=hqq5 aa n Q a aD;clear aa n Q a aU ad aD;by_cases aR:aZ=0
    · subst aR;rw [zBx rfl] at r;have x:=lhd r;clear r;go_wp2_with fail;have ay:=aCu w3.heap.size q a4 U V W f f (List.range (cK c rate b).length) (cK c rate b) v b j wr g.out.perm (aBv (pD c rate b)) (fun s ab=>(mR (aBw (by simpa using ab))).1) (fun s ab m=>by
       have av:=mR (aBw (C:=cK c rate b) (by simpa using ab));have bc:aG (cK c rate b) s=c.getD (aB (cK c rate b) s) 0:=av.2;have bE:aB (cK c rate b) s < b:=av.1;have ad:b < c.length:=(by rw [am.out];exact P);have bd:c[aB (cK c rate b) s]?=c[b]?:=(by rw [b4.out,<-m,bc,zAb,zAa (show aB (cK c rate b) s < c.length by omega)];rfl);have:=(List.getElem?_inj (show aB (cK c rate b) s < c.length by omega) y.out.nodup).1 bd
       omega) P bs g.out.len (by
        have:(cK c rate b).length<=b:=(by unfold cK;rw [zBc];exact zAk (zCu _ _) (by simp));omega) (by
        have:(cK c rate b).length<=b:=(by unfold cK;rw [zBc];exact zAk (zCu _ _) (by simp));simp;omega) (by have:=g.out.perm.blk.lt;have:=g.out.perm.lo.1;omega)
      refine ay.mono ?_;clear ay;rintro m bT ⟨rfl,ac,bw,bx,bz,br,bm,bG,bH⟩;go_wp2_with fail;go_roundw
      case rel=>
       have a:=g.out;refine ⟨b+1,by omega,by go_num,bw,bx,bz,v++ [true],⟨?_,?_,?_,?_,?_,?_⟩,fun i k=>by rcases zCo.1 k with a5 | a5;exact a3.out i a5;exact List.mem_singleton.1 a5⟩;rw [x.out];simpa [List.range_succ] using br
       · rw [x.out];simp [a.len]
       exact a.apt.next2 bm (fun b8 a6=>by injection a6 with a6;subst a6;exact b6.out);refine aA a.row fun ao b9 az D=>ac.bk D (fun d=>?_);rcases d with d | d | d | d | d;subst d;exact Bk.ne D a.perm.blk dC rfl;subst d;exact Bk.ne D a.perm.ar dC rfl;exact aT a.perm.lrow D dC d.symm;have u:i=ao:=(by simpa [Value.ownBlock] using az);subst u;exact a.apt _ rfl d;exact aT a.perm.trow D dC d.symm;refine ac.bk a.blk (fun d=>?_);have:=a.perm.foot d;have:=J.out.lt;omega;exact a.below.trans (ac.to_below a.below.size (fun ao az d=>by have:=a.perm.foot d;omega))
      case measure=>simp [intOf];omega
    · rw [zBw aR] at r;have x:=lhd r;have bL:((aZ:Int)==0)=false:=(by simp;omega);clear r;go_wp2_with fail;go_roundw
      case rel=>have a:=g.out;exact ⟨b+1,by omega,by go_num,U,V,W,v,⟨by rw [x.out];exact a.perm,by rw [x.out];exact a.len,a.apt,a.row,a.blk,a.below⟩,a3.out⟩
      case measure=>simp [intOf];omega
  · obtain rfl:f=b:=oM;have g:=lhd a;clear a;go_wp2_with fail;go_ret2;have a:=g.out;have n:=a.perm;have aH:=a.len;rw [<-F.out] at n aH;obtain ⟨own',bg⟩:=aFf (w:=w) (w2s:=e.heap.size) bi y.out bt aM (b7.out.vis (Vis.of_below a.below)) (fun i k=>(b3.out i k).2) I.out.symm b0.out a.blk n aH a3.out H.out.size;exact ⟨gl,own',rfl,by have:=H.out.size;have:=I.out;omega,bg,H.out.trans (a.below.mono H.out.size)⟩
end
section
open Go.RowKit
def pY (most rate a:Nat):Array Value:=#[.int .i64 (most:Int),.int .i64 (rate:Int),.int .i64 (a:Int)]
def aBA {P:Program} {fn:Func} {a p b:Tmp} {ty:TypeId} (i:fn.results=#[.tmp a,.cell p ty,.tmp b]) (c:Array Value) (w:World) (e:Nat) (t:TypeId) (d:Array Value) (g:Nat×Nat) (f:TypeDesc)
 (m:c.getD p undef=.pointer (some e)) (k:w.heap[e]?=some (.cells d t g))
 (o:P.underlying ty=some f) (j:(match f with | .struct _ | .array _ _=>true | _=>false)=true) (l:(P.info? ty).map (·.size)=some d.size):
 (results fn c).run P w=.ok (.tuple #[c.getD a undef,.agg d,c.getD b undef]) w:=by
 have n:c[p]?.getD undef=.pointer (some e):=by simpa using m
 simp [results,i,n,asAddr,run_loadVar_row w e t ty d g f k o j l]
def wT (w:World) (t:List UInt8) (rate most:Nat) (a:Ending) (w':World):Prop:=
 ∃gl,a=.returned (.tuple #[.pointer (some ⟨gl,0,none⟩),.agg (pY most rate t.length),.int .i64 0])/\(∃own,LiveE w' w.heap.size own gl t rate)/\VB w.heap.size w w'
def aIt {w:World} {b:Nat} {t d:TypeId} {e f:Array Value} (c:Bk w b t e) (a:Bk w b d f):t=d:=by
 unfold Bk at c a;rw [c] at a;injection a with a;injection a with _ ht
def aG6 {w w':World} {c:Array Value} {e gl rate most d:Nat} {t:List UInt8} (m:c.getD 3 undef=.pointer (some e)) (j:c.getD 2 undef=.pointer (some ⟨gl,0,none⟩)) (k:c.getD 4 undef=.int .i64 0) (l:Bk w' e 129 (pY most rate d))
 (n:∃own,LiveE w' w.heap.size own gl t rate) (o:VB w.heap.size w w'):
 bodyPost prog f86 (fun i w'=>∃gl,i=.returned (.tuple #[.pointer (some ⟨gl,0,none⟩),.agg (pY most rate d),.int .i64 0])/\(∃own,LiveE w' w.heap.size own gl t rate)/\VB w.heap.size w w') .ret ⟨c, []⟩ w':=by
 have g:=aBA (P:=prog) (fn:=f86) (a:=2) (p:=3) (b:=4) (ty:=129) rfl c w' e 129 (pY most rate d) (0,0) _ m l underlying129 rfl kR;rw [j,k] at g;exact bodyPost_ret g rfl ⟨gl,rfl,n,o⟩
def aAN (e:Option Addr) (a s most rate:Nat) (t:List UInt8) (f:List Nat) (w:World) (H:IsSuf (aI t) f) (ci:t.length<=127) (cm:1<=rate) (cn:rate<=64) (d7:t.length<=most) (d8:most<=2147483648)
 (G:Rd w s 1 e (fA (aF (aI t) f) f most rate t.length).length ((fA (aF (aI t) f) f most rate t.length).map bv)) (K:s<=w.heap.size) (aY:(fA (aF (aI t) f) f most rate t.length).length<=a) (O:a<=maxLen):
 Calls prog 86 #[.slice e (fA (aF (aI t) f) f most rate t.length).length a] w (wT w t rate most):=by
 obtain ⟨j,M⟩:=eqx (aF (aI t) f);rw [M] at G aY⊢;have bb:=cX (rs:=f) (dR t);have ba:j.length=t.length+1:=by rw [<-M,bH,H.len,aO]
 rw [M] at bb;obtain ⟨b,aT⟩:=eqx t.length;unfold wT;rw [aT] at G aY ba d7 ci⊢;obtain ⟨l,ab⟩:=eqx (nR j f most rate b);obtain ⟨cw,cx,cy,cz,d,o,F⟩:=SnAt.of j f most rate b;rw [ab] at o F;have Q:fA j f most rate b=l++qD (mF l):=by unfold fA;rw [ab]
 have bp:(fA j f most rate b).length=d+4:=by rw [Q,zAi,F,qC]
 rw [bp] at G aY⊢;have dL:4<=d:=by have:=o.h1;have:=o.h2;have:=o.h3;have:=o.h4;have:=o.h5;omega
 have dE:¬(d+4 < 8):=oM;have dM:d<=10000:=by have a4:=o.h1;have aP:=o.h2;have a5:=o.h3;have d0:=o.h4;have d1:=o.h5;have cU:=cY most;have dv:=cY rate;have dw:=cY b;have dx:=cY (fM j).length;have dy:=cY (uD f rate b).length;have dz:=oK j;have cV:=pC f rate (b / rate+1);have dA:b / rate<=b:=Nat.div_le_self _ _;rw [<-tI] at cV;rw [iR] at d0 d1;omega
 have bm:=(G.cut_hi0 (k:=d) (cap:=a) oM);have c5:=aEw l;have cv:((fA j f most rate b).map bv).take (d*1)=l.map bv:=by rw [<-List.map_take,Q,zBl,List.take_left' F]
 rw [cv] at bm;have ah:=aId l [] (mF l) c5;rw [List.append_nil,<-Q,F] at ah;have aZ:∀(e V:Option Addr) (S a aM:Nat) (w:World),Rd w w.heap.size 1 e S (l.map bv)->S<=1099511627776->Rd w w.heap.size 1 V 1 [.slice e S a]->Calls prog 41 #[.slice V 1 aM] w fun i w'=>i=.returned (.int .u32 ((mF l:Nat):Int))/\Below w.heap.size w w':=fun e V S a aM w a4 aP a5=>sH e V S a aM l w a4 aP a5;obtain ⟨dq,cq⟩:=eqx (mF l);rw [cq] at ah aZ;have bA:=lhd aZ;clear aZ;obtain ⟨bP,bX,C,cL,a1,Y,u,bY,dt⟩:=hqq9 G bm o bb ba M aT H Q;obtain ⟨dr,cN,cM,cO⟩:=hqq4 ab F ah bp;clear G bm o bb ba M aT H Q ab F cv ah bp c5 cq;have dS:=aC0 (P:=prog) 34 5 1 underlying34 (fun w=>by kernel_rfl) e (d+4) a d oM;have cU:IntKind.i64.wrap (((d+4:Nat):Int) - 4)=(d:Int):=by rw [IntKind.wrap_i64];omega
 go_enter func86,ntmps86;go_wp2_with fail;obtain ⟨c,ad⟩:=eqx w.heap.size;have b4:Bk (w.alloc (.cells #[.int .i64 0,.int .i64 0,.int .i64 0] 129)) c 129 #[.int .i64 0,.int .i64 0,.int .i64 0]:=ad ▸ Bk.new _ _ _;have ac:Below w.heap.size w (w.alloc (.cells #[.int .i64 0,.int .i64 0,.int .i64 0] 129)):=bR.alloc nL _;have bo:(w.alloc (.cells #[.int .i64 0,.int .i64 0,.int .i64 0] 129)).heap.size=c+1:=by simp [ad]
 rw [ad] at ac K⊢;generalize w.alloc (.cells #[.int .i64 0,.int .i64 0,.int .i64 0] 129)=W0 at b4 ac bo⊢;obtain ⟨aG,Z⟩:=hqq2 b4 ac;clear b4 ac;refine (aJx e (d+4) a (fA j f most rate b) (d:Int) s W0 dq 0 cM.out (bP.out.below (Z.out.mono K)) (by unfold maxLen;omega)).mono ?_;rintro i w1 ⟨rfl,rfl⟩;go_wp2_with fail;have c2:=bX.out.below (Z.out.mono K);refine (bA.out (gJ e a 0 1) _ d a _ _ (((c2.mono (by omega:s<=W0.heap.size)).alloc nL _).mono (by simp)) oM (Rd.made' _ _ 1 1 _ _ rfl bo.symm)).mono ?_;rintro i ao ⟨rfl,c3⟩;have a7:=((Below.refl W0.heap.size W0).alloc nL (.cells #[.slice (gJ e a 0 1) d a] 34)).trans (c3.mono (by simp));have dd:=a7.size;obtain ⟨bx,bC⟩:=hqq2 (Z.out.trans (a7.mono oM)) (aG.out.below a7 aG.out.lt);clear c3 a7 Z aG c2;go_wp2_with fail;have co:∀x,Below c w x->Rd x s 1 (gJ e a 0 1) d (l.map bv):=fun x cZ=>bX.out.below (cZ.mono K);have y:=lhd co;obtain ⟨m,b3⟩:=eqx ao.heap.size;have ai:Bk (ao.alloc (.cells #[.slice (gJ e a 0 1) d a,.int .i64 4,.bool false] 183)) m 183 (aGH (gJ e a 0 1) d a 4):=b3 ▸ Bk.new _ _ _;have aW:=bx.out.alloc oM (.cells #[.slice (gJ e a 0 1) d a,.int .i64 4,.bool false] 183);have b5:=bC.out.alloc (.cells #[.slice (gJ e a 0 1) d a,.int .i64 4,.bool false] 183);have bq:m < (ao.alloc (.cells #[.slice (gJ e a 0 1) d a,.int .i64 4,.bool false] 183)).heap.size:=ai.lt;have dK:c < m:=oM;rw [b3];generalize ao.alloc (.cells #[.slice (gJ e a 0 1) d a,.int .i64 4,.bool false] 183)=W2 at ai aW b5 bq⊢;obtain ⟨bQ,aA,bD⟩:=hqq3 ai aW b5;have cc:∀(x bs:World),Below c w x->m < x.heap.size->Keep (fun n=>n=m) x bs->Below c w bs:=fun x bs a4 aP a5=>a4.trans (a5.to_below oM (fun n a6 i=>by omega));have D:=lhd cc;clear co b3 ai aW b5 cc bx bC bA dd bo;have E:d<=a:=oM;refine (lL m (gJ e a 0 1) d a s 4 cw most 2147483648 l W2 bQ.out (y.out _ aA.out) E O (C.out.n1 oM) oM oM).mono ?_;rintro i cC ⟨rfl,bh,b7⟩;obtain ⟨bS,aB,bE⟩:=hqq3 bh (D.out _ _ aA.out bq b7) (b7.bk bD.out oM);have cr:m < cC.heap.size:=bh.lt;clear bh b7 bQ aA bD bq;go_wp2_with fail;refine (lL m (gJ e a 0 1) d a s cw cx rate 64 l cC bS.out (y.out _ aB.out) E O (C.out.n2 oM) oM oM).mono ?_;rintro i cD ⟨rfl,bi,b8⟩;obtain ⟨bT,aC,bF⟩:=hqq3 bi (D.out _ _ aB.out cr b8) (b8.bk bE.out oM);have cs:m < cD.heap.size:=bi.lt;clear bi b8 bS aB bE cr;go_wp2_with fail;refine (lL m (gJ e a 0 1) d a s cx cy b 2147483648 l cD bT.out (y.out _ aC.out) E O (C.out.n3 oM) oM oM).mono ?_;rintro i ap ⟨rfl,bj,b9⟩;obtain ⟨bU,bz,bG⟩:=hqq3 bj (D.out _ _ aC.out cs b9) (b9.bk bF.out oM);have dg:m < ap.heap.size:=bj.lt;clear bj b9 bT aC bF cs;go_wp2_with fail;obtain ⟨gH,b1⟩:=eqx ap.heap.size;have aQ:Bk (ap.alloc (.cells #[(most:Int),(rate:Int),(b:Int)] 129)) gH 129 (pY most rate b):=b1 ▸ Bk.new _ _ _;have aX:=bz.out.alloc oM (.cells #[(most:Int),(rate:Int),(b:Int)] 129);have b6:=bG.out.alloc (.cells #[(most:Int),(rate:Int),(b:Int)] 129);have A:=bU.out.alloc (.cells #[(most:Int),(rate:Int),(b:Int)] 129);have dH:m < gH:=oM;rw [b1];generalize ap.alloc (.cells #[(most:Int),(rate:Int),(b:Int)] 129)=W5 at aQ aX b6 A⊢;have ct:m < W5.heap.size:=A.lt;obtain ⟨bt,aD,bI,bW⟩:=hqq4 aQ aX b6 A;clear b1 aQ aX b6 A bz bG bU dg;obtain ⟨am,ca⟩:=eqx ((fM j).length);obtain ⟨di,cb⟩:=eqx ((uD f rate b).length);have d4:=oK j;have d6:=pC f rate (b / rate+1);have d5:=aH2 f rate (b / rate+1);have dF:b / rate<=b:=Nat.div_le_self _ _;rw [<-tI,cb] at d6 d5;rw [ca,a1.out] at d4;obtain ⟨T,be,ck,bf,d9⟩:=C.out.f1 oM;obtain ⟨dl,bg,da,cl,db⟩:=C.out.f2 oM;rw [ca] at be ck bf;rw [cb] at bg da cl;rw [cN.out] at d9 db;refine (qR m (gJ e a 0 1) d a s cy T am cz l W5 bW.out (y.out _ aD.out) E O oM be ck oM).mono ?_;rintro i cE ⟨rfl,bl,af⟩;obtain ⟨bV,aE,bJ,bw⟩:=hqq4 bl (D.out _ _ aD.out ct af) (af.bk bI.out oM) (af.bk bt.out oM);have cu:m < cE.heap.size:=bl.lt;clear bl af bW aD bI bt ct;go_wp2_with fail;refine (qR m (gJ e a 0 1) d a s cz dl di d l cE bV.out (y.out _ aE.out) E O oM bg oM oM).mono ?_;rintro i I ⟨rfl,A,ag⟩;have cS:I.cell? ⟨m,2,none⟩=some (.bool false):=A.cell 2;obtain ⟨J,aK⟩:=hqq2 (D.out _ _ aE.out cu ag) (ag.bk bJ.out oM);have L:=ag.bk bw.out oM;have X:=lhd L;have a2:I.cell? gH=some (.int .i64 (most:Int)):=L.cell 0;have a3:I.cell? ⟨gH,1,none⟩=some (.int .i64 (rate:Int)):=L.cell 1;have bZ:I.cell? ⟨gH,2,none⟩=some (.int .i64 (b:Int)):=L.cell 2;clear A ag bV aE bJ bw cu L;have cA:¬((rate:Int) < 1):=oM;have dm:decide ((rate:Int) < 1)=false:=zBy cA;have cB:¬((b:Int) > (most:Int)):=oM;have dn:decide ((b:Int) > (most:Int))=false:=zBy cB;have dp:decide (most < b)=false:=zBy oM;go_wp2_with fail;have bn:=((y.out _ J.out).cut (k:=T) (cap:=a) oM E).cut_hi (k:=am) oM;have c7:((l.map bv).drop (T*1)).take (am*1)=(fM j).map bv:=by rw [zBl,zBl,<-List.map_drop,<-List.map_take,bf]
 rw [c7] at bn;have b2:=aAr (iK j) (aBh cL.out) (by rw [mP,a1.out];omega) ((b:Int)+1) (by rw [mP,a1.out];omega) [];rw [List.append_nil,zBx rfl] at b2;refine (aFQ (gJ (gJ e a 0 1) a T 1) am (a - T) s (fM j) ((b:Int)+1) I (iK j) (b+1) 0 b2 (by rw [mP,a1.out]) bn (by have:=J.out.size;omega) oM oM oM oM).mono ?_;rintro i cF ⟨cH,cR,rfl,cg,a8⟩;have bc:=cg.rd;rw [<-aIG] at bc;have aV:=wO cH cR cF.heap.size t f cF bY.out (by rw [Y.out,u.out];exact bc) nL (by rw [u.out];omega);rw [u.out] at aV;have d2:gH < I.heap.size:=X.out.lt;have aw:=lhd (J.out.trans (a8.mono (by have:=J.out.size;omega)));obtain ⟨aH,ar⟩:=hqq2 (aK.out.below a8 aK.out.lt) (X.out.below a8 X.out.lt);clear cg a8 bc b2 c7 bn a2 a3 bZ cS cA dm cB dn dp be bg bf cl X aK J y D C d2;go_wp2_with fail;refine aV.mono ?_;clear aV;rintro i r ⟨aq,aL,rfl,ch,a9⟩;have aR:=ar.out.below a9 ar.out.lt;have ax:=lhd (aw.out.trans (a9.mono (by have:=aw.out.size;omega)));obtain ⟨a0,W,bO⟩:=hqq3 (aH.out.below a9 aH.out.lt) aR ch.rd;have a3:r.cell? ⟨gH,1,none⟩=some (.int .i64 (rate:Int)):=aR.cell 1;clear a9 ch aR aw aH ar;go_wp2_with fail
 have cj:=qW rate (some ⟨r.heap.size,0,none⟩) 1 1 (r.heap.size+1) [(⟨aq,b,aL,t⟩:Sl)] t b (by simp [gE]) u.out (r.alloc (.cells #[.slice aq b aL] 34)) ((Rd.made r _ 1 1 _ rfl).mono (by simp)) (by
  intro dU H;simp at H;subst H;exact (bO.out.alloc nL _).mono oM) (by simp) oM ci cm cn
 refine cj.mono ?_;clear cj;rintro i an ⟨gl,dj,rfl,d3,z,aU⟩;have bN:=lhd z;obtain ⟨gk,cW,dT,du,br,dk,R,_,_⟩:=z;have aj:=R.suf;have cp:=R.right;have dc:=aj.unique bY.out;subst dc;have z:=R.live.g R.tal;rw [Y.out,u.out] at z;have aa:=((Below.refl r.heap.size r).alloc nL (.cells #[.slice aq b aL] 34)).trans (aU.mono (by simp));have aS:=W.out.below aa W.out.lt;have ay:=lhd (ax.out.trans (aa.mono (by have:=ax.out.size;omega)));obtain ⟨bB,bu⟩:=hqq2 (a0.out.below aa a0.out.lt) aS;have a2:an.cell? gH=some (.int .i64 (most:Int)):=aS.cell 0;have dJ:gH < r.heap.size:=W.out.lt;have dI:c < r.heap.size:=a0.out.lt;have bK:=bN;have ds:=lhd aj;rw [World.size_alloc] at z;have de:r.heap.size+1<=an.heap.size:=by have:=aU.size;simpa using this
 have ak:=qP (r.heap.size+1) gl gk cW rate most t br dk an (by rw [Y.out,u.out];exact z) cp aj (by rw [u.out];omega) cm cn (by rw [u.out];omega) d8;unfold gG at ak;rw [Y.out,u.out,cO.out] at ak;have dG:=ay.out.size;clear z aj R cp bN aU aa aS a3 ax a0 W bO d3;go_wp2_with fail;refine ak.mono ?_;clear ak;rintro i U ⟨cG,cQ,rfl,cf,al⟩;have ae:Below (r.heap.size+1) an U:=al.2.to_below de (fun n a6 i=>by omega);have dN:=al.1.size;have c0:Bk U gH 129 (pY most rate b):=bu.out.below ae oM;have c8:Bk U c 129 #[.int .i64 0,.int .i64 0,.int .i64 0]:=bB.out.below ae oM;have az:=lhd (ay.out.trans (ae.mono oM));have b0:=xA cG e (d+4) (d+4) cQ a U.heap.size (fA j br most rate b) (fA j br most rate b) U cf.rd ((bP.out.below (az.out.mono K)).mono oM);rw [beq_self_eq_true] at b0;obtain ⟨au,aJ,bL⟩:=hqq3 c0 c8 (bK.out.vis al.1);clear cf al ae c0 c8 ay bB bu a2 bK;go_wp2_with fail;refine b0.mono ?_;clear b0;rintro i q ⟨rfl,N⟩;have c1:=au.out.below N au.out.lt;have c9:=aJ.out.below N aJ.out.lt;obtain ⟨cJ,bM,av,v⟩:=hqq4 (az.out.trans (N.mono oM)) (bL.out.vis (Vis.of_below N)) c1 c9;clear N c1 c9 az au aJ bL;go_wp2_with fail;have a2:q.cell? gH=some (.int .i64 (most:Int)):=av.out.cell 0;have a3:q.cell? ⟨gH,1,none⟩=some (.int .i64 (rate:Int)):=av.out.cell 1;have bZ:q.cell? ⟨gH,2,none⟩=some (.int .i64 (b:Int)):=av.out.cell 2;have dO:q.cell? c=some (.int .i64 0):=v.out.cell 0;have dP:q.cell? ⟨c,1,none⟩=some (.int .i64 0):=v.out.cell 1;have dQ:q.cell? ⟨c,2,none⟩=some (.int .i64 0):=v.out.cell 2;have dB:=v.out.frozen 0;have dC:=v.out.frozen 1;have dD:=v.out.frozen 2;have c6:Bk ((((q.setCell c (.int .i64 (most:Int))).setCell ⟨c,1,none⟩ (.int .i64 (rate:Int))).setCell ⟨c,2,none⟩ (.int .i64 (b:Int))).drew) c 129 (pY most rate b):=by have:=(((v.out.set 0 (.int .i64 (most:Int))).set 1 (.int .i64 (rate:Int))).set 2 (.int .i64 (b:Int))).drew;simpa [pY] using this
 have c4:Below c w ((((q.setCell c (.int .i64 (most:Int))).setCell ⟨c,1,none⟩ (.int .i64 (rate:Int))).setCell ⟨c,2,none⟩ (.int .i64 (b:Int))).drew):=
  (((cJ.out.setCell (p:=c) nL _).setCell (p:=⟨c,1,none⟩) nL _).setCell (p:=⟨c,2,none⟩) nL _).drew
 have df:∀n t aN,t≠129->Bk q n t aN->Bk ((((q.setCell c (.int .i64 (most:Int))).setCell ⟨c,1,none⟩ (.int .i64 (rate:Int))).setCell ⟨c,2,none⟩ (.int .i64 (b:Int))).drew) n t aN:=fun n t aN dh a6=>by
  have bd:n≠c:=fun i=>by subst i;exact dh (aIt a6 v.out)
  exact (((a6.far (p:=c) bd _).far (p:=⟨c,1,none⟩) bd _).far (p:=⟨c,2,none⟩) bd _).drew
 have cd:Keep (fun n=>n=c) q ((((q.setCell c (.int .i64 (most:Int))).setCell ⟨c,1,none⟩ (.int .i64 (rate:Int))).setCell ⟨c,2,none⟩ (.int .i64 (b:Int))).drew):=
  (((((Keep.refl (fun n=>n=c) q).setCell (p:=c) (.inl rfl) _).setCell (p:=⟨c,1,none⟩) (.inl rfl) _).setCell (p:=⟨c,2,none⟩) (.inl rfl) _)).drew
 have ce:=(bM.out.far0 cd fun n i=>by
  have cT:n=c:=i;subst cT;by_cases a:dj n=0;exact a
  · have:=(bM.out.bnd n a).1;rw [World.size_alloc] at this;omega).low (B':=c) (by rw [World.size_alloc];omega)
 obtain ⟨cK,cI,cP⟩:=hqq3 c6 c4 ce;clear c6 c4 df ce cd
 go_region
 go_wp2_with fail;subst ad;refine aG6 rfl rfl rfl cK.out ⟨_,cP.out⟩ (VisK.of_below cI.out)
end
section
open Go.RowKit
open Classical in
def VisF.split {d:Nat->Prop} {w w':World} (f:VisF d w w'):∃w1,Keep d w w1/\Vis w1 w':=by
 let c:Array Obj:=Array.ofFn (n:=w'.heap.size) fun k=>if g:k.val < w.heap.size/\¬d k.val then w.heap[k.val]'g.1 else w'.heap[k.val]
 have x:c.size=w'.heap.size:=Array.size_ofFn;have q:∀a,a < w'.heap.size->c[a]?=if a < w.heap.size/\¬d a then w.heap[a]? else w'.heap[a]?:=fun a g=>by
  rw [zAq oM,Array.getElem_ofFn];by_cases b:a < w.heap.size/\¬d a
  · rw [zBx b,dif_pos b,zAq b.1]
  · rw [zBw b,dif_neg b,zAq g]
 refine ⟨{ w' with heap:=c },⟨f.os,f.tape,f.output,?_,fun j r v=>?_⟩,⟨rfl,rfl,rfl,?_,fun a g _=>?_⟩⟩;show w.heap.size<=c.size;rw [x];exact f.size
 · show c[j]?=w.heap[j]?;rw [q j (zAl r f.size),zBx ⟨r,v⟩]
 show c.size<=w'.heap.size;omega;have u:a < w'.heap.size:=(by have:a < c.size:=g;omega);have i:({ w' with heap:=c }:World).heap[a]?=if a < w.heap.size/\¬d a then w.heap[a]? else w'.heap[a]?:=q a u;by_cases b:a < w.heap.size/\¬d a;rw [zBx b] at i;have p:∀t e,Bk w a t e->Bk { w' with heap:=c } a t e:=fun t e j=>i.trans j;rcases f.block a b.1 b.2 with s |⟨e,o,l,m⟩|⟨e,o,l,m⟩;exact .inl (by rw [i];exact s);exact .inr (.inl ⟨e,o,p _ _ l,m⟩);exact .inr (.inr ⟨e,o,p _ _ l,m⟩);rw [zBw b] at i;exact .inl i.symm
def LiveE.visF {w w':World} {B:Nat} {own:Nat->Nat} {gl:Nat} {t:List UInt8} {rate:Nat} {a:Nat->Prop} (c:LiveE w B own gl t rate) (g:VisF a w w') (f:∀b,a b->own b=0):LiveE w' B own gl t rate:=by
 obtain ⟨w1,d,e⟩:=g.split;exact (c.far0 d f).vis e
end
section
open Go.RowKit
structure StAt (w:World) (B:Nat) (own:Nat->Nat) (gs gl most rate:Nat) (t:List UInt8):Prop where
 blk:Bk w gs 47 #[gl,(most:Int)]
 low:B<=gs
 col:own gs=0
 live:LiveE w B own gl t rate
 n127:t.length<=127
 len:t.length<=most
 max:most<=2147483648
 r1:1<=rate
 r2:rate<=64
section
variable {w w' : World} {B gs gl most rate : Nat} {own own' : Nat -> Nat} {t : List UInt8}
def StAt.tp (a:StAt w B own gs gl most rate t):TpAt w B gl t rate:=a.live.tp a.n127
def StAt.vb (a:StAt w B own gs gl most rate t) (b:Vis w w'):StAt w' B own gs gl most rate t:=
 ⟨b.bk a.blk dC dC,a.low,a.col,a.live.vis b,a.n127,a.len,a.max,a.r1,a.r2⟩
def StAt.size (a:StAt w B own gs gl most rate t):B<=w.heap.size:=by have:=a.low;have:=a.blk.lt;omega
def StAt.fresh (b:StAt w B own gs gl most rate t) {a:Nat} (d:w.heap.size<=a):own a=0:=Nat.eq_zero_of_not_pos fun c=>by have:=(b.live.bnd a oM).2;omega
def StAt.llen {a:Nat} (c:StAt w B own gs gl most rate t) (d:t.length=a):Calls prog 35 #[gl] w fun b w'=>b=.returned (.int .i64 (a:Int))/\w=w':=by
 obtain ⟨m,gk,g,l,f,e,j,k,i⟩:=c.tp;exact bL B gl _ a w e.lvw (by rw [bH,f.len,aO,d]) oM
end
structure LFS (B gs:Nat) (w w':World) (own own':Nat->Nat):Prop where
 old:∀b,b < w.heap.size->own' b≠0->own b≠0
 vis:VisF (fun b=>own b≠0∨b=gs) w w'
 keep:Keep (fun b=>B<=b) w w'
section
variable {B gs : Nat} {w w1 w' : World} {own own1 own' : Nat -> Nat}
def LFS.refl (B gs:Nat) (w:World) (own:Nat->Nat):LFS B gs w w own own:=⟨fun _ _ a=>a,VisF.of_vis (Vis.refl w),Keep.refl _ _⟩
def LFS.size (a:LFS B gs w w' own own'):w.heap.size<=w'.heap.size:=a.keep.size
def LFS.trans (b:LFS B gs w w1 own own1) (e:LFS B gs w1 w' own1 own'):LFS B gs w w' own own':=by
 have f:=b.keep.size;refine ⟨fun c d a=>b.old c d (e.old c oM a),b.vis.trans' e.vis fun c d a=>?_,b.keep.trans e.keep⟩;rcases a with a | a;exact .inl (b.old c d a);exact .inr a
def LFS.of_lf (gs:Nat) (b:LF B w w' own own'):LFS B gs w w' own own':=⟨fun c d a=>by rw [<-b.old c d];exact a,b.vis.mono fun c _ a=>.inl a,b.keep⟩
def LFS.of_vb (gs:Nat) (own:Nat->Nat) (a:VB B w w'):LFS B gs w w' own own:=⟨fun _ _ b=>b,VisF.of_vis a.1,a.2⟩
def LFS.of_below (B gs:Nat) (own:Nat->Nat) (a:Below w.heap.size w w'):LFS B gs w w' own own:=LFS.of_vb gs own (VisK.of_below a)
def LFS.below (d:LFS B gs w w' own own') (c:B<=w.heap.size):Below B w w':=d.keep.to_below c fun a f b=>by have e:B<=a:=b;omega
def LFS.zero (e:LFS B gs w w' own own') {a:Nat} (d:a < w.heap.size) (c:own a=0):own' a=0:=by
 by_cases b:own' a=0;exact b;exact absurd c (e.old a d b)
def LFS.bk (j:LFS B gs w w' own own') {a:Nat} {t:TypeId} {c:Array Value} (d:Bk w a t c) (e:own a=0) (i:a≠gs) (f:t≠261) (g:t≠201):Bk w' a t c:=
 j.vis.bk d f g fun b=>b.elim (fun b=>b e) i
structure Ap (own:Nat->Nat) (gs b:Nat):Prop where
 col:own b=0
 ne:b≠gs
def Ap.step {a:Nat} (b:Ap own gs a) (d:LFS B gs w w' own own') (c:a < w.heap.size):Ap own' gs a:=⟨d.zero c b.col,b.ne⟩
def MadeZ (w:World) (own:Nat->Nat) (gs:Nat) (d:TypeId) (b:Option Addr) (e c:Nat) (f:List Value):Prop:=Made w 0 d 1 b e c f/\∀a,b=some a->a.block < w.heap.size/\Ap own gs a.block
def MadeZ.step {a:TypeId} {c:Option Addr} {e f:Nat} {i:List Value} (b:MadeZ w own gs a c e f i) (g:LFS B gs w w' own own') (n:a≠261) (o:a≠201):MadeZ w' own' gs a c e f i:=by
 have j:w'.ownsRow 0 a 1 (.slice c e f) e i:=aA b.1.own fun l r k q=>by
  rcases c with _ | d
  · cases k
  have m:d.block=l:=(by simpa [Value.ownBlock] using k);have:=(b.2 d rfl).2;rw [m] at this;exact g.bk q this.col this.ne n o
 refine ⟨⟨j,Rd.of_own j,b.1.cap,b.1.max⟩,fun d p=>?_⟩;have:=b.2 d p;exact ⟨zAl this.1 g.size,this.2.step g this.1⟩
def ArgZ (w:World) (B:Nat) (own:Nat->Nat) (gs:Nat) (b:Option Addr) (c:Nat) (d:List UInt8):Prop:=
 Rd w w.heap.size 1 b c (d.map bv)/\(0 < c->∀a,b=some a->a.block < B∨(Ap own gs a.block/\∃e f,w.heap[a.block]?=some (.cells e 5 f)))
def VisF.same {d:Nat->Prop} {b:Nat} {e:Array Value} {t:TypeId} {j:Nat×Nat} (n:VisF d w w') (c:w.heap[b]?=some (.cells e t j)) (m:¬d b) (k:t≠261) (l:t≠201):w'.heap[b]?=w.heap[b]?:=by
 rcases n.block b (lt_of_block c) m with g |⟨f,o,a,i⟩|⟨f,o,a,i⟩;exact g;exfalso;unfold Bk at a;rw [c] at a;injection a with a;injection a with _ a;exact k a;exfalso;unfold Bk at a;rw [c] at a;injection a with a;injection a with _ a;exact l a
def ArgZ.step {l:Option Addr} {k:Nat} {f:List UInt8} (c:ArgZ w B own gs l k f) (e:LFS B gs w w' own own'):ArgZ w' B own' gs l k f:=by
 have z:=e.size;rcases zBa k with d | d;subst d;have:f= []:=(by simpa using c.1.1);subst this;exact ⟨Rd.nil _ _ _ _,fun r=>absurd r oM⟩;obtain ⟨b,v,rfl,o,q⟩:=c.1.2 d;have p:w'.heap[b]?=w.heap[b]?:=(by rcases c.2 d _ rfl with a |⟨a,m,n,g⟩;exact e.keep.block b o (by have A:b < B:=a;omega);exact e.vis.same g (fun i=>i.elim (fun i=>i a.col) a.ne) dC dC);refine ⟨⟨c.1.1,fun _=>⟨b,v,rfl,by omega,fun u x s=>by rw [<-q u x s];exact World.cell?_of_block p⟩⟩,fun _ y j=>?_⟩;injection j with j;subst j;rcases c.2 d _ rfl with a |⟨a,m,n,g⟩;exact .inl a;exact .inr ⟨a.step e o,m,n,p.trans g⟩
def ArgZ.old {c:Nat} {b:Option Addr} {f:Nat} {d:List UInt8} (e:Rd w c 1 b f (d.map bv)) (m:c<=B) (l:B<=w.heap.size):ArgZ w B own gs b f d:=
 ⟨e.mono oM,fun j k a=>by
  obtain ⟨g,o,i,n,_⟩:=e.2 j;rw [i] at a;injection a with a;subst a;exact .inl (by show g < B;omega)⟩
def ArgZ.made {d:Option Addr} {f i:Nat} {e:List UInt8} (c:MadeZ w own gs 5 d f i (e.map bv)):ArgZ w B own gs d f e:=
 ⟨c.1.rd,fun p g a=>by
   have l:=(c.2 g a).2
   obtain ⟨o,n,j,b,_,k,_⟩:=c.1.own.2.resolve_left (fun m=>by
     have:=m.1;injection this with q1;rw [q1] at a;cases a)
   injection b with b;rw [b] at a;injection a with a;subst a;exact .inr ⟨l,j,_,k⟩⟩
def ArgZ.vis {a:Option Addr} {c:Nat} {b:List UInt8} (d:ArgZ w B own gs a c b) (e:Below w.heap.size w w'):ArgZ w' B own gs a c b:=d.step (LFS.of_below B gs own e)
def StAt.far {gl most rate:Nat} {t:List UInt8} {H:Nat->Prop} (a:StAt w B own gs gl most rate t) (e:Keep H w w') (d:∀b,H b->Ap own gs b):StAt w' B own gs gl most rate t:=
 ⟨e.bk a.blk fun c=>(d _ c).ne rfl,a.low,a.col,a.live.far0 e fun b c=>(d b c).col,a.n127,a.len,a.max,a.r1,a.r2⟩
def Two (own1:Nat->Nat) (b:Nat) (d:Nat->Nat) (c:Nat):Prop:=∀a,own1 a≠0∨a=b->Ap d c a
end
def StAt.other {w w':World} {B p i d k l n:Nat} {own1 m f:Nat->Nat} {o:List UInt8} (a:StAt w B f d k l n o) (j:LFS p i w w' own1 m) (e:Two own1 i f d):StAt w' B f d k l n o/\Two m i f d:=by
 refine ⟨⟨j.vis.bk a.blk dC dC fun g=>(e _ g).ne rfl,a.low,a.col,a.live.visF j.vis fun b g=>(e b g).col,a.n127,a.len,a.max,a.r1,a.r2⟩,fun b c=>?_⟩;rcases c with c | c;by_cases q:b < w.heap.size;exact e b (.inl (j.old b q c));exact ⟨a.fresh oM,by have:=a.blk.lt;omega⟩;exact e b (.inr c)
def Two.symm {own1 e:Nat->Nat} {c d:Nat} (g:Two own1 c e d) (j:own1 c=0) (k:e d=0):Two e d own1 c:=fun b a=>by
 refine ⟨?_,fun i=>?_⟩;by_cases f:own1 b=0;exact f;have:=g b (.inl f);rcases a with a | a;exact absurd this.col a;exact absurd a this.ne;have:=g b (.inr i);rcases a with a | a;exact a this.col;exact this.ne a
def kP (B:Nat) (own:Nat->Nat) (gs gl most rate b:Nat) (t:List UInt8) (a c:Int) (w:World) (e:StAt w B own gs gl most rate t) (o:t.length=b):
 Calls prog 75 #[gs,.int .i64 a,.int .i64 c] w fun d w'=>d=.returned (.bool (jV b a c))/\w=w':=by
 have m:=e.llen o;have r:b<=127:=by have:=e.n127;omega
 have p:=e.blk.cell 0;have g:=lhd m;clear m e;unfold jV;by_cases f:0<=a
 · by_cases j:0<=c
   · by_cases l:a<=(b:Int)
     · have q:IntKind.i64.wrap ((b:Int) - a)=(b:Int) - a:=(by rw [IntKind.wrap_i64];omega);have i:decide (0<=a)=true:=zBz f;have k:decide (0<=c)=true:=zBz j;have n:decide (a<=(b:Int))=true:=zBz l;go_enter func75,ntmps75;go_wp2_with fail;refine g.out.mono ?_;rintro d w1 ⟨rfl,rfl⟩;go_wp2_with fail;refine g.out.mono ?_;rintro d w1 ⟨rfl,rfl⟩;go_wp2_with fail;go_ret;refine ⟨?_,rfl⟩
       first | rfl |(show Ending.returned (Value.bool (decide (c<=(b:Int) - a)))=_;congr 2;exact decide_eq_decide.2 oM)
     · have i:decide (0<=a)=true:=zBz f;have k:decide (0<=c)=true:=zBz j;have n:decide (a<=(b:Int))=false:=zBy l;go_enter func75,ntmps75;go_wp2_with fail;refine g.out.mono ?_;rintro d w1 ⟨rfl,rfl⟩;go_wp2_with fail;go_ret;refine ⟨?_,rfl⟩;show Ending.returned (Value.bool false)=_;rw [zBy oM]
   · have i:decide (0<=a)=true:=zBz f;have k:decide (0<=c)=false:=zBy j;go_enter func75,ntmps75;go_wp2_with fail;go_ret;exact ⟨rfl,rfl⟩
 · have i:decide (0<=a)=false:=zBy f;go_enter func75,ntmps75;go_wp2_with fail;go_ret;exact ⟨rfl,rfl⟩
def pB (a c:Int) (b:Nat):Int:=if a=1 then 0 else if a=3 then (b:Int) else c
def lK (B:Nat) (own:Nat->Nat) (gs gl most rate m:Nat) (t:List UInt8) (b g f:Int) (j:Option Addr) (e n:Nat) (w:World) (r:StAt w B own gs gl most rate t) (u:t.length=m) (a:jV m g (pB b f e)=false):
 Calls prog 42 #[gs,.agg #[.int .i64 b,.int .i64 g,.int .i64 f,.slice j e n]] w fun i w'=>i=.returned (.int .i64 2)/\Below w.heap.size w w':=by
 have q:Below w.heap.size w (w.alloc (.cells #[.int .i64 b,.int .i64 g,.int .i64 f,.slice j e n] 58)):=bR.alloc nL _;have s:=fun v=>kP B own gs gl most rate m t g v _ (r.vb (Vis.of_below q)) u;have l:=lhd q;have d:=Bk.new w 58 #[.int .i64 b,.int .i64 g,.int .i64 f,.slice j e n];have y:=d.cell 0;have z:=d.cell 1;have A:=d.cell 2;have C:=d.cell 3;have k:=lhd s;clear r q d s;unfold pB at a;by_cases o:b=1
 · subst o;rw [zBx rfl] at a;have c:=lhd a;clear a;go_enter func42,ntmps42;go_wp2_with fail;refine (k.out 0).mono ?_;rintro i w1 ⟨rfl,rfl⟩;rw [c.out];go_wp2_with fail;go_ret;exact ⟨rfl,l.out⟩
 · rw [zBw o] at a;by_cases p:b=3
   · subst p;rw [zBx rfl] at a;have c:=lhd a;clear a;go_enter func42,ntmps42;go_wp2_with fail;refine (k.out (e:Int)).mono ?_;rintro i w1 ⟨rfl,rfl⟩;rw [c.out];go_wp2_with fail;go_ret;exact ⟨rfl,l.out⟩
   · rw [zBw p] at a;have c:=lhd a;have b1:(b==1)=false:=zCb.2 o;have x:(b==3)=false:=zCb.2 p;clear a;go_enter func42,ntmps42;go_wp2_with fail;refine (k.out f).mono ?_;rintro i w1 ⟨rfl,rfl⟩;rw [c.out];go_wp2_with fail;go_ret;exact ⟨rfl,l.out⟩
end
section
open Go.RowKit Go.Shelf
def aEY {b:List Nat} {c a d:Nat} (e:b[c]?=some d):(b.set c a).Perm (a::aD b c):=by
 have f:=uC (s:=a) e;have g:=(dY e).symm.cons a;have i:(d::b.set c a).Perm (d::a::aD b c):=(f.trans g).trans (List.Perm.swap d a _);exact i.cons_inv
def aFy {c:List Nat} {b a f k l:Nat} (g:c[a]?=some k) (i:c[b]?=some l) (m:b≠a):(aD (c.set a f) b)[aS a b]?=some f:=by
 have j:=(zAc.1 i).1;have e:=(zAc.1 g).1;rw [dM _ (by rw [zAt];exact j)];unfold aS;by_cases d:a > b
 · rw [zBx d,zBw oM,show a - 1+1=a by omega,List.getElem?_set_self e]
 · rw [zBw d,zBx oM,List.getElem?_set_self e]
def aDi {c:List Nat} {d row e:Nat} {o:List (Nat×Nat)} (j:c.Nodup) (i:c[d]?=some e) (q:row < c.length) (p:∀b∈o,c[b.1]?=some b.2):∀b∈o.map (fun b=>(mvR d row b.1,b.2)),(aM (aD c d) row e)[b.1]?=some b.2:=fun b r=>by
 obtain ⟨a,s,rfl⟩:=zAy.1 r;have n:=p a s;have k:ro c a.2=a.1:=fB j n;have l:=zAd n;have m:=fB j i;obtain ⟨v,x,y⟩:=tK j (t:=row) i q;show (aM (aD c d) row e)[mvR d row a.1]?=some a.2;have u:mvR d row a.1=ro (aM (aD c d) row e) a.2:=by
  unfold mvR;by_cases g:a.1=d
  · have f:a.2=e:=eE l (zAd i) (by rw [k,g,m]);rw [zBx g,f,x]
  · have f:a.2≠e:=fun f=>g (by rw [<-k,f,m]);rw [zBw g,y _ l f,k]
 rw [u];exact bT (v.mem_iff.2 l)
def aHJ (w:World) (B:Nat) (own:Nat->Nat) (gl:Nat) (t:List UInt8) (rate c:Nat) (q:UInt8) (dT:LiveE w B own gl t rate) (d2:TabW w) (cS:7 < B) (e0:t.length<=127) (bM:c < t.length) (eh:1<=rate) (ei:rate<=64):
 Calls prog 77 #[gl,(c:Int),.int .u8 (q.toNat:Int)] w (aA3 w B own gl (t.set c q) rate):=by
 obtain ⟨gk,x,e5,b8,K,F,e,ck,ca⟩:=dT;obtain ⟨m,bp⟩:∃m,t.length=m+1:=⟨t.length - 1,by omega⟩;have d0:=bp;rw [bp] at e ca e0 bM;have bM:c<=m:=oM;obtain ⟨bn,d3,e1⟩:=e.len bp;have aB:=eI t;rw [bp] at aB;obtain ⟨f,cj⟩:=eqx (q.toNat+1);have bP:f < 257:=by have:=q.toNat_lt;omega
 have e2:0 < f:=oM;obtain ⟨Z,ar⟩:=eqx (aI t);have c3:aI (t.set c q)=Z.set c f:=by rw [aGi t q oM,ar,cj]
 have c5:=aB.len;have c4:∀j∈Z,j < 257:=by rw [<-ar];exact dR t
 rw [ar] at aB bn c5;have aN:=e.suf;rw [ar] at aN;have aV:∀l,l<=m+1->l∈K:=fun l eg=>aN.mem oM;have cd:K.Nodup:=aN.nodup;have dr:K.Perm (List.range (m+1+1)):=by have:=aN.perm;rwa [c5] at this
 have bs:ro K c≠ro K (c+1):=fun b=>by have:=eE (aV c oM) (aV (c+1) oM) b;omega
 have d8:=mH aN aB (show 0 < c+1 by omega) (show c+1<=m+1 by omega);rw [zBb] at d8;obtain ⟨bb,ap⟩:=d8;have be:=fun p row cN=>aH0 (s:=f) (n0:=p) (row:=row) (a:=cN) aN aB bM e2;have bo:=fun row=>aFh (S:=Z) (s:=f) (row:=row) dr aB bM;obtain ⟨i,br⟩:=eqx (ro K c);obtain ⟨n,bN⟩:=eqx (ro K (c+1));have bd:K[i]?=some c:=by rw [<-br];exact bT (aV c oM)
 have dt:K[n]?=some (c+1):=by rw [<-bN];exact bT (aV (c+1) oM)
 have ef:i < m+2:=by have:=(zAc.1 bd).1;omega
 have d7:n < m+2:=by have:=(zAc.1 dt).1;omega
 rw [br] at bs bb;rw [bN] at bs bb ap;rw [br,bN] at be bo;obtain ⟨o,aA⟩:=eqx (aF Z K);rw [aA] at bn bb ap be bo;obtain ⟨a5,cn⟩:=eqx (bF Z c);rw [cn] at be bo;obtain ⟨a9,c8⟩:=eqx (Z.getD c 0);rw [c8] at bb ap be;have bm:o[i]?=some a5:=by rw [<-aA,<-cn];unfold aF;rw [zAf,bd];rfl
 have b9:∀j∈o,j < 257:=by rw [<-aA];exact cX c4
 have co:a5 < 257:=b9 a5 (zAd bm);have dX:a9 < 257:=b9 a9 (zAd ap);have bc:=e.live;rw [ar,aA] at bc;have bf:=e.tal;rw [ar,aA] at bf;have cl:∀j∈o.set n f,j < 257:=fun j bQ=>by rcases List.mem_or_eq_of_mem_set bQ with H | H;exact b9 j H;omega
 have db:∀j∈aD (o.set n f) i,j < 257:=nI cl;have cm:(o.set n f)[i]?=some a5:=by rw [List.getElem?_set_ne (fun b=>bs b.symm),bm]
 have c9:=cQ (o.set n f) (k:=i) (by rw [zAt];omega);rw [zAt] at c9;have dd:=cQ o (k:=n) oM;have dc:(aD (o.set n f) i)[aS n i]?=some f:=aFy ap bm bs;have dw:b8.Perm (a9::aD o n):=bf.trans (dY ap).symm;obtain ⟨p,cc⟩:=eqx (pP (aD (o.set n f) i) (aD o n) f (aS n i));obtain ⟨aT,aU⟩:∃aT:Int,(if c=0 then -1 else ((ro K (c - 1):Nat):Int))=aT:=⟨_,rfl⟩;obtain ⟨M,bK⟩:∃M:Int,aAg aT (i:Int)=M:=⟨_,rfl⟩;have c6:M=if c=0 then -1 else ((aS (ro K (c - 1)) i:Nat):Int):=by
  rw [<-bK,<-aU];by_cases J:c=0
  · rw [zBx J,zBx J,aBG]
  · rw [zBw J,zBw J,kG]
 obtain ⟨row,bO⟩:∃row,(if a5=f/\M<=(p:Int) then p+1 else p)=row:=⟨_,rfl⟩;have dm:p+(if a9 < f then 1 else 0)=o.countP (fun j=>decide (j < f))+((aD (o.set n f) i).take (aS n i)).count f:=by rw [<-cc];unfold pP;rw [<-(dY ap).countP_eq,zBn];simp only [zCa];omega
 obtain ⟨ej,ce⟩:=be p row M c6 dm bO.symm;have bJ:=bo row;obtain ⟨e4,dz,dA⟩:=tK cd (t:=row) bd oM;have ch:=aDi (row:=row) cd bd oM e.right;have ci:ro (aM (aD K i) row c) c=row:=dz;have c7:inI M (row:Int)=aOf (aM (aD K i) row c) c:=by
  rw [c6];unfold aOf;by_cases J:c=0
  · rw [zBx J,zBx J,aEo]
  · rw [zBw J,zBw J,tO];rw [dA (c - 1) (aV _ oM) oM]
 obtain ⟨aR,d1⟩:=eqx (aM (aD K i) row c);rw [d1] at ce bJ ch ci c7;have dx:(aD o n++ [f]).Perm (aF (Z.set c f) aR):=by rw [bJ];refine (List.perm_append_comm).trans ?_;refine (aEY ap).symm.trans ?_;exact (dY cm).symm.trans (eM _ _ _).symm
 have ds:F≠ []:=fun b=>by obtain ⟨j,bQ,_⟩:=ck;rw [b] at bQ;cases bQ
 have d9:=bc.bnd;have d5:∀aW,LiveM aW B own gl gk x rate 0 (m+1+1) (m+1+1) o b8 F->Calls prog 130 #[gl,(c:Int),(i:Int)] aW fun b w'=>b=.returned (.int .i64 aT)/\VB B aW w':=fun aW dU=>by by_cases J:c=0;rw [zBx J] at aU;subst J aU;refine (mM i aW gl).mono ?_;rintro b w' ⟨rfl,rfl⟩;exact ⟨rfl,VisK.refl _ _⟩;rw [zBw J] at aU;obtain ⟨b1,b2⟩:=mH aN aB (show 0 < c by omega) oM;rw [aA,br] at b1 b2;have:=oR c i (Z.getD (c - 1) 0) dU oM b2 b9 oM oM;rw [kI bf,b1,aU] at this;exact this
 have dV:-1000000<=aT/\aT<=1000000:=by rw [<-aU];by_cases J:c=0;rw [zBx J];omega;rw [zBw J];have ek:ro K (c - 1) < K.length:=List.idxOf_lt_length_iff.2 (aV (c - 1) oM);omega
 have ba:-1000000<=M/\M<=1000000:=by rw [<-bK];unfold aAg;split <;> omega
 have dn:p<=row/\row<=p+1:=by rw [<-bO];split <;> omega
 have cb:=bL B gl o (m+1) w (bc.g bf).lvw bn oM;have dQ:IntKind.i64.wrap (((m+1:Nat):Int) - 1)=(m:Int):=by rw [IntKind.wrap_i64];omega
 have dv:a9=f->aI (t.set c q)=aI t:=fun b=>by
  rw [c3,ar];apply List.ext_getElem?;intro e3;rw [zBm];by_cases J:c=e3;subst J;rw [zBx rfl,zBx oM,<-b,<-c8,zAb,zAa oM];rfl
  · rw [zBw J]
 obtain ⟨cJ,cM,aQ,aP,cI,cK,cz,cH,cL⟩:=hqq9 dv e ck ca e.right e.suf bc.blk bc bf;obtain ⟨ao,cx,aY,N,dE,bS,ea,bU,dG⟩:=hqq9 d0 ar c3 bn d3 b9 bm ap bb;obtain ⟨dJ,dL,bz,aO,bA,dI,dM,aX,dO⟩:=hqq9 bd cl db c9 dd dc cm bJ dw;obtain ⟨b7,b5,a8,b4,b0,b6,bG,c0,bH⟩:=hqq9 dx ch ds ce c7 ci cc dn bO;obtain ⟨cy,aZ,cw,ec,dD,dK,dF⟩:=hqq7 d5 c4 aA d9 d2 cj bK;have dW:(c:Int)<=(m:Int):=oM;obtain ⟨ed,c2⟩:=eqx (m+1);rw [c2] at cb dQ;have eb:=lhd c2;unfold aA3;clear e bc bf bp d0 ar c3 bn d3 b9 bm bd cl cm bJ dw ch ce c7 d5 c4 ca ck aN aV aB dr cd d1 cn e1 c5 br aU aA d9 d2 bb ap bN dt c8 bs c2 dv be bo db c9 dd dc dx ds ci cc dn bO cj bK c6 dm e4 dz dA;go_enter func77,ntmps77;go_wp2_with fail;refine cb.mono ?_;clear cb;rintro b w1 ⟨rfl,rfl⟩;go_wp2_with fail;refine (aA9 gl _ _ _ e5 (c:Int) (m:Int) w cz.out oM dW).mono ?_;rintro b w1 ⟨rfl,rfl⟩;obtain ⟨dj,de⟩:=cH.out.setMv 0;obtain ⟨bB,bV⟩:=hqq2 dj de;clear dj de cz cH;generalize w.setCell ⟨gl,3,none⟩ (.int .i64 0)=w1 at bB bV⊢;have du:Calls prog 79 #[gl,(c:Int)] w1 fun b w'=>b=.returned (.int .i64 (i:Int))/\VB B w1 w':=by have dZ:=bB.out.g cL.out;exact eZ B gl gk x rate t K F i c w1 (by rw [ao.out,cx.out];rw [cw.out];exact dZ) cI.out cK.out (by rw [ao.out];omega) dJ.out
 go_wp2_with fail;refine du.mono ?_;clear du;rintro b dB ⟨rfl,cq⟩;have cG:=lhd (bB.out.vis cq.1);have cA:=lhd (bV.out.trans (LF.of_vb (own:=own) cq));clear cq bB bV;go_wp2_with fail;refine (nN q dB).mono ?_;rintro b dC ⟨rfl,d6⟩;rw [dK.out];have cr:VB B dB dC:=VisK.of_below d6;have bC:=lhd (cG.out.vis cr.1);have bW:=lhd (cA.out.trans (LF.of_vb (own:=own) cr));clear cr d6 cG cA;have G:=bC.out.blk.cell 0;have dq:=oP B gk o n i a9 dC (bC.out.walk.at cL.out) bU.out dG.out bS.out (by rw [N.out];omega) (dD.out.keepLF bW.out cS) cS;go_wp2_with fail;refine dq.mono ?_;clear dq;rintro b e6 ⟨rfl,cs⟩;have bY:=lhd (bC.out.vis cs.1);have cC:=lhd (bW.out.trans (LF.of_vb (own:=own) cs));clear cs G bC bW;have d4:=cy.out e6 bY.out;clear cy;go_wp2_with fail;refine d4.mono ?_;clear d4;rintro b aW ⟨rfl,ct⟩;have bD:=lhd (bY.out.vis ct.1);have cD:=lhd (cC.out.trans (LF.of_vb (own:=own) ct));clear ct bY cC;obtain ⟨dS,ee,di,dy⟩:=bD.out.gw;have G:=bD.out.blk.cell 0;have Y:=di.cell 0;have dh:=dN B dS o n a9 aW dy (by rw [N.out];exact d7) (by have aq:=bU.out;rw [zAa (by rw [N.out];exact d7)] at aq;injection aq) bS.out (by rw [N.out];omega);clear di dy;go_wp2_with fail;refine dh.mono ?_;clear dh;rintro b e7 ⟨rfl,cu⟩;have bg:=lhd (bD.out.vis cu.1);have bX:=lhd (cD.out.trans (LF.of_vb (own:=own) cu));clear cu G Y bD cD;by_cases cP:a9=f
 · have dP:((a9:Int)==(f:Int))=true:=(by rw [cP];simp);go_wp2_with fail;go_ret;have I:(t.set c q).length=t.length:=zAt ..;refine ⟨rfl,own,⟨gk,x,0,b8,K,F,?_,aQ.out,by rw [I,ao.out];exact aP.out⟩,bX.out⟩;rw [cJ.out cP,I,ao.out];refine ⟨cK.out,?_,cM.out.tal,cI.out⟩;have:=bg.out;rw [cx.out,cw.out];exact this
 have dP:((a9:Int)==(f:Int))=false:=by rw [zCb];omega
 clear cM cJ;have G:=bg.out.blk.cell 0;have da:=jE B gk own o b8 n a9 f e7 bg.out.walk bU.out bP bS.out (by rw [N.out];omega);go_wp2_with fail;refine da.mono ?_;clear da;rintro b e8 ⟨rfl,own1,cT,cW⟩;obtain ⟨dk,df⟩:=bg.out.walkOp cT cW;obtain ⟨bE,cE⟩:=hqq2 dk (bX.out.trans df);clear dk df cT cW G bg bX;have G:=bE.out.blk.cell 0;have hcut:=fS B gk own1 (o.set n f) b8 i a5 e8 bE.out.walk dM.out dL.out (by rw [zAt,N.out];omega);go_wp2_with fail;refine hcut.mono ?_;clear hcut;rintro b a6 ⟨rfl,bt,cU,cY⟩;obtain ⟨ai,ah⟩:=bE.out.walkOp cU cY;obtain ⟨E,a0⟩:=hqq2 ai (cE.out.trans ah);clear ai ah cU cY G bE cE;have G:=E.out.blk.cell 0;have ag:=kO B gk bt _ b8 (aD o n) a9 a6 E.out.walk dO.out dX (by rw [dE.out];omega);go_wp2_with fail;refine ag.mono ?_;clear ag;rintro b e9 ⟨rfl,cV,cZ⟩;obtain ⟨dl,dg⟩:=E.out.walkOp cV cZ;obtain ⟨bZ,cF⟩:=hqq2 dl (a0.out.trans dg);clear dl dg cV cZ G E a0;have cp:=tW (aS n i) f bZ.out dI.out bz.out (by have:=aO.out;have:=N.out;omega) (by have:=bA.out;have:=N.out;omega);rw [bG.out] at cp;have cf:=kQ (n:Int) (i:Int) e9 oM;rw [kG] at cf;go_wp2_with fail;refine cf.mono ?_;clear cf;rintro b L ⟨rfl,rfl⟩;go_wp2_with fail;refine cp.mono ?_;clear cp;rintro b bR ⟨rfl,cv⟩;have a7:=lhd (bZ.out.vis cv.1);have b3:=lhd (cF.out.trans (LF.of_vb (own:=bt) cv));clear cv bZ cF;have cg:=kQ aT (i:Int) bR dV;rw [dF.out] at cg;go_wp2_with fail;refine cg.mono ?_;clear cg;rintro b L ⟨rfl,rfl⟩;by_cases av:a5=f/\M<=(p:Int)
 · have aq:=bH.out;rw [zBx av] at aq;clear bH;have G:=a7.out.blk.cell 0;have aJ:=eC B gk bt (aD (o.set n f) i) (aD o n) row a5 bR a7.out.walk co (by have:=aO.out;have:=N.out;omega) bz.out (by have:=aO.out;have:=N.out;omega);have bh:((a5:Int)==(f:Int))=true:=(by rw [av.1];simp);have c1:decide ((p:Int)>=M)=true:=zBz av.2;have cR:wrap64 ((p:Int)+1)=(row:Int):=(by rw [<-aq,dH oM oM];omega);clear aq av;go_wp2_with fail;rw [cR];clear cR bh c1 bG c0;refine aJ.mono ?_;clear aJ;rintro b bv ⟨rfl,W,aw,ay⟩;obtain ⟨aG,aC⟩:=a7.out.walkOp aw ay;obtain ⟨a2,au⟩:=hqq2 aG (b3.out.trans aC);clear aG aC aw ay G a7 b3;have G:=a2.out.blk.cell 0;have ag:=fK B gk W _ (aD o n) f bv a2.out.walk bP (by have:=bA.out;have:=N.out;omega);go_wp2_with fail;refine ag.mono ?_;clear ag;rintro b L ⟨rfl,ax,az⟩;obtain ⟨aH,aE⟩:=a2.out.walkOp ax az;obtain ⟨r,a1⟩:=hqq2 aH (au.out.trans aE);clear aH aE ax az G a2 au;have bu:L.cell? ⟨gl,3,none⟩=some (.int .i64 0):=(r.out.blk.cell 3).trans rfl;have bk:=r.out.blk.frozen 3;have bq:=r.out.blk.lt;have Y:L.cell? ⟨gl,1,none⟩=some (.pointer (some x)):=(r.out.blk.cell 1).trans rfl;have aK:row < m+1+1:=oM;have aL:i < m+1+1:=oM;have a4:m+1+1<=100000:=oM;by_cases a3:row=i
   · have bi:((row:Int)==(i:Int))=true:=(by rw [a3];simp);have bj:((row:Int)!=(i:Int))=false:=(by rw [a3];simp);clear a3;have T:=cB (fun q=>W q=1) x (m+1+1) (m+1+1) i row F L r.out.perm aL aK a4 a4 a8.out;go_wp2_with fail;refine T.mono ?_;clear T;rintro b D ⟨rfl,⟨C,R,O⟩,P⟩;obtain ⟨A,y⟩:=r.out.permOp (O.mono fun q _ af=>.inl af) P;obtain ⟨al,Q⟩:=eqx (cO W L.heap.size D.heap.size 1);rw [Q] at A y;obtain ⟨ac,ab,u⟩:=hqq3 A (a1.out.trans y) R;clear A y O P R Q Y r a1;have z:=iP M (row:Int) D ba;rw [b0.out] at z;go_wp2_with fail;refine z.mono ?_;clear z;rintro b bw ⟨rfl,rfl⟩;have V:∀l,Smp C l↔Smp F l:=fun l=>by constructor;rintro ⟨j,e,rfl⟩;obtain ⟨an,aj,b⟩:=zAy.1 (u.out.subset e);exact ⟨an,aj,by rw [<-b]⟩;rintro ⟨j,e,rfl⟩;exact ⟨_,u.out.symm.subset (zAy.2 ⟨j,e,rfl⟩),rfl⟩
     have v:=eD w D B own al gl gk x rate 0 (Z.set c f) (aD o n++ [f]) (m+1) c aR C C ⟨b4.out,by rw [aX.out];exact ac.out,b7.out,fun j e=>b5.out j (u.out.subset e),fun l=>Iff.rfl,fun bl b=>by
        subst b;have:=u.out.length_eq;simp at this;exact a8.out (zBk this.symm),ab.out⟩ oM oM (fun j e=>by
        rcases List.mem_or_eq_of_mem_set e with H | H;exact aZ.out j H
        · omega)
     rw [b6.out] at v;unfold gU at v;have ad:=lhd V;clear V;go_wp2_with fail;refine v.mono ?_;clear v;rintro b bx ⟨rfl,am,ak,ae,X,d⟩;have aa:=lhd d;clear d;go_wp2_with fail;go_ret;have d:=aa.out;have I:(t.set c q).length=m+1:=(by rw [zAt,ao.out]);have U:Smp X=Smp F:=funext fun l=>propext ((d.plc l).trans (ad.out l));refine ⟨rfl,am,⟨gk,x,ak,aD o n++ [f],ae,X,?_,by rw [U];exact aQ.out,by rw [U,I];exact aP.out⟩,d.lf⟩;rw [aY.out,I];exact ⟨d.near.sorted,d.live,d.tal,d.right⟩
   · have bi:((row:Int)==(i:Int))=false:=(by rw [zCb];omega);have bj:((row:Int)!=(i:Int))=true:=(by rw [bne_iff_ne];omega);clear a3;go_wp2_with fail;obtain ⟨ai,ah⟩:=r.out.setMv 1;obtain ⟨E,a0⟩:=hqq2 ai (a1.out.trans ah);clear ai ah bu bk bq Y r a1;generalize L.setCell ⟨gl,3,none⟩ (.int .i64 1)=a6 at E a0⊢;have Y:a6.cell? ⟨gl,1,none⟩=some (.pointer (some x)):=(E.out.blk.cell 1).trans rfl;have T:=cB (fun q=>W q=1) x (m+1+1) (m+1+1) i row F a6 E.out.perm aL aK a4 a4 a8.out;refine T.mono ?_;clear T;rintro b D ⟨rfl,⟨C,R,O⟩,P⟩;obtain ⟨A,y⟩:=E.out.permOp (O.mono fun q _ af=>.inl af) P;obtain ⟨al,Q⟩:=eqx (cO W a6.heap.size D.heap.size 1);rw [Q] at A y;obtain ⟨ac,ab,u⟩:=hqq3 A (a0.out.trans y) R;clear A y O P R Q Y E a0;have z:=iP M (row:Int) D ba;rw [b0.out] at z;go_wp2_with fail;refine z.mono ?_;clear z;rintro b bw ⟨rfl,rfl⟩;have V:∀l,Smp C l↔Smp F l:=fun l=>by constructor;rintro ⟨j,e,rfl⟩;obtain ⟨an,aj,b⟩:=zAy.1 (u.out.subset e);exact ⟨an,aj,by rw [<-b]⟩;rintro ⟨j,e,rfl⟩;exact ⟨_,u.out.symm.subset (zAy.2 ⟨j,e,rfl⟩),rfl⟩
     have v:=eD w D B own al gl gk x rate 1 (Z.set c f) (aD o n++ [f]) (m+1) c aR C C ⟨b4.out,by rw [aX.out];exact ac.out,b7.out,fun j e=>b5.out j (u.out.subset e),fun l=>Iff.rfl,fun bl b=>by
        subst b;have:=u.out.length_eq;simp at this;exact a8.out (zBk this.symm),ab.out⟩ oM oM (fun j e=>by
        rcases List.mem_or_eq_of_mem_set e with H | H;exact aZ.out j H
        · omega)
     rw [b6.out] at v;unfold gU at v;have ad:=lhd V;clear V;go_wp2_with fail;refine v.mono ?_;clear v;rintro b bx ⟨rfl,am,ak,ae,X,d⟩;have aa:=lhd d;clear d;go_wp2_with fail;go_ret;have d:=aa.out;have I:(t.set c q).length=m+1:=(by rw [zAt,ao.out]);have U:Smp X=Smp F:=funext fun l=>propext ((d.plc l).trans (ad.out l));refine ⟨rfl,am,⟨gk,x,ak,aD o n++ [f],ae,X,?_,by rw [U];exact aQ.out,by rw [U,I];exact aP.out⟩,d.lf⟩;rw [aY.out,I];exact ⟨d.near.sorted,d.live,d.tal,d.right⟩
 · have aq:=bH.out;rw [zBw av] at aq;subst aq;clear bH;by_cases bI:a5=f
   · have dp:¬M<=(p:Int):=fun b=>av ⟨bI,b⟩;have G:=a7.out.blk.cell 0;have aJ:=eC B gk bt (aD (o.set n f) i) (aD o n) p a5 bR a7.out.walk co (by have:=aO.out;have:=N.out;omega) bz.out (by have:=aO.out;have:=N.out;omega);have bh:((a5:Int)==(f:Int))=true:=(by rw [bI];simp);have c1:decide ((p:Int)>=M)=false:=zBy dp;clear bI av dp;go_wp2_with fail;clear bh c1 bG c0;refine aJ.mono ?_;clear aJ;rintro b bv ⟨rfl,W,aw,ay⟩;obtain ⟨aG,aC⟩:=a7.out.walkOp aw ay;obtain ⟨a2,au⟩:=hqq2 aG (b3.out.trans aC);clear aG aC aw ay G a7 b3;have G:=a2.out.blk.cell 0;have ag:=fK B gk W _ (aD o n) f bv a2.out.walk bP (by have:=bA.out;have:=N.out;omega);go_wp2_with fail;refine ag.mono ?_;clear ag;rintro b L ⟨rfl,ax,az⟩;obtain ⟨aH,aE⟩:=a2.out.walkOp ax az;obtain ⟨r,a1⟩:=hqq2 aH (au.out.trans aE);clear aH aE ax az G a2 au;have bu:L.cell? ⟨gl,3,none⟩=some (.int .i64 0):=(r.out.blk.cell 3).trans rfl;have bk:=r.out.blk.frozen 3;have bq:=r.out.blk.lt;have Y:L.cell? ⟨gl,1,none⟩=some (.pointer (some x)):=(r.out.blk.cell 1).trans rfl;have aK:p < m+1+1:=oM;have aL:i < m+1+1:=oM;have a4:m+1+1<=100000:=oM;by_cases a3:p=i
     · have bi:((p:Int)==(i:Int))=true:=(by rw [a3];simp);have bj:((p:Int)!=(i:Int))=false:=(by rw [a3];simp);clear a3;have T:=cB (fun q=>W q=1) x (m+1+1) (m+1+1) i p F L r.out.perm aL aK a4 a4 a8.out;go_wp2_with fail;refine T.mono ?_;clear T;rintro b D ⟨rfl,⟨C,R,O⟩,P⟩;obtain ⟨A,y⟩:=r.out.permOp (O.mono fun q _ af=>.inl af) P;obtain ⟨al,Q⟩:=eqx (cO W L.heap.size D.heap.size 1);rw [Q] at A y;obtain ⟨ac,ab,u⟩:=hqq3 A (a1.out.trans y) R;clear A y O P R Q Y r a1;have z:=iP M (p:Int) D ba;rw [b0.out] at z;go_wp2_with fail;refine z.mono ?_;clear z;rintro b bw ⟨rfl,rfl⟩;have V:∀l,Smp C l↔Smp F l:=fun l=>by constructor;rintro ⟨j,e,rfl⟩;obtain ⟨an,aj,b⟩:=zAy.1 (u.out.subset e);exact ⟨an,aj,by rw [<-b]⟩;rintro ⟨j,e,rfl⟩;exact ⟨_,u.out.symm.subset (zAy.2 ⟨j,e,rfl⟩),rfl⟩
       have v:=eD w D B own al gl gk x rate 0 (Z.set c f) (aD o n++ [f]) (m+1) c aR C C ⟨b4.out,by rw [aX.out];exact ac.out,b7.out,fun j e=>b5.out j (u.out.subset e),fun l=>Iff.rfl,fun bl b=>by
        subst b;have:=u.out.length_eq;simp at this;exact a8.out (zBk this.symm),ab.out⟩ oM oM (fun j e=>by
        rcases List.mem_or_eq_of_mem_set e with H | H;exact aZ.out j H
        · omega)
       rw [b6.out] at v;unfold gU at v;have ad:=lhd V;clear V;go_wp2_with fail;refine v.mono ?_;clear v;rintro b bx ⟨rfl,am,ak,ae,X,d⟩;have aa:=lhd d;clear d;go_wp2_with fail;go_ret;have d:=aa.out;have I:(t.set c q).length=m+1:=(by rw [zAt,ao.out]);have U:Smp X=Smp F:=funext fun l=>propext ((d.plc l).trans (ad.out l));refine ⟨rfl,am,⟨gk,x,ak,aD o n++ [f],ae,X,?_,by rw [U];exact aQ.out,by rw [U,I];exact aP.out⟩,d.lf⟩;rw [aY.out,I];exact ⟨d.near.sorted,d.live,d.tal,d.right⟩
     · have bi:((p:Int)==(i:Int))=false:=(by rw [zCb];omega);have bj:((p:Int)!=(i:Int))=true:=(by rw [bne_iff_ne];omega);clear a3;go_wp2_with fail;obtain ⟨ai,ah⟩:=r.out.setMv 1;obtain ⟨E,a0⟩:=hqq2 ai (a1.out.trans ah);clear ai ah bu bk bq Y r a1;generalize L.setCell ⟨gl,3,none⟩ (.int .i64 1)=a6 at E a0⊢;have Y:a6.cell? ⟨gl,1,none⟩=some (.pointer (some x)):=(E.out.blk.cell 1).trans rfl;have T:=cB (fun q=>W q=1) x (m+1+1) (m+1+1) i p F a6 E.out.perm aL aK a4 a4 a8.out;refine T.mono ?_;clear T;rintro b D ⟨rfl,⟨C,R,O⟩,P⟩;obtain ⟨A,y⟩:=E.out.permOp (O.mono fun q _ af=>.inl af) P;obtain ⟨al,Q⟩:=eqx (cO W a6.heap.size D.heap.size 1);rw [Q] at A y;obtain ⟨ac,ab,u⟩:=hqq3 A (a0.out.trans y) R;clear A y O P R Q Y E a0;have z:=iP M (p:Int) D ba;rw [b0.out] at z;go_wp2_with fail;refine z.mono ?_;clear z;rintro b bw ⟨rfl,rfl⟩;have V:∀l,Smp C l↔Smp F l:=fun l=>by constructor;rintro ⟨j,e,rfl⟩;obtain ⟨an,aj,b⟩:=zAy.1 (u.out.subset e);exact ⟨an,aj,by rw [<-b]⟩;rintro ⟨j,e,rfl⟩;exact ⟨_,u.out.symm.subset (zAy.2 ⟨j,e,rfl⟩),rfl⟩
       have v:=eD w D B own al gl gk x rate 1 (Z.set c f) (aD o n++ [f]) (m+1) c aR C C ⟨b4.out,by rw [aX.out];exact ac.out,b7.out,fun j e=>b5.out j (u.out.subset e),fun l=>Iff.rfl,fun bl b=>by
        subst b;have:=u.out.length_eq;simp at this;exact a8.out (zBk this.symm),ab.out⟩ oM oM (fun j e=>by
        rcases List.mem_or_eq_of_mem_set e with H | H;exact aZ.out j H
        · omega)
       rw [b6.out] at v;unfold gU at v;have ad:=lhd V;clear V;go_wp2_with fail;refine v.mono ?_;clear v;rintro b bx ⟨rfl,am,ak,ae,X,d⟩;have aa:=lhd d;clear d;go_wp2_with fail;go_ret;have d:=aa.out;have I:(t.set c q).length=m+1:=(by rw [zAt,ao.out]);have U:Smp X=Smp F:=funext fun l=>propext ((d.plc l).trans (ad.out l));refine ⟨rfl,am,⟨gk,x,ak,aD o n++ [f],ae,X,?_,by rw [U];exact aQ.out,by rw [U,I];exact aP.out⟩,d.lf⟩;rw [aY.out,I];exact ⟨d.near.sorted,d.live,d.tal,d.right⟩
   · skip
     have G:=a7.out.blk.cell 0;have aJ:=eC B gk bt (aD (o.set n f) i) (aD o n) p a5 bR a7.out.walk co (by have:=aO.out;have:=N.out;omega) bz.out (by have:=aO.out;have:=N.out;omega);have bh:((a5:Int)==(f:Int))=false:=(by rw [zCb];omega);clear bI av;go_wp2_with fail;clear bh bG c0;refine aJ.mono ?_;clear aJ;rintro b bv ⟨rfl,W,aw,ay⟩;obtain ⟨aG,aC⟩:=a7.out.walkOp aw ay;obtain ⟨a2,au⟩:=hqq2 aG (b3.out.trans aC);clear aG aC aw ay G a7 b3;have G:=a2.out.blk.cell 0;have ag:=fK B gk W _ (aD o n) f bv a2.out.walk bP (by have:=bA.out;have:=N.out;omega);go_wp2_with fail;refine ag.mono ?_;clear ag;rintro b L ⟨rfl,ax,az⟩;obtain ⟨aH,aE⟩:=a2.out.walkOp ax az;obtain ⟨r,a1⟩:=hqq2 aH (au.out.trans aE);clear aH aE ax az G a2 au;have bu:L.cell? ⟨gl,3,none⟩=some (.int .i64 0):=(r.out.blk.cell 3).trans rfl;have bk:=r.out.blk.frozen 3;have bq:=r.out.blk.lt;have Y:L.cell? ⟨gl,1,none⟩=some (.pointer (some x)):=(r.out.blk.cell 1).trans rfl;have aK:p < m+1+1:=oM;have aL:i < m+1+1:=oM;have a4:m+1+1<=100000:=oM;by_cases a3:p=i
     · have bi:((p:Int)==(i:Int))=true:=(by rw [a3];simp);have bj:((p:Int)!=(i:Int))=false:=(by rw [a3];simp);clear a3;have T:=cB (fun q=>W q=1) x (m+1+1) (m+1+1) i p F L r.out.perm aL aK a4 a4 a8.out;go_wp2_with fail;refine T.mono ?_;clear T;rintro b D ⟨rfl,⟨C,R,O⟩,P⟩;obtain ⟨A,y⟩:=r.out.permOp (O.mono fun q _ af=>.inl af) P;obtain ⟨al,Q⟩:=eqx (cO W L.heap.size D.heap.size 1);rw [Q] at A y;obtain ⟨ac,ab,u⟩:=hqq3 A (a1.out.trans y) R;clear A y O P R Q Y r a1;have z:=iP M (p:Int) D ba;rw [b0.out] at z;go_wp2_with fail;refine z.mono ?_;clear z;rintro b bw ⟨rfl,rfl⟩;have V:∀l,Smp C l↔Smp F l:=fun l=>by constructor;rintro ⟨j,e,rfl⟩;obtain ⟨an,aj,b⟩:=zAy.1 (u.out.subset e);exact ⟨an,aj,by rw [<-b]⟩;rintro ⟨j,e,rfl⟩;exact ⟨_,u.out.symm.subset (zAy.2 ⟨j,e,rfl⟩),rfl⟩
       have v:=eD w D B own al gl gk x rate 0 (Z.set c f) (aD o n++ [f]) (m+1) c aR C C ⟨b4.out,by rw [aX.out];exact ac.out,b7.out,fun j e=>b5.out j (u.out.subset e),fun l=>Iff.rfl,fun bl b=>by
        subst b;have:=u.out.length_eq;simp at this;exact a8.out (zBk this.symm),ab.out⟩ oM oM (fun j e=>by
        rcases List.mem_or_eq_of_mem_set e with H | H;exact aZ.out j H
        · omega)
       rw [b6.out] at v;unfold gU at v;have ad:=lhd V;clear V;go_wp2_with fail;refine v.mono ?_;clear v;rintro b bx ⟨rfl,am,ak,ae,X,d⟩;have aa:=lhd d;clear d;go_wp2_with fail;go_ret;have d:=aa.out;have I:(t.set c q).length=m+1:=(by rw [zAt,ao.out]);have U:Smp X=Smp F:=funext fun l=>propext ((d.plc l).trans (ad.out l));refine ⟨rfl,am,⟨gk,x,ak,aD o n++ [f],ae,X,?_,by rw [U];exact aQ.out,by rw [U,I];exact aP.out⟩,d.lf⟩;rw [aY.out,I];exact ⟨d.near.sorted,d.live,d.tal,d.right⟩
     · have bi:((p:Int)==(i:Int))=false:=(by rw [zCb];omega);have bj:((p:Int)!=(i:Int))=true:=(by rw [bne_iff_ne];omega);clear a3;go_wp2_with fail;obtain ⟨ai,ah⟩:=r.out.setMv 1;obtain ⟨E,a0⟩:=hqq2 ai (a1.out.trans ah);clear ai ah bu bk bq Y r a1;generalize L.setCell ⟨gl,3,none⟩ (.int .i64 1)=a6 at E a0⊢;have Y:a6.cell? ⟨gl,1,none⟩=some (.pointer (some x)):=(E.out.blk.cell 1).trans rfl;have T:=cB (fun q=>W q=1) x (m+1+1) (m+1+1) i p F a6 E.out.perm aL aK a4 a4 a8.out;refine T.mono ?_;clear T;rintro b D ⟨rfl,⟨C,R,O⟩,P⟩;obtain ⟨A,y⟩:=E.out.permOp (O.mono fun q _ af=>.inl af) P;obtain ⟨al,Q⟩:=eqx (cO W a6.heap.size D.heap.size 1);rw [Q] at A y;obtain ⟨ac,ab,u⟩:=hqq3 A (a0.out.trans y) R;clear A y O P R Q Y E a0;have z:=iP M (p:Int) D ba;rw [b0.out] at z;go_wp2_with fail;refine z.mono ?_;clear z;rintro b bw ⟨rfl,rfl⟩;have V:∀l,Smp C l↔Smp F l:=fun l=>by constructor;rintro ⟨j,e,rfl⟩;obtain ⟨an,aj,b⟩:=zAy.1 (u.out.subset e);exact ⟨an,aj,by rw [<-b]⟩;rintro ⟨j,e,rfl⟩;exact ⟨_,u.out.symm.subset (zAy.2 ⟨j,e,rfl⟩),rfl⟩
       have v:=eD w D B own al gl gk x rate 1 (Z.set c f) (aD o n++ [f]) (m+1) c aR C C ⟨b4.out,by rw [aX.out];exact ac.out,b7.out,fun j e=>b5.out j (u.out.subset e),fun l=>Iff.rfl,fun bl b=>by
        subst b;have:=u.out.length_eq;simp at this;exact a8.out (zBk this.symm),ab.out⟩ oM oM (fun j e=>by
        rcases List.mem_or_eq_of_mem_set e with H | H;exact aZ.out j H
        · omega)
       rw [b6.out] at v;unfold gU at v;have ad:=lhd V;clear V;go_wp2_with fail;refine v.mono ?_;clear v;rintro b bx ⟨rfl,am,ak,ae,X,d⟩;have aa:=lhd d;clear d;go_wp2_with fail;go_ret;have d:=aa.out;have I:(t.set c q).length=m+1:=(by rw [zAt,ao.out]);have U:Smp X=Smp F:=funext fun l=>propext ((d.plc l).trans (ad.out l));refine ⟨rfl,am,⟨gk,x,ak,aD o n++ [f],ae,X,?_,by rw [U];exact aQ.out,by rw [U,I];exact aP.out⟩,d.lf⟩;rw [aY.out,I];exact ⟨d.near.sorted,d.live,d.tal,d.right⟩
end
end Go.Proofs.YtcfpmjbojoidoaaGreatDoor
