/- Lemmas of the walk. Conditions: each its own. -/
import Derived.Test.YtcfpmjbojoidoaaGreatDoorPd14
import Derived.Test.YtcfpmjbojoidoaaGreatDoorPd16
import Derived.Test.YtcfpmjbojoidoaaGreatDoorProg
import Derived.Test.YtcfpmjbojoidoaaGreatDoorShl
import Derived.Test.YtcfpmjbojoidoaaGreatDoorShi
import Derived.Test.YtcfpmjbojoidoaaGreatDoorSht
import Derived.Test.YtcfpmjbojoidoaaGreatDoorShs
set_option linter.all false
set_option maxRecDepth 100000
set_option maxHeartbeats 4000000
open Go.Proofs.Tryz
namespace Go.Proofs.YtcfpmjbojoidoaaGreatDoor
section
open Go.RowKit
structure LiveG (w:World) (Bw gl gk gp rate n:Nat) (L:List Nat) (pr:List (Nat×Nat)):Prop where
 blk:∃mv:Int,Bk w gl 69 #[gk,gp,(rate:Int),.int .i64 mv]
 walk:WalkAt w Bw gk L
 perm:PermR w gp n n pr
def LiveG.vis {w w':World} {c gl gk gp rate d:Nat} {L:List Nat} {pr:List (Nat×Nat)} (a:LiveG w c gl gk gp rate d L pr) (b:Vis w w'):LiveG w' c gl gk gp rate d L pr:=by
 obtain ⟨mv,e⟩:=a.blk;exact ⟨⟨mv,b.bk e dC dC⟩,a.walk.vis b,a.perm.vis b⟩
def LiveG.lvw {w:World} {a gl gk gp rate d:Nat} {L:List Nat} {pr:List (Nat×Nat)} (b:LiveG w a gl gk gp rate d L pr):LvW w a gl L:=by
 obtain ⟨mv,c⟩:=b.blk;exact ⟨gk,_,_,_,c,b.walk⟩
def LiveG.mono {w:World} {b B' gl gk gp rate c:Nat} {L:List Nat} {pr:List (Nat×Nat)} (a:LiveG w b gl gk gp rate c L pr) (d:B'<=b):LiveG w B' gl gk gp rate c L pr:=⟨a.blk,a.walk.mono d,a.perm⟩
def LiveG.lt {w:World} {a gl gk gp rate c:Nat} {L:List Nat} {pr:List (Nat×Nat)} (b:LiveG w a gl gk gp rate c L pr):gl < w.heap.size:=b.lvw.lt
def sM (a:List (Nat×Nat)):a=(List.range a.length).map fun c=>(aB a c,aG a c):=by
 apply List.ext_getElem?;intro d;rw [zAf];by_cases b:d < a.length;rw [zCj b,zAa b];unfold aB aG;rw [Option.map_some,zAb,zAa b];rfl;rw [zBg oM,zBg (by simpa using b)];rfl
def LiveAt.g {w:World} {c gl gk gp d:Nat} {j k l:Value} {B f rate:Nat} {L:List Nat} {a:List (Nat×Nat)} {i:List Bool} (b:LiveAt w c gl gk gp d j k l B f rate L a i) (o:a.Pairwise (fun m n=>m.1 < n.1)) (e:a.length<=1000):LiveG w c gl gk gp rate f L a:=
 ⟨⟨0,b.blk⟩,b.walk,B,d,j,k,l,_,_,a,i, [],b.perm,aAb a o,e,by rw [zCh];exact e,sM a⟩
def uE {rs:List Nat} {rate n:Nat} (e:n<=rs.length):∀a∈cK rs rate n,rs[a.1]?=some a.2:=fun a c=>by
 obtain ⟨d,b⟩:=mR c;rw [b,zAb,zAa (show a.1 < rs.length by omega)];rfl
def aE1 {c:List UInt8} {b:List Nat} {rate:Nat} (a:IsSuf (aI c) b):∃g∈cK b rate (c.length+1),g.2=0:=by
 obtain ⟨f,e,d⟩:=a.row (p:=0) (by rw [aO];omega);refine ⟨(f,0),(aGw _ _ _ _ _).2 ⟨?_,?_,Nat.zero_mod _⟩,rfl⟩;have:=a.len;rw [aO] at this;omega;rw [zAb,zAa e,d];rfl
def eZ (j gl gk gp rate:Nat) (e:List UInt8) (d:List Nat) (t:List (Nat×Nat)) (aa c:Nat) (w:World) (K:LiveG w j gl gk gp rate (e.length+1) (aF (aI e) d) t) (aq:∀g∈t,d[g.1]?=some g.2) (l:IsSuf (aI e) d) (aV:e.length<=127) (a1:d[aa]?=some c):
 Calls prog 79 #[gl,(c:Int)] w fun m w'=>m=.returned (.int .i64 (aa:Int))/\VB j w w':=by
 have a3:d.length=e.length+1:=by rw [l.len,aO]
 have Y:(aF (aI e) d).length=e.length+1:=by rw [bH,a3]
 have aX:c < e.length+1:=by have:=l.lt (zAd a1);rwa [aO] at this
 have a6:=aBu l;obtain ⟨i,Z⟩:=eqx e.length;have ar:∀a b:Nat,d[a]?=some (b+1)->∃s J,(aF (aI e) d)[a]?=some s/\bZ (aF (aI e) d) s a=J/\d[J]?=some b:=fun a b x=>by obtain ⟨N,ai⟩:=zAc.1 x;have aP:b+1 < (aI e).length:=l.lt (zAd x);obtain ⟨J,ak,aj⟩:=l.row (p:=b) oM;have an:=eI e;have aR:=pX an N ai (by rw [aO] at aP;omega);exact ⟨(aI e).getD b 0,J,zAc.2 ⟨_,aR⟩,lf l an N ak ai aj,zAc.2 ⟨ak,aj⟩⟩
 have a4:∀a b:Nat,d[a]?=some b->b<=e.length/\a<=e.length:=fun a b x=>by have k:=l.lt (zAd x);rw [aO] at k;have M:=(zAc.1 x).1;omega
 have au:∀a,d[a]?=some c->a=aa:=fun a N=>tJ l N a1;rw [Z] at K;rw [Z] at Y aX aV a3 a6 a4;have b3:decide ((c:Int) < 0)=false:=by simp
 have aW:¬i < c:=oM;have b4:decide (i < c)=false:=zBy aW;obtain ⟨r,aA,ay,af,az,ag,I⟩:=hqq7 K a6 aq ar a4 au Y;have ae:=lhd (cX (dR e) (rs:=d));obtain ⟨mv,O⟩:=K.blk;have aD:=O.cell 0;have aE:=O.cell 1;have aS:=O.lt;clear K a6 aq ar a4 au Y l a1 Z a3 O;go_enter func79,ntmps79;go_wp2_with fail;refine (bL j gl _ i w r.out.lvw I.out oM).mono ?_;rintro m w1 ⟨rfl,rfl⟩;go_wp2_with fail;refine (bL j gl _ i w r.out.lvw I.out oM).mono ?_;rintro m w1 ⟨rfl,rfl⟩;go_wp2_with fail;have a5:=nW gp (i+1) (i+1) t c w r.out.perm;unfold sF at a5;refine a5.mono ?_;rintro m aw ⟨b8,rfl,H,al⟩;clear a5;have a9:VB j w aw:=VisK.of_below al;have M:=r.out.vis a9.1;obtain ⟨b6,Q⟩:=M.blk;have aH:=Q.cell 0;have aJ:=Q.cell 1;have aU:=Q.lt;obtain ⟨ax,ah⟩:=hqq2 M a9;clear al a9 M aD aE aS Q;rcases H with ⟨H,_⟩|⟨⟨b5,q⟩,aQ,H,a2,_⟩
 · subst H;go_wp2_with fail;go_loopw [5,6] (fun g ad wr=>∃a f:Nat,c<=a/\a<=i/\d[f]?=some a/\g=.int .i64 (a:Int)/\ad=.int .i64 (f:Int)/\VB j w wr) (fun g _ _=>(intOf g).toNat)
   case atStart=>exact ⟨i,0,by omega,zAs _,aA.out,rfl,rfl,ah.out⟩
   case round=>
    obtain ⟨a,f,aY,aL,z,rfl,rfl,o⟩:=hrel;have k:=r.out.vis o.1;obtain ⟨b1,n⟩:=k.blk;have aG:=n.cell 0;have aT:=n.lt;obtain ⟨v,S,u⟩:=hqq3 o k z;clear k o z n;by_cases aM:c < a
    · obtain ⟨b,y⟩:∃b,a=b+1:=⟨a - 1,by omega⟩;obtain ⟨s,ab,C,D,E⟩:=af.out f b (by rw [<-y];exact u.out);have aK:IntKind.i64.wrap ((a:Int) - 1)=(b:Int):=(by rw [IntKind.wrap_i64];omega);obtain ⟨U,V,W⟩:=hqq3 C D E;have a0:c<=b:=oM;have aN:b < a:=oM;clear C D E y;go_wp2_with fail;refine (lH j gk _ f s wr S.out.walk U.out ae.out (by rw [I.out];omega)).mono ?_;rintro m b2 ⟨rfl,F⟩;rw [V.out];have G:=v.out.trans F;have X:=lhd G;clear F G;go_wp2_with fail;go_roundw
      case rel=>exact ⟨b,ab,a0,by omega,W.out,by go_num,by first | rfl | trivial,X.out⟩
      case measure=>simp [intOf];omega
    · obtain rfl:a=c:=oM;have a7:=ag.out f u.out;subst a7;go_wp2_with fail;go_ret;exact ⟨rfl,v.out⟩
 · subst H;have a2:c<=q:=a2;have ao:∃g∈t,g.2=q:=⟨_,aQ,rfl⟩;have aZ:decide ((q:Int)>=0)=true:=(by simp);go_wp2_with fail;have a8:=qS gp (i+1) (i+1) t q aw ax.out.perm ao;unfold wP at a8;refine a8.mono ?_;rintro m b7 ⟨ac,ap,rfl,am⟩;have A:=ay.out _ ap;have A:d[ac]?=some q:=A;have av:=ah.out.below am;obtain ⟨aB,aC⟩:=hqq2 A av;have b0:=(az.out ac q A).1;clear a8 ap A am av ao aH aJ aU aZ;go_wp2_with fail;go_loopw [5,6] (fun g ad wr=>∃a f:Nat,c<=a/\a<=i/\d[f]?=some a/\g=.int .i64 (a:Int)/\ad=.int .i64 (f:Int)/\VB j w wr) (fun g _ _=>(intOf g).toNat)
   case atStart=>exact ⟨q,ac,a2,b0,aB.out,rfl,rfl,aC.out⟩
   case round=>
    obtain ⟨a,f,aY,aL,z,rfl,rfl,o⟩:=hrel;have k:=r.out.vis o.1;obtain ⟨b1,n⟩:=k.blk;have aG:=n.cell 0;have aT:=n.lt;obtain ⟨v,S,u⟩:=hqq3 o k z;clear k o z n;by_cases aM:c < a
    · obtain ⟨b,y⟩:∃b,a=b+1:=⟨a - 1,by omega⟩;obtain ⟨s,ab,C,D,E⟩:=af.out f b (by rw [<-y];exact u.out);have aK:IntKind.i64.wrap ((a:Int) - 1)=(b:Int):=(by rw [IntKind.wrap_i64];omega);obtain ⟨U,V,W⟩:=hqq3 C D E;have a0:c<=b:=oM;have aN:b < a:=oM;clear C D E y;go_wp2_with fail;refine (lH j gk _ f s wr S.out.walk U.out ae.out (by rw [I.out];omega)).mono ?_;rintro m b2 ⟨rfl,F⟩;rw [V.out];have G:=v.out.trans F;have X:=lhd G;clear F G;go_wp2_with fail;go_roundw
      case rel=>exact ⟨b,ab,a0,by omega,W.out,by go_num,by first | rfl | trivial,X.out⟩
      case measure=>simp [intOf];omega
    · obtain rfl:a=c:=oM;have a7:=ag.out f u.out;subst a7;go_wp2_with fail;go_ret;exact ⟨rfl,v.out⟩
end
section
open Go.RowKit Go.Shelf
def VisF.mono {F G:Nat->Prop} {w w':World} (b:VisF F w w') (e:∀a,a < w.heap.size->F a->G a):VisF G w w':=⟨b.os,b.tape,b.output,b.size,fun a c f=>b.block a c fun d=>f (e a c d)⟩
def VisF.trans' {b d:Nat->Prop} {w w1 w':World} (g:VisF b w w1) (k:VisF d w1 w') (j:∀a,a < w.heap.size->d a->b a):VisF b w w':=by
 have i:=VisF.trans (F:=fun a=>b a∨w.heap.size<=a) (g.mono fun a _ c=>.inl c) (k.mono fun a _ f=>by
  by_cases e:a < w.heap.size;exact .inl (j a e f)
  · exact .inr oM)
 exact i.mono fun a m c=>c.elim id fun l=>by omega
structure LF (B:Nat) (w w':World) (own own':Nat->Nat):Prop where
 old:∀b,b < w.heap.size->own' b=own b
 vis:VisF (fun b=>own b≠0) w w'
 keep:Keep (fun b=>B<=b) w w'
def LF.refl (B:Nat) (w:World) (own:Nat->Nat):LF B w w own own:=⟨fun _ _=>rfl,VisF.of_vis (Vis.refl w),Keep.refl _ _⟩
def LF.trans {B:Nat} {w w1 w':World} {own e own':Nat->Nat} (a:LF B w w1 own e) (d:LF B w1 w' e own'):LF B w w' own own':=by
 have g:=a.keep.size;refine ⟨fun b c=>(d.old b oM).trans (a.old b c),a.vis.trans' d.vis fun b c f=>?_,a.keep.trans d.keep⟩;rw [<-a.old b c];exact f
def LF.of_vb {B:Nat} {w w':World} {own:Nat->Nat} (a:VB B w w'):LF B w w' own own:=⟨fun _ _=>rfl,VisF.of_vis a.1,a.2⟩
structure LiveM (w:World) (B:Nat) (own:Nat->Nat) (gl gk gp rate:Nat) (mv:Int) (R P:Nat) (L T:List Nat) (pr:List (Nat×Nat)):Prop where
 blk:Bk w gl 69 #[gk,gp,(rate:Int),.int .i64 mv]
 col:own gl=3
 walk:WalkE w B own gk L T
 perm:PermE w (fun b=>own b=1) gp R P pr
section
variable {w w' : World} {B : Nat} {own own' : Nat -> Nat} {gl gk gp rate : Nat} {mv : Int} {R P R' P' : Nat} {L T L' T' : List Nat} {pr pr' : List (Nat × Nat)}
def LiveM.bnd (b:LiveM w B own gl gk gp rate mv R P L T pr):∀a,own a≠0->B<=a/\a < w.heap.size:=b.walk.bnd
def LiveM.lo (a:LiveM w B own gl gk gp rate mv R P L T pr):B<=gl:=(a.bnd gl (by rw [a.col];decide)).1
def LiveM.gw (c:LiveM w B own gl gk gp rate mv R P L T pr):∃a b,Bk w gk 147 #[.pointer (some ⟨a,0,none⟩),.pointer (some ⟨b,0,none⟩)]/\WaveAt w B a L:=by
 obtain ⟨a,b,d,_,e,_⟩:=c.walk;exact ⟨a,b,d,e.at⟩
def LiveM.vis (a:LiveM w B own gl gk gp rate mv R P L T pr) (b:Vis w w'):LiveM w' B own gl gk gp rate mv R P L T pr:=
 ⟨b.bk a.blk dC dC,a.col,a.walk.vis b,a.perm.vis b⟩
def LiveM.walkOp (c:LiveM w B own gl gk gp rate mv R P L T pr) (f:WalkE w' B own' gk L' T') (a:Grew w w' own own'):LiveM w' B own' gl gk gp rate mv R P L' T' pr/\LF B w w' own own':=by
 have e:=c.bnd;refine ⟨⟨a.keep.bk c.blk (fun d=>by have:=c.col;omega),by rw [a.old _ c.blk.lt];exact c.col,f,(c.perm.keep a.keep fun b d=>by omega).mono fun b _ d=>?_⟩,a.old,VisF.of_keep (a.keep.mono fun b _ d=>by omega),a.keep.mono fun b _ d=>(e b oM).1⟩;rw [a.old b (e b oM).2];exact d
def LiveM.permOp (c:LiveM w B own gl gk gp rate mv R P L T pr) (l:PermE w' (Gw (fun a=>own a=1) w.heap.size) gp R' P' pr') (e:Keep (fun a=>own a=1) w w'):LiveM w' B (cO own w.heap.size w'.heap.size 1) gl gk gp rate mv R' P' L T pr'/\LF B w w' own (cO own w.heap.size w'.heap.size 1):=by
 have g:=c.bnd;have j:∀a,a < w.heap.size->cO own w.heap.size w'.heap.size 1 a=own a:=fun a i=>by unfold cO;rw [zBx i]
 have n:B<=w.heap.size:=by have:=c.lo;have:=c.blk.lt;omega
 have o:=e.size;refine ⟨⟨e.bk c.blk (fun b=>by have:=c.col;omega),by rw [j _ c.blk.lt];exact c.col,(c.walk.far e fun a b=>⟨by omega,by omega⟩).paint (fun a i m=>?_) (fun a d=>?_),l.mono fun a i b=>?_⟩,j,VisF.of_keep (e.mono fun a _ b=>by omega),e.mono fun a _ b=>(g a oM).1⟩;by_cases f:a < w.heap.size;exact j a f;have:=(g a oM).2;omega;unfold cO at d;by_cases f:a < w.heap.size;rw [zBx f] at d;have:=g a d;exact ⟨this.1,by omega⟩;rw [zBw f] at d;by_cases k:a < w'.heap.size;exact ⟨by omega,k⟩;rw [zBw k] at d;exact absurd rfl d
 · rcases b with b | b;rw [j a (g a oM).2];exact b
   · unfold cO;rw [zBw oM,zBx i]
def LiveM.setMv (c:LiveM w B own gl gk gp rate mv R P L T pr) (f:Int):LiveM (w.setCell ⟨gl,3,none⟩ (.int .i64 f)) B own gl gk gp rate f R P L T pr/\LF B w (w.setCell ⟨gl,3,none⟩ (.int .i64 f)) own own:=by
 have e:Keep (fun a=>a=gl) w (w.setCell ⟨gl,3,none⟩ (.int .i64 f)):=Keep.setCell (F:=fun a=>a=gl) (Keep.refl _ _) (p:=⟨gl,3,none⟩) (.inl rfl) _;have i:=c.col;refine ⟨⟨c.blk.set 3 _,c.col,c.walk.far e fun a b=>?_,c.perm.keep e fun a b g=>?_⟩,fun _ _=>rfl,VisF.of_keep (e.mono fun a _ b=>?_),e.mono fun a _ b=>?_⟩;have g:a=gl:=b;subst g;exact ⟨by omega,by omega⟩;have d:a=gl:=g;subst d;omega;have d:a=gl:=b;subst d;show own a≠0;omega;have d:a=gl:=b;subst d;exact c.lo
def LiveM.len (b:LiveM w B own gl gk gp rate mv R P L T pr):LvW w B gl L∨¬T.Perm L:=by
 by_cases a:T.Perm L;exact .inl ⟨gk,_,_,_,b.blk,b.walk.at a⟩;exact .inr a
def LiveM.permR (g:LiveM w B own gl gk gp rate mv R P L T pr):PermR w gp R P pr:=by
 obtain ⟨⟨f,m,n,o,l,j,d,k,e,a,b⟩,c,p⟩:=g.perm;rw [b] at c;have i:=List.pairwise_map.1 c;have q:=gA a.nd a.at_.lt;exact ⟨0,f,m,n,o,l,j,d,k,e,a.at_,i,a.sz,by have:=a.sz;omega,b⟩
def LiveM.g (a:LiveM w B own gl gk gp rate mv R R L T pr) (b:T.Perm L):LiveG w B gl gk gp rate R L pr:=⟨⟨mv,a.blk⟩,a.walk.at b,a.permR⟩
end
section
variable {w : World} {B : Nat} {own : Nat -> Nat} {gl gk gp rate : Nat} {mv : Int} {R P : Nat} {L T : List Nat} {pr : List (Nat × Nat)}
def tW (a b:Nat) (c:LiveM w B own gl gk gp rate mv R P L T pr) (g:L[a]?=some b) (f:∀n∈L,n < 257) (m:L.length<=1000) (l:T.length<=1000):
 Calls prog 140 #[gl,(a:Int)] w fun e w'=>e=.returned (.int .i64 ((pP L T b a:Nat):Int))/\VB B w w':=by
 have d:=nU B gk L T a b w c.walk.atT g f m l;have o:=c.blk.cell 0;obtain ⟨p,i⟩:=eqx (pP L T b a);rw [i] at d⊢;clear c g f i;go_enter func140,ntmps140;go_wp2_with fail;refine d.mono ?_;rintro e w' ⟨rfl,j⟩;have k:=lhd j;clear d j;go_wp2_with fail;go_ret;exact ⟨rfl,k.out⟩
def mM (b:Nat) (w:World) (gl:Nat):
 Calls prog 130 #[gl,.int .i64 0,(b:Int)] w fun a w'=>a=.returned (.int .i64 (-1))/\w=w':=by
 go_enter func130,ntmps130;go_wp2_with fail;go_ret;exact ⟨rfl,rfl⟩
def oR (c a b:Nat) (d:LiveM w B own gl gk gp rate mv R P L T pr) (q:0 < c) (i:L[a]?=some b) (g:∀o∈L,o < 257) (n:L.length<=1000) (m:T.length<=1000):
 Calls prog 130 #[gl,(c:Int),(a:Int)] w fun f w'=>f=.returned (.int .i64 ((pP L T b a:Nat):Int))/\VB B w w':=by
 have e:=nU B gk L T a b w d.walk.atT i g n m;have p:=d.blk.cell 0;have r:((c:Int)==0)=false:=by rw [zCb];omega
 obtain ⟨s,j⟩:=eqx (pP L T b a);rw [j] at e⊢;clear d i g j;go_enter func130,ntmps130;go_wp2_with fail;refine e.mono ?_;rintro f w' ⟨rfl,k⟩;have l:=lhd k;clear e k;go_wp2_with fail;go_ret;exact ⟨rfl,l.out⟩
end
def inI (a b:Int):Int:=if a>=b then a+1 else a
def aAg (a b:Int):Int:=if a > b then a - 1 else a
def tO (b a:Nat):inI (b:Int) (a:Int)=((inR b a:Nat):Int):=by
 unfold inI inR;split <;> split <;> omega
def kG (b a:Nat):aAg (b:Int) (a:Int)=((aS b a:Nat):Int):=by
 unfold aAg aS;split <;> split <;> omega
def aEo (a:Nat):inI (-1) (a:Int)=-1:=by unfold inI;rw [zBw oM]
def aBG (a:Nat):aAg (-1) (a:Int)=-1:=by unfold aAg;rw [zBw oM]
def iP (a b:Int) (w:World) (f:-1000000<=a/\a<=1000000):
 Calls prog 143 #[.int .i64 a,.int .i64 b] w fun d w'=>d=.returned (.int .i64 (inI a b))/\w=w':=by
 unfold inI;by_cases c:a>=b
 · rw [zBx c];have e:wrap64 (a+1)=a+1:=dH oM oM;go_enter func143,ntmps143;go_wp2_with fail;go_ret;exact ⟨rfl,rfl⟩
 · rw [zBw c];go_enter func143,ntmps143;go_wp2_with fail;go_ret;exact ⟨rfl,rfl⟩
def kQ (a b:Int) (w:World) (f:-1000000<=a/\a<=1000000):
 Calls prog 138 #[.int .i64 a,.int .i64 b] w fun d w'=>d=.returned (.int .i64 (aAg a b))/\w=w':=by
 unfold aAg;by_cases c:a > b
 · rw [zBx c];have e:IntKind.i64.wrap (a - 1)=a - 1:=(by rw [IntKind.wrap_i64];omega);go_enter func138,ntmps138;go_wp2_with fail;go_ret;exact ⟨rfl,rfl⟩
 · rw [zBw c];go_enter func138,ntmps138;go_wp2_with fail;go_ret;exact ⟨rfl,rfl⟩
def aD3 (a d b:Nat) (w:World) (q:0 < a∨¬d < b) (p:a<=1000000):
 Calls prog 210 #[(a:Int),(d:Int),(b:Int)] w fun k w'=>k=.returned (.int .i64 ((aHB a d b:Nat):Int))/\w=w':=by
 unfold aHB;by_cases j:d < b
 · obtain ⟨c,o⟩:∃c,a=c+1:=⟨a - 1,by omega⟩;subst o;have n:(d:Int) < (b:Int):=oM;have l:IntKind.i64.wrap (((c+1:Nat):Int) - 1)=(c:Int):=(by rw [IntKind.wrap_i64];omega);obtain ⟨a,i⟩:=eqx (c+1);rw [i] at l⊢;have e:(if d < b then a - 1 else a)=c:=(by rw [zBx j];omega);simp only [e];by_cases f:b<=c
   · have g:(c:Int)>=(b:Int):=oM;have m:wrap64 ((c:Int)+1)=((c+1:Nat):Int):=(by rw [dH oM oM];rfl);rw [zBx f];clear e i;go_enter func210,ntmps210;go_wp2_with fail;go_ret;exact ⟨rfl,rfl⟩
   · have g:¬(c:Int)>=(b:Int):=oM;rw [zBw f];clear e i;go_enter func210,ntmps210;go_wp2_with fail;go_ret;exact ⟨rfl,rfl⟩
 · have n:¬(d:Int) < (b:Int):=oM;have e:(if d < b then a - 1 else a)=a:=(by rw [zBw j]);simp only [e];by_cases f:b<=a
   · have g:(a:Int)>=(b:Int):=oM;have m:wrap64 ((a:Int)+1)=((a+1:Nat):Int):=(by rw [dH oM oM];rfl);rw [zBx f];clear e;go_enter func210,ntmps210;go_wp2_with fail;go_ret;exact ⟨rfl,rfl⟩
   · have g:¬(a:Int)>=(b:Int):=oM;rw [zBw f];clear e;go_enter func210,ntmps210;go_wp2_with fail;go_ret;exact ⟨rfl,rfl⟩
def aA9 (gl:Nat) (d e f:Value) (mv a b:Int) (w:World) (c:Bk w gl 69 #[d,e,f,.int .i64 mv]) (k:0<=a) (l:a<=b):
 Calls prog 129 #[gl,.int .i64 a,.int .i64 b] w fun g w'=>g=.returned (.int .i64 0)/\w'=w.setCell ⟨gl,3,none⟩ (.int .i64 0):=by
 have i:w.cell? ⟨gl,3,none⟩=some (.int .i64 mv):=(c.cell 3).trans rfl;have j:=c.frozen 3;have m:decide (a < 0)=false:=zBy oM;have n:¬a > b:=oM;have o:¬b < a:=oM;clear c;go_enter func129,ntmps129;go_wp2_with fail;go_ret;exact ⟨rfl,rfl⟩
end
section
open Go.RowKit
def TpAt (w:World) (d gl:Nat) (a:List UInt8) (rate:Nat):Prop:=
 ∃c gk gp pr,IsSuf (aI a) c/\LiveG w d gl gk gp rate (a.length+1) (aF (aI a) c) pr/\(∀b∈pr,c[b.1]?=some b.2)/\(∃b∈pr,b.2=0)/\a.length<=127
def TpAt.vis {w w':World} {a gl:Nat} {b:List UInt8} {rate:Nat} (c:TpAt w a gl b rate) (g:Vis w w'):TpAt w' a gl b rate:=by
 obtain ⟨i,gk,gp,pr,d,e,f⟩:=c;exact ⟨i,gk,gp,pr,d,e.vis g,f⟩
def VB.grow {k:Nat} {w w1 l:World} (b:VB k w w1) (a:Below w.heap.size w1 l):VB k w l:=
 ⟨⟨a.os.trans b.1.os,a.tape.trans b.1.tape,a.output.trans b.1.output,zAk b.1.size a.size,fun d c i=>by
   rcases b.1.block d c i with m |⟨e,j,f,g⟩|⟨e,j,f,g⟩;exact .inl ((a.block d c).trans m);exact .inr (.inl ⟨e,j,f,g.below a c⟩)
   · exact .inr (.inr ⟨e,j,f,g.below a c⟩)⟩,
  ⟨a.os.trans b.2.os,a.tape.trans b.2.tape,a.output.trans b.2.output,zAk b.2.size a.size,fun d c i=>(a.block d c).trans (b.2.block d c i)⟩⟩
def TpAt.mono {w:World} {B B' gl:Nat} {a:List UInt8} {rate:Nat} (b:TpAt w B gl a rate) (f:B'<=B):TpAt w B' gl a rate:=by
 obtain ⟨g,gk,gp,pr,c,d,e⟩:=b;exact ⟨g,gk,gp,pr,c,d.mono f,e⟩
def aH4 (w:World) (b:TypeId) (a:Array Value) (c:Nat×Nat) (d:Nat) (e:a.size=d):Rd (w.alloc (.cells a b c)) (w.heap.size+1) 1 (some ⟨w.heap.size,0,none⟩) d a.toList:=by
 refine ⟨by simp [e],fun _=>⟨_,0,rfl,by omega,fun g i f=>?_⟩⟩;rw [zBi,cell_of_row (w.alloc (.cells a b c)) w.heap.size g a b c (heap_alloc_new w _)];simpa using f
def aER (w:World) (a:Array Value) (c b:Nat):(convert 34 34 (.slice (some w.heap.size) c b)).run prog (w.alloc (.cells a 5))=.ok (.slice (some w.heap.size) c b) (w.alloc (.cells a 5 (a.size,a.size+1))):=
 Lib.run_convert_bytes_const (P:=prog) w 34 5 a c b underlying34 underlying5
def mC (L:List Nat) (b a:Nat):Array Value:=((L.take a).map sv++List.replicate (b - a) (Value.int .i64 0)).toArray
def aDt (L:List Nat) (a:Nat):mC L a 0=Array.replicate a (Value.int .i64 0):=by
 unfold mC;apply Array.ext';simp
def aFr (L:List Nat) (a:Nat) (b:L.length=a):mC L a a=(L.map sv).toArray:=by
 unfold mC;rw [zAg oM,Nat.sub_self];simp
def aDu (L:List Nat) (a b:Nat) (c:L.length=a) (d:b<=a):(mC L a b).size=a:=by
 unfold mC;simp;omega
def aFq {L:List Nat} {b a d:Nat} (g:L.length=b) (c:L[a]?=some d):(mC L b a).setIfInBounds a (.int .i64 (d:Int))=mC L b (a+1):=by
 have i:=(zAc.1 c).1;apply Array.ext';unfold mC;rw [Array.toList_setIfInBounds,zAv,c];have e:b - a=(b -(a+1))+1:=oM;rw [e,List.replicate_succ];have f:((L.take a).map sv).length=a:=by rw [zBc,zAj];omega
 show List.set ((L.take a).map sv++(Value.int .i64 0::List.replicate (b -(a+1)) (Value.int .i64 0))) a _=_;rw [List.set_append_right _ _ oM,f,Nat.sub_self,zAz,zCn];rfl
def aDk {w:World} {B a n:Nat} {c:TypeId} {b:List Value} (g:Bk w a c b.toArray) (i:B<=a) (e:b.length=n) (d:n<=maxLen):Made w B c 1 (some ⟨a,0,none⟩) n n b:=by
 have f:w.ownsRow B c 1 (.slice (some a) n n) n b:=⟨by omega,.inr ⟨a,n,b.toArray,rfl,i,g,zAs _,d,by simp [e],by rw [zBl,zAg (by simp [e])]⟩⟩;exact ⟨f,Rd.of_own f,zAs _,d⟩
def iE (w:World) (B:Nat) (L:List Nat) (c:Ending) (w':World):Prop:=∃a b,c=.returned (.slice a L.length b)/\Made w' w.heap.size 3 1 a L.length b (L.map sv)/\VB B w w'
def aCc (B d:Nat) (L:List Nat) (w:World) (A:WaveAt w B d L) (C:∀a8∈L,a8 < 257) (H:L.length<=1000):
 Calls prog 194 #[d] w (iE w B L):=by
 have O:=A;obtain ⟨a4,o,j,e,a7⟩:=A;obtain ⟨b,m⟩:=eqx L.length;rw [m] at e;have a3:w.cell? ⟨d,9,none⟩=some (.int .i64 (b:Int)):=(e.cell 9).trans (aZ o b j).2.2.2.2.2.2.2.2.2.1;have z:w.cell? ⟨d,10,none⟩=some (.int .i64 j):=(e.cell 10).trans (aZ o b j).2.2.2.2.2.2.2.2.2.2;have af:=e.lt;have a6:=lV b oM;obtain ⟨a2,W,V,c,Z⟩:=hqq5 O e C m H;rw [m] at H;clear O e C m a7;unfold iE;go_enter func194,ntmps194;go_wp2_with fail;have E:Bk (w.alloc (.cells (Array.replicate b (.int .i64 0)) 3)) w.heap.size 3 (mC L b 0):=by rw [aDt];exact Bk.new _ _ _
 have K:VB B w (w.alloc (.cells (Array.replicate b (.int .i64 0)) 3)):=vR.alloc _;go_loopw [19] (fun v wr=>∃a:Nat,a<=b/\v=.int .i64 (a:Int)/\Bk wr w.heap.size 3 (mC L b a)/\VB B w wr) (fun v _=>b -(intOf v).toNat)
 case atStart=>exact ⟨0,zAp _,rfl,E,K⟩
 case round=>
  obtain ⟨a,ae,rfl,D,s⟩:=hrel;clear E K a6 a3 z;have ag:=s.1.size;obtain ⟨x,k⟩:=hqq2 D s;clear D s;by_cases r:a < b
  · obtain ⟨i,J⟩:∃i,L[a]?=some i:=⟨_,zAa (by rw [c.out];exact r)⟩;have y:=lhd J;clear J;go_wp2_with fail;refine (dN B d L a i wr (a2.out.vis k.out.1) (by rw [c.out];exact r) (zAc.1 y.out).2 V.out Z.out).mono ?_;rintro a9 U ⟨rfl,t⟩;have g:=t.1.bk x.out dC dC;have u:=k.out.trans t;have ad:=g.lt;have ab:=g.frozen a;have q:=g.set a (.int .i64 (i:Int));rw [aFq c.out y.out] at q;have a5:∃Q,U.cell? ⟨w.heap.size,a,none⟩=some Q:=⟨_,(g.cell a).trans (zAq (by rw [aDu L b a c.out oM];exact r))⟩;obtain ⟨Q,ah⟩:=a5;have M:VB B w (U.setCell ⟨w.heap.size,a,none⟩ (.int .i64 (i:Int))):=⟨Vis.fresh u.1 (p:=⟨w.heap.size,a,none⟩) nL _,Keep.setCell u.2 (p:=⟨w.heap.size,a,none⟩) (.inr nL) _⟩;obtain ⟨X,a0⟩:=hqq2 q M;clear g q t u M;go_wp2_with fail;go_roundw
    case rel=>exact ⟨a+1,by omega,by go_num,X.out,a0.out⟩
    case measure=>simp [intOf];omega
  · obtain rfl:a=b:=oM;have l:=x.out;rw [aFr L a c.out] at l;obtain ⟨S,f⟩:=k.out.1.waveC W.out;have z:wr.cell? ⟨d,10,none⟩=some (.int .i64 S):=(f.cell 10).trans (aZ o a S).2.2.2.2.2.2.2.2.2.2;have aa:=f.frozen 10;have ac:=f.lt;have N:=k.out.trans (VB.set_wave f a4 j);have I:=Bk.ne l f dC;have F:=l.far (p:=⟨d,10,none⟩) I (.int .i64 j);have G:=aDk (B:=w.heap.size) (n:=a) F nL (by rw [zBc];exact c.out) (by unfold maxLen;omega);obtain ⟨Y,a1⟩:=hqq2 G N;clear l f N F G I;go_wp2_with fail;go_ret;exact ⟨_,_,by rw [c.out];rfl,by rw [c.out];exact Y.out,a1.out⟩
def aCf (B gk:Nat) (L:List Nat) (w:World) (n:WalkAt w B gk L) (p:∀q∈L,q < 257) (e:L.length<=1000):
 Calls prog 120 #[gk] w (iE w B L):=by
 obtain ⟨m,t,b,c,o⟩:=n;have r:=b.cell 0;have a:=aCc B m L w c p e;unfold iE at a⊢;obtain ⟨u,f⟩:=eqx L.length;rw [f] at a⊢;clear b c o f e;go_enter func120,ntmps120;go_wp2_with fail;refine a.mono ?_;rintro s v ⟨i,l,rfl,d,g⟩;obtain ⟨j,k⟩:=hqq2 d g;clear a d g;go_wp2_with fail;go_ret;exact ⟨i,l,rfl,j.out,k.out⟩
def qX (b gl gk gp n rate:Nat) (L:List Nat) (k:List (Nat×Nat)) (w:World) (c:LiveG w b gl gk gp rate n L k) (p:∀q∈L,q < 257) (f:L.length<=1000):
 Calls prog 70 #[gl] w (iE w b L):=by
 obtain ⟨mv,d⟩:=c.blk;have r:=d.cell 0;have a:=aCf b gk L w c.walk p f;clear d;unfold iE at a⊢;obtain ⟨t,g⟩:=eqx L.length;rw [g] at a⊢;clear c g f;go_enter func70,ntmps70;go_wp2_with fail;refine a.mono ?_;rintro s u ⟨j,o,rfl,e,i⟩;obtain ⟨l,m⟩:=hqq2 e i;clear a e i;go_wp2_with fail;go_ret;exact ⟨j,o,rfl,l.out,m.out⟩
def qV (c gl gk gp f rate:Nat) (L:List Nat) (d:List (Nat×Nat)) (w:World) (a:LiveG w c gl gk gp rate f L d):
 Calls prog 124 #[gl] w fun e w'=>e=.returned (.int .i64 (rate:Int))/\w=w':=by
 obtain ⟨mv,b⟩:=a.blk;have g:=b.cell 2;clear a b;go_enter func124,ntmps124;go_wp2_with fail;go_ret;exact ⟨rfl,rfl⟩
def aIG (L:List Nat):L.map sv=(iK L).map iv:=by
 unfold iK;rw [zCg];rfl
def gG (w:World) (d:Nat) (a:List UInt8) (e:Ending) (w':World):Prop:=
 ∃b c,e=.returned (.tuple #[.slice b a.length c,.int .i64 0])/\Made w' w.heap.size 5 1 b a.length c (a.map bv)/\VB d w w'
def qP (k gl gk gp rate f:Nat) (j:List UInt8) (c:List Nat) (af:List (Nat×Nat)) (w:World) (v:LiveG w k gl gk gp rate (j.length+1) (aF (aI j) c) af) (bM:∀i∈af,c[i.1]?=some i.2) (r:IsSuf (aI j) c) (bA:j.length<=127) (bJ:1<=rate) (cZ:rate<=64) (cs:j.length<=f) (cQ:f<=2147483648):
 Calls prog 73 #[gl,(f:Int)] w (gG w k (fA (aF (aI j) c) c f rate j.length)):=by
 obtain ⟨c1,bo,bY,bZ,c0⟩:=info_parts jN;obtain ⟨L,aq⟩:=eqx (aF (aI j) c);have D:=cX (rs:=c) (dR j);have Q:L.length=j.length+1:=by rw [<-aq,bH,r.len,aO]
 have aJ:∀d w1,VB k w w1->d*rate<=j.length->Calls prog 79 #[gl,.int .i64 ((d*rate:Nat):Int)] w1 fun e w'=>e=.returned (.int .i64 ((c.idxOf (d*rate):Nat):Int))/\VB k w1 w':=fun d w1 s bq=>by have cu:d*rate∈c:=r.mem (by rw [aO];omega);exact eZ k gl gk gp rate j c af (c.idxOf (d*rate)) (d*rate) w1 (v.vis s.1) bM r bA (zAc.2 ⟨List.idxOf_lt_length_iff.2 cu,List.getElem_idxOf _⟩)
 rw [aq] at v D⊢;obtain ⟨b,bg⟩:=eqx j.length;have bp:∀i,c.idxOf i<=128:=fun i=>by have:=List.idxOf_le_length (a:=i) (l:=c);rw [r.len,aO] at this;omega
 have a3:=qX k gl gk gp (j.length+1) rate L _ w v D oM;unfold iE at a3;rw [bg] at Q aJ cs bA⊢;rw [Q] at a3;have br:=v.lvw;have bF:=aDr D;have bm:=oK L;rw [Q] at bm;obtain ⟨X,cd,ci,cH,aj,ch,ca⟩:=hqq7 v br aJ D Q bF bp;have cE:¬f < b:=oM;have d9:decide (f < b)=false:=zBy cE;have cF:¬((f:Int) > 2147483648):=oM;have da:decide ((f:Int) > 2147483648)=false:=zBy cF;have d7:0 < w.heap.size:=Nat.lt_of_le_of_lt (zAp _) v.lt;clear bM v br aJ D Q bF aq r bg bp;unfold gG;go_enter func73,ntmps73;go_wp2_with fail;refine (bL k gl _ b w cd.out aj.out oM).mono ?_;rintro e w1 ⟨rfl,rfl⟩;go_wp2_with fail;refine a3.mono ?_;clear a3;rintro e w1 ⟨c5,cj,rfl,bs,bT⟩;have aK:=aDT c5 (b+1) cj w1.heap.size (iK L) w1 (by rw [<-aIG];exact bs.rd) nL oM;rw [ch.out] at aK;have am:=lhd bT;clear bs bT;go_wp2_with fail;refine aK.mono ?_;clear aK;rintro e t ⟨cz,bh⟩;obtain ⟨cI,aP,bf,N,rfl,az⟩:=cz.resolve_right (fun ⟨cw,_⟩=>by cases cw);injection N with N;obtain ⟨a8,O⟩:=eqx ((fM L).length);rw [<-N,O] at az;rw [<-N,O];rw [O] at bm;have bU:VB k w t:=am.out.below bh;have I:=lhd bU;have b5:=lhd (az.mono (B':=w.heap.size) am.out.1.size);have cb:=lhd O;clear bh N az O bU am;go_wp2_with fail;go_loopw [8,9] (fun cG aM wr=>∃d m:Nat,d<=b / rate+1/\aM=.int .i64 ((d*rate:Nat):Int)/\wr.ownsRow t.heap.size 5 1 cG m ((zW c rate d).map bv)/\VB k t wr) (fun _ aM _=>(b+65 -(intOf aM).toNat))
 case atStart=>exact ⟨0,0,zAp _,by simp,World.ownsRow_nil _ _ _ _,VisK.refl _ _⟩
 case round=>
  obtain ⟨d,m,bq,rfl,E,s⟩:=hrel;have cV:m<=1500:=by have cn:=E.1;have cJ:=pC c rate d;have cK:b / rate<=b:=Nat.div_le_self _ _;simp at cn;omega
  obtain ⟨W,aE⟩:=eqx (d*rate);have U:=I.out.trans s;have a4:=bL k gl _ b wr (X.out.vis U.1).lvw aj.out oM;have d4:=U.1.size;have d5:=s.1.size;by_cases D:W<=b
  · have a6:=ci.out d wr U oM;have aD:=rL c rate d;obtain ⟨i,aL⟩:=eqx (c.idxOf (d*rate));have d8:i<=128:=(by rw [<-aL];exact ca.out _);have cv:=aIY bJ (by omega:d*rate<=b);have cy:(d+1)*rate=W+rate:=(by rw [Nat.add_mul,aE,Nat.one_mul]);rw [aL] at a6 aD;rw [aE] at a6;rw [aE];obtain ⟨a9,ay⟩:=eqx ((bP i).length);have cP:a9<=11:=(by rw [<-ay];exact cY i);have cU:W<=127:=oM;obtain ⟨cf,cc,q,H⟩:=hqq4 aD ay s E;clear aD ay s E U aL;go_wp2_with fail;refine a4.mono ?_;clear a4;rintro e F ⟨rfl,rfl⟩;go_wp2_with fail;refine a6.mono ?_;clear a6;rintro e F ⟨rfl,a7⟩;have bD:=a7.1.own H.out dC dC;have bb:=lhd bD;have bX:=q.out.trans a7;have d6:=a7.1.size;have bd:=lhd bX;clear bD a7 bX H q;go_wp2_with fail;refine (wQ _ _ _ _ [i] _ (bP i) a9 (oL i) cc.out (Rd.made _ _ 1 1 _ rfl) nL (by simp;omega) oM).mono ?_;rintro e g ⟨G,K,rfl,S,M⟩;have n:=((Below.refl F.heap.size F).alloc nL (.cells #[.int .u64 (i:Int)] 159)).trans (M.mono (by simp));have x:g.ownsRow t.heap.size 5 1 u8 m ((zW c rate d).map bv):=aQ (bb.out) n;have bO:=n.size;obtain ⟨Y,al⟩:=hqq2 S.rd (kX (bP i));have bV:=bd.out.below n;have bR:t.heap.size<=g.heap.size:=oM;have J:=lhd bV;clear S M n bb bd bV;go_wp2_with (at_builtin;refine bQ _ rfl (.tmp 41) (.tmp 47) _ rfl t.heap.size 5 c1 (.int .u8 0) 1 1 underlying34 bo bY bZ c0 rfl dC u8 m _ rfl x g.heap.size G a9 K _ rfl Y.out al.out (by unfold maxLen;omega) oM bR ?_;intro dd aN bE bn cp);have o:=bG (Below.refl t.heap.size g) x bn bR;have bW:=VB.grow J.out o;obtain ⟨be,cg⟩:=hqq2 bW bE;clear x bE bn cp o bW J;have bK:=qV k gl gk gp _ rate L _ aN (X.out.vis (I.out.trans be.out).1);go_wp2_with fail;refine bK.mono ?_;clear bK;rintro e c3 ⟨rfl,rfl⟩;have cM:IntKind.i64.wrap ((W:Int)+(rate:Int))=((W+rate:Nat):Int):=(by rw [IntKind.wrap_i64];omega);go_wp2_with fail;go_roundw
    case rel=>
        refine ⟨d+1,m+a9,cv,?_,?_,be.out⟩
        · rw [cy]
          first | rfl | exact dT oM
        rw [cf.out,zAz];exact cg.out
    case measure=>simp [intOf];omega
  · go_wp2_with fail;refine a4.mono ?_;clear a4;rintro e F ⟨rfl,rfl⟩;have cr:=aI2 bJ bq oM;subst cr;rw [<-tI] at E;obtain ⟨H,q⟩:=hqq2 E s;clear E s U;go_wp2_with fail;refine (qV k gl gk gp _ rate L _ wr (X.out.vis (I.out.trans q.out).1)).mono ?_;rintro e F ⟨rfl,rfl⟩;go_wp2_with fail;refine (bL k gl _ b wr (X.out.vis (I.out.trans q.out).1).lvw aj.out oM).mono ?_;rintro e F ⟨rfl,rfl⟩;go_wp2_with fail;obtain ⟨V,ax⟩:=eqx ((dE [f,rate,b]).length);have cO:V<=33:=(by rw [<-ax];have:=vI [f,rate,b];simpa using this);have b4:=lhd ax;clear ax;refine (wQ _ _ _ _ [f,rate,b] _ (dE [f,rate,b]) V rfl b4.out (Rd.made _ _ 1 3 _ rfl) nL (by simp;omega) oM).mono ?_;rintro e g ⟨G,K,rfl,S,M⟩;have n:=((Below.refl wr.heap.size wr).alloc nL (.cells #[.int .u64 (f:Int),.int .u64 (rate:Int),.int .u64 (b:Int)] 159)).trans (M.mono (by simp));have bO:=n.size;have x:g.ownsRow t.heap.size 5 1 u8 m ((uD c rate b).map bv):=aQ (H.out) n;have bC:g.ownsRow w.heap.size 5 1 (.slice aP a8 bf) a8 ((fM L).map bv):=aQ (q.out.1.own b5.out.own dC dC) n;obtain ⟨c8,cm,rfl,bu⟩:=aU x;obtain ⟨b6,bc,Y,J⟩:=hqq4 bu.rd (Rd.of_own bC) S.rd ((I.out.trans q.out).below n);have bI:(uD c rate b).length=m:=(by have:=x.1;simpa using this);clear S M n x bC bu H b5 q;have cD:=aER g;go_wp2_with fail;have a5:=aH4 g 5 #[.int .u8 83,.int .u8 75,.int .u8 82,.int .u8 49] (4,5) 4 rfl;obtain ⟨z,a2⟩:=eqx g.heap.size;rw [a2] at a5;have o:Below g.heap.size g (g.alloc (.cells #[.int .u8 83,.int .u8 75,.int .u8 82,.int .u8 49] 5 (4,5))):=(Below.refl g.heap.size g).alloc nL _;have cB:(g.alloc (.cells #[.int .u8 83,.int .u8 75,.int .u8 82,.int .u8 49] 5 (4,5))).heap.size=z+1:=(by simp [a2]);have Z:=bc.out.below o;have a0:=b6.out.below o;have a1:=Y.out.below o;have ar:=J.out.below o;rw [a2] at Z a0 a1 o bO⊢;generalize g.alloc (.cells #[.int .u8 83,.int .u8 75,.int .u8 82,.int .u8 49] 5 (4,5))=aN at a5 o cB Z a0 a1 ar⊢;obtain ⟨b8,aR,aS,aV,b2⟩:=hqq5 a5 Z a0 a1 ar;clear a5 Z a0 a1 ar o bc b6 Y J a2 cD;have cL:b / rate<=b:=Nat.div_le_self _ _;have cA:=pC c rate (b / rate+1);rw [<-tI,bI] at cA;have cW:m<=2000:=oM;obtain ⟨aa,aA⟩:=eqx ((dJ (fM L)).length);obtain ⟨ab,aB⟩:=eqx ((dJ (uD c rate b)).length);have cR:aa<=3000:=(by rw [<-aA,iR,cb.out];have:=cY a8;omega);have cS:ab<=3000:=(by rw [<-aB,iR,bI];have:=cY m;omega);have aG:=qQ aP a8 bf z (fM L) aN aR.out oM oM;rw [aA] at aG;refine aG.mono ?_;clear aG;rintro e c3 ⟨ac,an,rfl,bw,A⟩;have d0:=A.size;obtain ⟨b9,aT,aW,aY,b3⟩:=hqq5 (b8.out.below (A.mono oM)) (aS.out.below (A.mono oM)) (aV.out.below (A.mono oM)) bw.rd (b2.out.below A);clear A bw b8 aR aS aV b2;go_wp2_with fail;have aH:=qQ c8 m cm z (uD c rate b) c3 aT.out oM oM;rw [aB] at aH;refine aH.mono ?_;clear aH;rintro e p ⟨ad,ao,rfl,bx,C⟩;have d1:=C.size;obtain ⟨ba,aX,aZ,b0,ag⟩:=hqq5 (b9.out.below (C.mono oM)) (aW.out.below (C.mono oM)) (aY.out.below C) bx.rd (b3.out.below C);clear C bx b9 aT aW aY b3;go_wp2_with fail;obtain ⟨u,aw⟩:=eqx (nR L c f rate b);obtain ⟨y,aC⟩:=eqx u.length;have cT:y<=10000:=by rw [<-aC,<-aw];unfold nR;rw [zAi,zAi,zAi,b4.out,aA,aB];have:fZ.length=4:=rfl;omega
    have bl:=lM (some ⟨p.heap.size,0,none⟩) 4 4 (p.heap.size+1) [⟨some ⟨z,0,none⟩,4,4,fZ⟩,⟨G,V,K,dE [f,rate,b]⟩,⟨ac,aa,an,dJ (fM L)⟩,⟨ad,ab,ao,dJ (uD c rate b)⟩] u y (by rw [<-aw];unfold nR;simp [gE]) aC (p.alloc (.cells #[.slice (some z) 4 4,.slice G V K,.slice ac aa an,.slice ad ab ao] 34)) ((Rd.made p _ 1 4 _ rfl).mono (by simp)) (by
        intro db r;simp at r;rcases r with rfl | rfl | rfl | rfl;exact ((ba.out.mono (B':=p.heap.size) oM).alloc nL _).mono oM;exact ((aX.out.mono (B':=p.heap.size) oM).alloc nL _).mono oM;exact ((aZ.out.mono (B':=p.heap.size) oM).alloc nL _).mono oM
        · exact (b0.out.alloc nL _).mono oM) (by simp) oM oM
    refine bl.mono ?_;clear bl;rintro e c4 ⟨ae,ap,rfl,bz,bj⟩;have bi:=((Below.refl p.heap.size p).alloc nL (.cells #[.slice (some z) 4 4,.slice G V K,.slice ac aa an,.slice ad ab ao] 34)).trans (bj.mono (by simp));have ah:=lhd (ag.out.below bi);have d2:=ah.out.1.size;have ak:=lhd (bz.mono (B':=w.heap.size) (by simp;have:=ag.out.1.size;omega));clear bz bj bi ag ba aX aZ b0;go_wp2_with fail;refine (sH ae _ y ap _ u _ ((ak.out.rd.alloc oM _).mono (by simp)) oM (Rd.made _ _ 1 1 _ rfl)).mono ?_;rintro e df ⟨rfl,bk⟩;have av:=((Below.refl c4.heap.size c4).alloc nL (.cells #[.slice ae y ap] 34)).trans (bk.mono (by simp));obtain ⟨b7,ai⟩:=hqq2 (ak.out.below av) (ah.out.below av);have d3:=ai.out.1.size;clear bk av ak ah;go_wp2_with fail;refine (zN (mF u) _).mono ?_;rintro e c2 ⟨c6,ck,rfl,bt,au⟩;obtain ⟨ce,b1⟩:=hqq2 (b7.out.below au) (ai.out.below au);have bN:=b1.out.1.size;have c9:=lhd bt.rd;have bB:=ce.out.own;have al:=lhd (kX (qD (mF u)));clear bt au b7 ai;go_wp2_with (at_builtin;refine bQ _ rfl (.tmp 68) (.tmp 72) _ rfl w.heap.size 5 c1 (.int .u8 0) 1 1 underlying34 bo bY bZ c0 rfl dC (.slice ae y ap) y _ rfl bB c2.heap.size c6 4 ck _ rfl c9.out al.out (by unfold maxLen;omega) oM bN ?_;intro dc de cx cq cN);have co:=VB.grow b1.out (bG (Below.refl w.heap.size c2) bB cq bN);obtain ⟨c7,cl,rfl,ct⟩:=aU cx;go_ret2;have bS:fA L c f rate b=u++qD (mF u):=(by unfold fA;rw [aw]);have cC:(fA L c f rate b).length=y+4:=(by rw [bS,zAi,aC,qC]);rw [cC,bS,zAz];exact ⟨c7,cl,rfl,ct,co⟩
def zK (w:World) (d:Nat) (g:List UInt8) (e a:Nat) (f:Ending) (w':World):Prop:=
 ∃b c,f=.returned (.tuple #[.slice b a c,.int .i64 0])/\Made w' w.heap.size 5 1 b a c (((g.drop e).take a).map bv)/\VB d w w'
def aFS (j gl rate:Nat) (d:List UInt8) (c v:Nat) (w:World) (A:TpAt w j gl d rate) (a7:TabW w) (aA:7 < j) (bu:c+v<=d.length):
 Calls prog 43 #[gl,(c:Int),(v:Int)] w (zK w j d c v):=by
 obtain ⟨bC,bq,ak,bA,bB⟩:=info_parts tG;obtain ⟨r,gk,gp,pr,N,K,aS,ak,aL⟩:=A;have aD:r.length=d.length+1:=by rw [N.len,aO]
 have a5:(aF (aI d) r).length=d.length+1:=by rw [bH,aD]
 have a0:∀q,q<=d.length->∃D,r[D]?=some q:=fun q aQ=>by obtain ⟨D,br,k⟩:=N.row (p:=q) (by rw [aO];omega);exact ⟨D,zAc.2 ⟨br,k⟩⟩
 have aP:∀(m D q:Nat) (g:UInt8),r[m]?=some (q+1)->r[D]?=some q->d[q]?=some g->(aF (aI d) r)[m]?=some (g.toNat+1)/\bZ (aF (aI d) r) (g.toNat+1) m=D:=fun m D q g a3 a4 W=>aGW N a3 a4 W;obtain ⟨m,ad⟩:=a0 c oM;have aR:=eZ j gl gk gp rate d r pr m c w K aS N aL ad;obtain ⟨c7,aa⟩:=K.blk;clear aS ak;obtain ⟨E,a6⟩:=eqx d.length;rw [a6] at a5 a0 bu aL;have c5:7 < w.heap.size:=a7.pos;have c1:=aa.lt;have bE:decide ((c:Int) < 0)=false:=by simp
 have bF:decide ((v:Int) < 0)=false:=by simp
 have aX:¬E < c:=oM;have bG:decide (E < c)=false:=zBy aX;obtain ⟨a2,bp⟩:=eqx (E - c);have bI:IntKind.i64.wrap ((E:Int) -(c:Int))=(a2:Int):=by rw [IntKind.wrap_i64];omega
 have aY:¬a2 < v:=oM;have bJ:decide (a2 < v)=false:=zBy aY;obtain ⟨aq,ax,ao,bb,b8,U⟩:=hqq6 K.lvw K.walk aa a0 aP a5;have am:=lhd (cX (dR d) (rs:=r));obtain ⟨b3,an,b1⟩:=hqq3 ad a7 a6;clear aa K a0 aP a5 ad a7 N aD a6 bp;unfold zK;go_enter func43,ntmps43;go_wp2_with fail;refine (bL j gl _ E w aq.out U.out oM).mono ?_;rintro k w1 ⟨rfl,rfl⟩;go_wp2_with fail;refine (bL j gl _ E w aq.out U.out oM).mono ?_;rintro k w1 ⟨rfl,rfl⟩;go_wp2_with fail;refine aR.mono ?_;rintro k n ⟨rfl,aV⟩;have be:=lhd aV;clear aR aV bE bF aX bG bI aY bJ;go_wp2_with fail;go_loopw [8,9,40] (fun bP t m wr=>∃a row:Nat,a<=v/\m=.int .i64 (a:Int)/\t=.int .i64 (row:Int)/\r[row]?=some (c+a)/\wr.ownsRow w.heap.size 5 1 bP a (((d.drop c).take a).map bv)/\VB j w wr) (fun _ _ m _=>v -(intOf m).toNat)
 case atStart=>exact ⟨0,m,zAp _,rfl,rfl,b3.out,World.ownsRow_nil _ _ _ _,be.out⟩
 case round=>
  obtain ⟨a,row,Y,rfl,rfl,af,Z,C⟩:=hrel;by_cases c2:a < v
  · obtain ⟨g,ac⟩:∃g,d[c+a]?=some g:=⟨_,zAa (by rw [b1.out];omega)⟩;obtain ⟨H,ag⟩:=bb.out (c+a+1) oM;obtain ⟨ah,ai⟩:=b8.out H row (c+a) g ag af ac;obtain ⟨Q,aj⟩:∃Q,Q=g.toNat+1:=⟨_,rfl⟩;rw [<-aj] at ah ai;have aM:((d.drop c).take (a+1)).map bv=((d.drop c).take a).map bv++ [bv g]:=(by rw [zAv,zBt,ac,zAz];rfl);have a9:=C.1.bk ao.out dC dC;have bg:=a9.cell 0;have bD:=a9.lt;have c4:=C.1.size;have aW:=ax.out.vis C.1;obtain ⟨ay,bd,au,av,ar,aw,b6,bc⟩:=hqq8 aW aj ah ai Z C aM ag;clear ag ah ai Z C aM a9 aW af ac aj;go_wp2_with fail;refine (nT j gk _ H row Q wr ay.out au.out av.out am.out (by rw [U.out];omega)).mono ?_;rintro k bT ⟨rfl,a8⟩;go_wp2_with fail;refine (sZ g Q bd.out bT).mono ?_;rintro k z ⟨rfl,aC⟩;have G:Below wr.heap.size wr z:=a8.trans (aC.mono a8.size);have M:=(VisK.of_below (F:=fun b=>j<=b) G).1.own ar.out dC dC;have a1:=aw.out.below G;have ab:=a1.1.bk ao.out dC dC;have aJ:∀b,u8.ownBlock=some b->b < z.heap.size:=fun b J=>(M.lt b J).2;have aG:∀b,u8.ownBlock=some b->w.heap.size<=b:=fun b J=>(M.lt b J).1;have aN:¬u8.ownBlock=some gl:=fun k=>aT M ab dC k.symm;have bw:=a1.1.size;obtain ⟨b9,V,b2,b4,ap,b7⟩:=hqq6 M a1 ab aJ aG aN;clear a8 aC G M a1 ab aJ aG aN bg bD ar aw ay;go_wp2_with fail;refine wp_region_any kR ?_;refine bN j 10 [52,53,54,55,56,57,58,59,60,61] (fun b=>u8.ownBlock=some b) 3 [3] (fun n=>n.ownsRow w.heap.size 5 1 u8 a (((d.drop c).take a).map bv)) (fun t n=>n.ownsRow w.heap.size 5 1 t (a+1) (((d.drop c).take a).map bv++ [bv g])) [is (u8),is (bv g),fun t n=>∃y,t=.slice (some ⟨y,0,none⟩) 1 1/\Bk n y 5 #[bv g]/\u8.ownBlock≠some y,dF,is gl,is gl,is gl,is gk,is (row:Int),is (H:Int)] _ _ rfl dC kR kR kR (b9.out) (fun w1 n A _ a=>a.1.own A dC dC) (fun _ _ _ A a=>a.1.own A dC dC) (by repeat' (first | exact gP _ _ | exact iY _ | exact fun _ _ _ ⟨y,a3,a4,W⟩ a=>⟨y,a3,a.1.bk a4 dC dC W,W⟩|(refine zAe.2 ⟨?_,?_⟩)|(intro q aQ;cases aQ))) ?_ ?_
    · refine bO ?_;refine pH3 8 (u8) ?_;refine pH3 10 (bv g) ?_;refine sC3 (fun _ s e _ _ _ _ l _ _ _ o=>?_) ?_
      · replace e:VFB j (fun b=>u8.ownBlock=some b) z s:=fD e;have az:_=_:=l 1 53 kR rfl;go_simp;exact o _ _ (aE (vR.alloc _)) ⟨_,rfl,Bk.new _ _ _,fun A=>by have:=(b4.out _ A);have:=e.1.size;omega⟩
      refine sC3 (fun I s e bm _ _ _ l _ _ bn o=>?_) ?_
      · replace e:VFB j (fun b=>u8.ownBlock=some b) z s:=fD e;have bt:=bm rfl;have bi:_=_:=l 0 52 kR rfl;have bK:(fun t n=>∃y,t=.slice (some ⟨y,0,none⟩) 1 1/\Bk n y 5 #[bv g]/\u8.ownBlock≠some y) (I (.tmp 54)) s:=l 2 54 kR rfl;obtain ⟨bl,az,bo,c3⟩:=bK;subst bn;have bz:=e.1.size;refine fU s (.tmp 52) (.tmp 54) _ rfl w.heap.size 5 bC (.int .u8 0) 1 1 underlying34 bq ak bA bB rfl dC u8 a _ bi bt s.heap.size (some ⟨bl,0,none⟩) 1 1 [bv g] az (aGI bo) (by simp [Value.oneCell',bv]) (by unfold maxLen;omega) oM (zAk bw bz) ?_;intro bQ S bs u c0;refine o _ _ (iW ⟨VisF.of_keep ⟨u.os,u.tape,u.output,u.size,fun a Y ae=>u.block a Y (fun k=>ae k.symm)⟩,⟨u.os,u.tape,u.output,u.size,fun a Y ae=>u.block a Y (fun k=>ae (.inl k.symm))⟩⟩) bs
      refine pH3 0 (.pointer (some gl)) ?_;refine pV3 4 56 ?_;refine pV3 5 57 ?_;refine sC3 (fun _ s e _ _ _ _ l _ _ _ o=>?_) ?_
      · replace e:VFB j (fun b=>u8.ownBlock=some b) z s:=fD e;have bV:_=_:=l 6 58 kR rfl;have G:=e.1.bk b2.out dC dC b7.out;have bU:=G.cell 0;have c6:=G.lt;go_simp;exact o _ _ (aE vR) rfl
      refine pH3 9 (.int .i64 (row:Int)) ?_;refine sC3 (fun _ s e _ _ X _ l _ _ _ o=>?_) ?_
      · replace e:VFB j (fun b=>u8.ownBlock=some b) z s:=fD e;have bW:_=_:=l 7 59 kR rfl;have bX:_=_:=l 8 60 kR rfl;go_simp;have O:=(VFB.trans (VFB.of_vb V.out) e).to_vb (fun b J X=>by have:=(ap.out b X);omega);refine (oP j gk _ H row Q s (ax.out.vis O.1) au.out av.out am.out (by rw [U.out];omega) (an.out.vb O aA an.out.pos) aA).mono ?_;rintro k c8 ⟨rfl,bx⟩;exact o _ _ (aE bx) rfl
      exact aH
    · intro I S x e l aB;replace e:VFB j (fun b=>u8.ownBlock=some b) z S:=fD e;have al:(fun t n=>n.ownsRow w.heap.size 5 1 t (a+1) (((d.drop c).take a).map bv++ [bv g])) (I (.tmp 55)) S:=l 3 55 dC rfl;have bj:I (.tmp 61)=.int .i64 (H:Int):=l 9 61 dC rfl;obtain ⟨bR,aZ⟩:=aB 3 dC;have bM:(fun t n=>n.ownsRow w.heap.size 5 1 t (a+1) (((d.drop c).take a).map bv++ [bv g])) bR S:=aZ;clear aZ aB;simp only [zqq];rw [bj];clear l;have O:=(VFB.trans (VFB.of_vb V.out) e).to_vb (fun b J X=>by have:=(ap.out b X);omega);change wpAny prog Region.Mode.any _ _ (2+x) (bY 10 12) _ S;rw [show 2+x=x+1+1 by omega];generalize I (.tmp 55)=bQ at al⊢;obtain ⟨ba,bf⟩:=hqq2 al O;clear al O e bM;refine bS (f:=x+1) (i:=10) kR ?_;refine cG rfl rfl ?_;generalize o:wpAny prog _ _ _ (x+1) _=K5;go_simp;subst o;refine bS (f:=x) (i:=11) kR ?_;refine cG rfl rfl ?_;generalize o:wpAny prog _ _ _ x _=K5;go_simp;subst o;refine cD kR ?_;go_wp2_with fail;go_roundw
      case rel=>exact ⟨a+1,H,by omega,by go_num,by first | rfl | trivial,bc.out,by rw [b6.out];exact ba.out,bf.out⟩
      case measure=>simp [intOf];omega
  · obtain rfl:a=v:=oM;obtain ⟨b0,bh,rfl,aK⟩:=aU Z;obtain ⟨b5,V⟩:=hqq2 aK C;clear Z aK C af;go_wp2_with fail;go_ret2;exact ⟨b0,bh,rfl,b5.out,V.out⟩
end
section
open Go.RowKit Go.Shelf
def xU (gp R P:Nat) (pr:List (Nat×Nat)) (row:Nat) (w:World) (e:PermR w gp R P pr) (j:∀r∈pr,r.1≠row):
 Calls prog 156 #[gp,(row:Int)] w fun b w'=>b=.returned (.int .i64 (-1))/\Below w.heap.size w w':=by
 obtain ⟨B,d,o,p,q,n,l,a,m,c,f,g,s,t,rfl⟩:=e;exact aAW B gp d o p q n R P l a m c row w f g oM fun k i=>j _ (zAy.2 ⟨k,i,rfl⟩)
def nV (gp R P:Nat) (pr:List (Nat×Nat)) (row b:Nat) (w:World) (f:PermR w gp R P pr) (j:(row,b)∈pr):
 Calls prog 156 #[gp,(row:Int)] w fun a w'=>a=.returned (.int .i64 (b:Int))/\Below w.heap.size w w':=by
 obtain ⟨B,e,p,q,r,o,m,c,n,d,g,i,s,t,rfl⟩:=f;obtain ⟨l,k,a⟩:=zAy.1 j;injection a with e1 e2;subst e2;exact aAV B gp e p q r o R P m c n d row l w g i oM oM k e1
def aA2 (u gl gk gp rate:Nat) (e:List UInt8) (d:List Nat) (f:List (Nat×Nat)) (s m:Nat) (w:World) (D:LiveG w u gl gk gp rate (e.length+1) (aF (aI e) d) f) (Z:∀k∈f,d[k.1]?=some k.2) (ak:∃k∈f,k.2=0) (r:IsSuf (aI e) d) (aL:e.length<=127) (I:d[s]?=some m):
 Calls prog 84 #[gl,(s:Int)] w fun i w'=>i=.returned (.int .i64 (m:Int))/\VB u w w':=by
 have Y:d.length=e.length+1:=by rw [r.len,aO]
 have aB:=(zAc.1 I).1;have U:(aF (aI e) d).length=e.length+1:=by rw [bH,Y]
 have aM:m < e.length+1:=by have:=r.lt (zAd I);rwa [aO] at this
 obtain ⟨g,V⟩:=eqx e.length;have al:∀a:Nat,d[a]?=some 0->(a,0)∈f:=fun a E=>by obtain ⟨⟨aQ,aP⟩,J,i⟩:=ak;have az:aP=0:=i;subst az;have j:d[aQ]?=some 0:=Z _ J;rw [tJ r E j];exact J
 have ae:∀a b c:Nat,d[a]?=some b->(a,c)∈f->c=b:=fun a b c o aK=>by have j:d[a]?=some c:=Z _ aK;rw [o] at j;injection j with j;exact j.symm
 have ai:∀a b:Nat,d[a]?=some (b+1)->∃K t,(aF (aI e) d)[a]?=some K/\bZ (aF (aI e) d) K a=t/\d[t]?=some b:=fun a b o=>by obtain ⟨E,a7⟩:=zAc.1 o;have X:b+1 < (aI e).length:=r.lt (zAd o);obtain ⟨t,aa,a8⟩:=r.row (p:=b) oM;have ac:=eI e;have aH:=pX ac E a7 (by rw [aO] at X;omega);exact ⟨(aI e).getD b 0,t,zAc.2 ⟨_,aH⟩,lf r ac E aa a7 a8,zAc.2 ⟨aa,a8⟩⟩
 rw [V] at D;rw [V] at U aM aL Y;have aG:¬(g:Int) < (s:Int):=oM;have aC:decide ((s:Int) < 0)=false:=by simp
 have aD:decide ((s:Int) > (g:Int))=false:=by simp;omega
 have aE:decide (g < s)=false:=by simp;omega
 obtain ⟨a3,ay,ap,av,a4⟩:=hqq5 D al ae ai U;have am:=lhd (cX (dR e) (rs:=d));have an:=lhd I;obtain ⟨mv,G⟩:=D.blk;have A:=G.cell 0;have C:=G.cell 1;have aT:=G.lt;clear D al ae ak Z ai U r I aB V Y G;go_enter func84,ntmps84;go_wp2_with fail;refine (bL u gl _ g w a3.out.lvw a4.out oM).mono ?_;rintro i w1 ⟨rfl,rfl⟩;go_wp2_with fail;clear A C aG aC aD aE;go_loopw [1,5] (fun k a2 wr=>∃a b y:Nat,d[a]?=some b/\b+y=m/\k=.int .i64 (a:Int)/\a2=.int .i64 (y:Int)/\VB u w wr) (fun _ a2 _=>m+1 -(intOf a2).toNat)
 case atStart=>exact ⟨s,m,0,an.out,rfl,rfl,rfl,VisK.refl _ _⟩
 case round=>
  obtain ⟨a,b,y,o,X,rfl,rfl,a0⟩:=hrel;have j:=a3.out.vis a0.1;obtain ⟨aW,H⟩:=j.blk;have A:=H.cell 0;have C:=H.cell 1;have aU:=H.lt;obtain ⟨a6,z,N⟩:=hqq3 a0 j o;clear j a0 o H;by_cases F:∃c,(a,c)∈f
  · obtain ⟨c,W⟩:=F;have aA:=ap.out a b c N.out W;subst aA;have a5:=lhd W;have aS:¬(c:Int) < 0:=oM;have aV:IntKind.i64.wrap ((c:Int)+(y:Int))=(m:Int):=(by rw [IntKind.wrap_i64];omega);clear W X;go_wp2_with fail;refine (nV gp (g+1) (g+1) f a c wr z.out.perm a5.out).mono ?_;rintro i a1 ⟨rfl,q⟩;have n:=z.out.vis (Vis.of_below q);obtain ⟨aN,l⟩:=n.blk;have Q:=l.cell 0;have S:=l.cell 1;have aJ:=l.lt;have v:=a6.out.below q;obtain ⟨O,M⟩:=hqq2 v n;clear A C n v q l;go_wp2_with fail;refine (nV gp (g+1) (g+1) f a c a1 M.out.perm a5.out).mono ?_;rintro i aR ⟨rfl,ab⟩;have x:=O.out.below ab;have aw:=lhd x;clear Q S x ab;go_wp2_with fail;go_ret;exact ⟨rfl,aw.out⟩
  · have ad:∀k∈f,k.1≠a:=fun k J i=>F ⟨k.2,by rw [<-i];exact J⟩;have ao:=lhd ad
    obtain ⟨c,rfl⟩:∃c,b=c+1:=⟨b - 1,by
        rcases zBa b with a9 | a9;subst a9;exact absurd ⟨0,ay.out a N.out⟩ F
        · omega⟩
    obtain ⟨K,t,af,ag,ah⟩:=av.out a c N.out;obtain ⟨aq,ar,au⟩:=hqq3 af ag ah;clear ad F af ag ah;go_wp2_with fail;refine (xU gp (g+1) (g+1) f a wr z.out.perm ao.out).mono ?_;rintro i a1 ⟨rfl,q⟩;have n:=z.out.vis (Vis.of_below q);obtain ⟨aN,l⟩:=n.blk;have Q:=l.cell 0;have S:=l.cell 1;have aJ:=l.lt;have v:=a6.out.below q;obtain ⟨O,M⟩:=hqq2 v n;clear A C n v q l;go_wp2_with fail;refine (lH u gk _ a K a1 M.out.walk aq.out am.out (by rw [a4.out];omega)).mono ?_;rintro i aR ⟨rfl,x⟩;rw [ar.out];have aj:=O.out.trans x;have ax:=lhd aj;clear Q S x aj;go_wp2_with fail;go_roundw
    case rel=>exact ⟨t,c,y+1,au.out,by omega,rfl,by go_num,ax.out⟩
    case measure=>simp [intOf];omega
end
section
open Go.RowKit
def aBa (w:World) (e:Nat) (b a:List UInt8) (f:Ending) (w':World):Prop:=
 ∃c d,f=.returned (.slice c (fI b a).length d)/\Made w' w.heap.size 3 1 c (fI b a).length d ((fI b a).map sv)/\VB e w w'
def aIC (m gl rate:Nat) (c:List UInt8) (C:Option Addr) (y W B:Nat) (z:List Sl) (b:List UInt8) (X:gE z=b) (w:World) (av:TpAt w m gl c rate) (aa:Rd w B 1 C y (z.map slV)) (ac:∀N∈z,Rd w B 1 N.A N.n (N.l.map bv)) (aw:B<=w.heap.size) (aC:y<=1000000) (aF:b.length<=1000000):
 Calls prog 45 #[gl,.slice C y W] w (aBa w m c b):=by
 obtain ⟨aK,ay,x,aH,aJ⟩:=info_parts iA;obtain ⟨f,gk,gp,pr,k,F,ab,x,aD⟩:=av;obtain ⟨al,ar⟩:=hqq2 ab x;clear ab x;have t:f.length=c.length+1:=by rw [k.len,aO]
 have u:=qZ m gl _ c.length C y W B z b b.length X rfl w F.lvw (by rw [bH,t]) oM (cX (dR c)) aa ac aw aC aF;rw [aBt k (eI c)] at u;have v:=aBl k b;have a3:=aIK (aI c) true (cZ b);rw [aO] at a3;have Y:Nq (aI c) false (cZ b)<=Nq (aI c) true (cZ b):=by rw [aDZ];omega
 have s:(fI c b).length=Nq (aI c) true (cZ b) - Nq (aI c) false (cZ b):=by rw [<-(aBs k b).length_eq,zAj,zAw,t];omega
 obtain ⟨a,G⟩:=eqx (Nq (aI c) false (cZ b));obtain ⟨e,E⟩:=eqx (Nq (aI c) true (cZ b));obtain ⟨aT,a9⟩:=eqx (fI c b);unfold aBa;rw [G,E] at u v s;rw [G] at Y;rw [E] at a3 Y;rw [a9] at v s⊢;obtain ⟨af,am,an,Q,U⟩:=hqq5 F k v s t;clear aa ac F k v s t G E a9 X;go_enter func45,ntmps45;go_wp2_with fail;refine u.mono ?_;rintro r w1 ⟨rfl,aG⟩;clear u;go_wp2_with fail;go_loopw [7,8] (fun aM M wr=>∃d:Nat,d<=e - a/\M=.int .i64 ((a+d:Nat):Int)/\wr.ownsRow w.heap.size 3 1 aM d (((f.drop a).take d).map sv)/\VB m w wr) (fun _ M _=>e -(intOf M).toNat)
 case atStart=>exact ⟨0,zAp _,by simp,World.ownsRow_nil _ _ _ _,aG⟩
 case round=>
  obtain ⟨d,aR,rfl,i,o⟩:=hrel;by_cases aA:d < e - a
  · have aB:((a+d:Nat):Int) < (e:Int):=oM;have az:a+d < f.length:=(by rw [U.out];omega);obtain ⟨A,K⟩:∃A,f[a+d]?=some A:=⟨_,zAa az⟩;have a7:(f.drop a).take (d+1)=(f.drop a).take d++ [A]:=(by rw [zAv,zBt,K];rfl);have a2:=af.out.vis o.1;obtain ⟨ak,q,ag,aq,aj⟩:=hqq5 i o a2 K a7;clear i o a2 K a7;go_wp2_with fail;refine (aA2 m gl gk gp rate c f pr (a+d) A wr ag.out al.out ar.out am.out aD aq.out).mono ?_;rintro r aN ⟨rfl,I⟩;have J:=q.out.trans I;have j:=I.1.own ak.out dC dC;have ad:=J.1.size;obtain ⟨ap,S⟩:=hqq2 J j;clear I J j;go_wp2_with (at_builtin;refine bM _ rfl (.tmp 21) (.tmp 25) _ rfl w.heap.size 3 aK (.int .i64 0) 1 8 underlying48 ay x aH aJ rfl dC _ d _ rfl S.out rfl rfl (by simp [Value.oneCell']) (by unfold maxLen;omega) oM ad ?_;intro aV ae aE a0 aS ax);have n:=bG (Below.refl w.heap.size aN) S.out a0 ad;have p:=VB.grow ap.out n;have D:=lhd p;clear n p a0 ax;go_roundw
    case rel=>exact ⟨d+1,by omega,by go_num,by rw [aj.out,zAz];exact aE,D.out⟩
    case measure=>simp [intOf];omega
  · obtain rfl:d=e - a:=oM;have aB:¬((a+(e - a):Nat):Int) < (e:Int):=oM;have a6:((f.drop a).take (e - a)).map sv=(((f.drop a).take (e - a)).map fun aL:Nat=>(aL:Int)).map (Value.int .i64):=(by rw [zCg];rfl);rw [a6] at i;obtain ⟨O,V,rfl,H⟩:=aCm w.heap.size _ (e - a) _ wr i (by rw [zBc,zAj,zAw,U.out];omega) oM;have a8:=i;rw [an.out] at H;have a4:∀g,(Value.slice O (e - a) V).ownBlock=some g->w.heap.size<=g:=fun g Z=>(a8.lt g Z).1;obtain ⟨q,ao,ah⟩:=hqq3 o H a4;clear i a8 o H a4 aA a6;go_wp2_with fail;refine ao.out.mono ?_;rintro r ae ⟨rfl,j,a1⟩;have n:Below w.heap.size wr ae:=a1.to_below q.out.1.size (fun g Z r=>by have:=ah.out g r;omega);have p:=VB.grow q.out n;rw [zCg] at j;obtain ⟨aP,aQ,au,a5⟩:=aU j;cases au;obtain ⟨ai,D⟩:=hqq2 a5 p;clear j a1 n p a5;go_wp2_with fail;go_ret;exact ⟨O,V,by rw [Q.out];rfl,by rw [Q.out];exact ai.out,D.out⟩
def TxtAt (w:World) (B gl:Nat) (a:List UInt8):Prop:=∃b,IsSuf (aI a) b/\LvW w B gl (aF (aI a) b)/\a.length<=127
def TxtAt.vis {w w':World} {B gl:Nat} {a:List UInt8} (b:TxtAt w B gl a) (f:Vis w w'):TxtAt w' B gl a:=by
 obtain ⟨g,c,d,e⟩:=b;exact ⟨g,c,d.vis f,e⟩
def TxtAt.mono {w:World} {B B' gl:Nat} {a:List UInt8} (b:TxtAt w B gl a) (g:B'<=B):TxtAt w B' gl a:=by
 obtain ⟨l,c,⟨gk,i,j,k,d,f⟩,e⟩:=b;exact ⟨l,c,⟨gk,i,j,k,d,f.mono g⟩,e⟩
def TxtAt.le {w:World} {B gl:Nat} {a:List UInt8} (b:TxtAt w B gl a):a.length<=127:=by
 obtain ⟨f,d,e,c⟩:=b;exact c
def aAm {a:List UInt8} {b:List Nat} (c:IsSuf (aI a) b):(aF (aI a) b).length=a.length+1:=by rw [bH,c.len,aO]
def aAJ (f gl:Nat) (d:List UInt8) (e:Option Addr) (b i B:Nat) (c:List Sl) (a:List UInt8) (q:gE c=a) (w:World) (m:TxtAt w f gl d) (t:Rd w B 1 e b (c.map slV)) (u:∀g∈c,Rd w B 1 g.A g.n (g.l.map bv)) (p:B<=w.heap.size) (r:b<=1000000) (s:a.length<=1000000):
 Calls prog 44 #[gl,.slice e b i] w fun k w'=>k=.returned (.int .i64 ((occ (aI d) (cZ a):Nat):Int))/\VB f w w':=by
 obtain ⟨x,j,o,v⟩:=m;have:=yA f gl _ d.length e b i B c a a.length q rfl w o (aAm j) oM (cX (dR d)) t u p r s;rw [aFA j] at this;exact this
end
end Go.Proofs.YtcfpmjbojoidoaaGreatDoor
