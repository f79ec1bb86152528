/- Lemmas of the walk. Conditions: each its own. -/
import Derived.Test.YthldmddkfbijhaaGreatDoorPst18
import Derived.Test.YthldmddkfbijhaaGreatDoorPst19
import Derived.Test.YthldmddkfbijhaaGreatDoorProg
import Derived.Test.YthldmddkfbijhaaGreatDoorShl
import Derived.Test.YthldmddkfbijhaaGreatDoorShi
set_option linter.all false
set_option maxRecDepth 100000
set_option maxHeartbeats 4000000
open Go.Proofs.Tryz
namespace Go.Proofs.YthldmddkfbijhaaGreatDoor
section
open Go.RowKit
structure LiveG (w:World) (Bw gl gk gp rate n:Nat) (L:List Nat) (pr:List (Nat×Nat)):Prop where
 blk:∃mv:Int,Bk w gl 92 #[gk,gp,(rate:Int),.int .i64 mv]
 walk:WalkAt w Bw gk L
 perm:PermR w gp n n pr
theorem LiveG.vis {w w':World} {c gl gk gp rate d:Nat} {L:List Nat} {pr:List (Nat×Nat)} (a:LiveG w c gl gk gp rate d L pr) (b:Vis w w'):LiveG w' c gl gk gp rate d L pr:=by
 obtain ⟨mv,e⟩:=a.blk;exact ⟨⟨mv,b.bk e dC dC⟩,a.walk.vis b,a.perm.vis b⟩
theorem LiveG.lvw {w:World} {a gl gk gp rate d:Nat} {L:List Nat} {pr:List (Nat×Nat)} (b:LiveG w a gl gk gp rate d L pr):LvW w a gl L:=by
 obtain ⟨mv,c⟩:=b.blk;exact ⟨gk,_,_,_,c,b.walk⟩
theorem LiveG.mono {w:World} {b B' gl gk gp rate c:Nat} {L:List Nat} {pr:List (Nat×Nat)} (a:LiveG w b gl gk gp rate c L pr) (d:B'<=b):LiveG w B' gl gk gp rate c L pr:=⟨a.blk,a.walk.mono d,a.perm⟩
theorem LiveG.lt {w:World} {a gl gk gp rate c:Nat} {L:List Nat} {pr:List (Nat×Nat)} (b:LiveG w a gl gk gp rate c L pr):gl < w.heap.size:=b.lvw.lt
theorem tU (a:List (Nat×Nat)):a=(List.range a.length).map fun c=>(aB a c,aI a c):=by
 apply List.ext_getElem?;intro d;rw [zAf];by_cases b:d < a.length;rw [zCk b,zAa b];unfold aB aI;rw [Option.map_some,zAb,zAa b];rfl;rw [zBg oM,zBg (by simpa using b)];rfl
theorem LiveAt.g {w:World} {c gl gk gp d:Nat} {j k l:Value} {B f rate:Nat} {L:List Nat} {a:List (Nat×Nat)} {i:List Bool} (b:LiveAt w c gl gk gp d j k l B f rate L a i) (o:a.Pairwise (fun m n=>m.1 < n.1)) (e:a.length<=1000):LiveG w c gl gk gp rate f L a:=
 ⟨⟨0,b.blk⟩,b.walk,B,d,j,k,l,_,_,a,i, [],b.perm,aA9 a o,e,by rw [zCi];exact e,tU a⟩
theorem wH {rs:List Nat} {rate n:Nat} (e:n<=rs.length):∀a∈cT rs rate n,rs[a.1]?=some a.2:=fun a c=>by
 obtain ⟨d,b⟩:=oF c;rw [b,zAb,zAa (show a.1 < rs.length by omega)];rfl
theorem aGf {c:List UInt8} {b:List Nat} {rate:Nat} (a:IsSuf (aF c) b):∃g∈cT b rate (c.length+1),g.2=0:=by
 obtain ⟨f,e,d⟩:=a.row (p:=0) (by rw [aL];omega);refine ⟨(f,0),(aHK _ _ _ _ _).2 ⟨?_,?_,Nat.zero_mod _⟩,rfl⟩;have:=a.len;rw [aL] at this;omega;rw [zAb,zAa e,d];rfl
theorem fO (j gl gk gp rate:Nat) (e:List UInt8) (d:List Nat) (t:List (Nat×Nat)) (aa c:Nat) (w:World) (K:LiveG w j gl gk gp rate (e.length+1) (aE (aF e) d) t) (aq:∀g∈t,d[g.1]?=some g.2) (l:IsSuf (aF e) d) (aV:e.length<=127) (a1:d[aa]?=some c):
 Calls prog 40 #[gl,(c:Int)] w fun m w'=>m=.returned (.int .i64 (aa:Int))/\VB j w w':=by
 have a3:d.length=e.length+1:=by rw [l.len,aL]
 have Y:(aE (aF e) d).length=e.length+1:=by rw [bP,a3]
 have aX:c < e.length+1:=by have:=l.lt (zAd a1);rwa [aL] at this
 have a6:=aCw l;obtain ⟨i,Z⟩:=eqx e.length;have ar:∀a b:Nat,d[a]?=some (b+1)->∃s J,(aE (aF e) d)[a]?=some s/\cH (aE (aF e) d) s a=J/\d[J]?=some b:=fun a b x=>by obtain ⟨N,ai⟩:=zAc.1 x;have aP:b+1 < (aF e).length:=l.lt (zAd x);obtain ⟨J,ak,aj⟩:=l.row (p:=b) oM;have an:=eE e;have aR:=rS an N ai (by rw [aL] at aP;omega);exact ⟨(aF e).getD b 0,J,zAc.2 ⟨_,aR⟩,lf l an N ak ai aj,zAc.2 ⟨ak,aj⟩⟩
 have a4:∀a b:Nat,d[a]?=some b->b<=e.length/\a<=e.length:=fun a b x=>by have k:=l.lt (zAd x);rw [aL] at k;have M:=(zAc.1 x).1;omega
 have au:∀a,d[a]?=some c->a=aa:=fun a N=>uY l N a1;rw [Z] at K;rw [Z] at Y aX aV a3 a6 a4;have b3:decide ((c:Int) < 0)=false:=by simp
 have aW:¬i < c:=oM;have b4:decide (i < c)=false:=zBy aW;obtain ⟨r,aA,ay,af,az,ag,I⟩:=hqq7 K a6 aq ar a4 au Y;have ae:=lhd (dG (eC e) (rs:=d));obtain ⟨mv,O⟩:=K.blk;have aD:=O.cell 0;have aG:=O.cell 1;have aS:=O.lt;clear K a6 aq ar a4 au Y l a1 Z a3 O;go_enter func40,ntmps40;go_wp2_with fail;refine (bQ j gl _ i w r.out.lvw I.out oM).mono ?_;rintro m w1 ⟨rfl,rfl⟩;go_wp2_with fail;refine (bQ j gl _ i w r.out.lvw I.out oM).mono ?_;rintro m w1 ⟨rfl,rfl⟩;go_wp2_with fail;have a5:=pP gp (i+1) (i+1) t c w r.out.perm;unfold tP at a5;refine a5.mono ?_;rintro m aw ⟨b8,rfl,H,al⟩;clear a5;have a9:VB j w aw:=VisK.of_below al;have M:=r.out.vis a9.1;obtain ⟨b6,Q⟩:=M.blk;have aI:=Q.cell 0;have aJ:=Q.cell 1;have aU:=Q.lt;obtain ⟨ax,ah⟩:=hqq2 M a9;clear al a9 M aD aG aS Q;rcases H with ⟨H,_⟩|⟨⟨b5,q⟩,aQ,H,a2,_⟩
 · subst H;go_wp2_with fail;go_loopw [5,6] (fun g ad wr=>∃a f:Nat,c<=a/\a<=i/\d[f]?=some a/\g=.int .i64 (a:Int)/\ad=.int .i64 (f:Int)/\VB j w wr) (fun g _ _=>(intOf g).toNat)
   case atStart=>exact ⟨i,0,by omega,zAs _,aA.out,rfl,rfl,ah.out⟩
   case round=>
    obtain ⟨a,f,aY,aM,z,rfl,rfl,o⟩:=hrel;have k:=r.out.vis o.1;obtain ⟨b1,n⟩:=k.blk;have aH:=n.cell 0;have aT:=n.lt;obtain ⟨v,S,u⟩:=hqq3 o k z;clear k o z n;by_cases aN:c < a
    · obtain ⟨b,y⟩:∃b,a=b+1:=⟨a - 1,by omega⟩;obtain ⟨s,ab,C,D,E⟩:=af.out f b (by rw [<-y];exact u.out);have aK:IntKind.i64.wrap ((a:Int) - 1)=(b:Int):=(by rw [IntKind.wrap_i64];omega);obtain ⟨U,V,W⟩:=hqq3 C D E;have a0:c<=b:=oM;have aO:b < a:=oM;clear C D E y;go_wp2_with fail;refine (mM j gk _ f s wr S.out.walk U.out ae.out (by rw [I.out];omega)).mono ?_;rintro m b2 ⟨rfl,F⟩;rw [V.out];have G:=v.out.trans F;have X:=lhd G;clear F G;go_wp2_with fail;go_roundw
      case rel=>exact ⟨b,ab,a0,by omega,W.out,by go_num,by first | rfl | trivial,X.out⟩
      case measure=>simp [intOf];omega
    · obtain rfl:a=c:=oM;have a7:=ag.out f u.out;subst a7;go_wp2_with fail;go_ret;exact ⟨rfl,v.out⟩
 · subst H;have a2:c<=q:=a2;have ao:∃g∈t,g.2=q:=⟨_,aQ,rfl⟩;have aZ:decide ((q:Int)>=0)=true:=(by simp);go_wp2_with fail;have a8:=sM gp (i+1) (i+1) t q aw ax.out.perm ao;unfold yQ at a8;refine a8.mono ?_;rintro m b7 ⟨ac,ap,rfl,am⟩;have A:=ay.out _ ap;have A:d[ac]?=some q:=A;have av:=ah.out.below am;obtain ⟨aB,aC⟩:=hqq2 A av;have b0:=(az.out ac q A).1;clear a8 ap A am av ao aI aJ aU aZ;go_wp2_with fail;go_loopw [5,6] (fun g ad wr=>∃a f:Nat,c<=a/\a<=i/\d[f]?=some a/\g=.int .i64 (a:Int)/\ad=.int .i64 (f:Int)/\VB j w wr) (fun g _ _=>(intOf g).toNat)
   case atStart=>exact ⟨q,ac,a2,b0,aB.out,rfl,rfl,aC.out⟩
   case round=>
    obtain ⟨a,f,aY,aM,z,rfl,rfl,o⟩:=hrel;have k:=r.out.vis o.1;obtain ⟨b1,n⟩:=k.blk;have aH:=n.cell 0;have aT:=n.lt;obtain ⟨v,S,u⟩:=hqq3 o k z;clear k o z n;by_cases aN:c < a
    · obtain ⟨b,y⟩:∃b,a=b+1:=⟨a - 1,by omega⟩;obtain ⟨s,ab,C,D,E⟩:=af.out f b (by rw [<-y];exact u.out);have aK:IntKind.i64.wrap ((a:Int) - 1)=(b:Int):=(by rw [IntKind.wrap_i64];omega);obtain ⟨U,V,W⟩:=hqq3 C D E;have a0:c<=b:=oM;have aO:b < a:=oM;clear C D E y;go_wp2_with fail;refine (mM j gk _ f s wr S.out.walk U.out ae.out (by rw [I.out];omega)).mono ?_;rintro m b2 ⟨rfl,F⟩;rw [V.out];have G:=v.out.trans F;have X:=lhd G;clear F G;go_wp2_with fail;go_roundw
      case rel=>exact ⟨b,ab,a0,by omega,W.out,by go_num,by first | rfl | trivial,X.out⟩
      case measure=>simp [intOf];omega
    · obtain rfl:a=c:=oM;have a7:=ag.out f u.out;subst a7;go_wp2_with fail;go_ret;exact ⟨rfl,v.out⟩
end
section
open Go.RowKit Go.Shelf
theorem VisF.mono {F G:Nat->Prop} {w w':World} (b:VisF F w w') (e:∀a,a < w.heap.size->F a->G a):VisF G w w':=⟨b.os,b.tape,b.output,b.size,fun a c f=>b.block a c fun d=>f (e a c d)⟩
theorem VisF.trans' {b d:Nat->Prop} {w w1 w':World} (g:VisF b w w1) (k:VisF d w1 w') (j:∀a,a < w.heap.size->d a->b a):VisF b w w':=by
 have i:=VisF.trans (F:=fun a=>b a∨w.heap.size<=a) (g.mono fun a _ c=>.inl c) (k.mono fun a _ f=>by
  by_cases e:a < w.heap.size;exact .inl (j a e f)
  · exact .inr oM)
 exact i.mono fun a m c=>c.elim id fun l=>by omega
structure LF (B:Nat) (w w':World) (own own':Nat->Nat):Prop where
 old:∀b,b < w.heap.size->own' b=own b
 vis:VisF (fun b=>own b≠0) w w'
 keep:Keep (fun b=>B<=b) w w'
theorem LF.refl (B:Nat) (w:World) (own:Nat->Nat):LF B w w own own:=⟨fun _ _=>rfl,VisF.of_vis (Vis.refl w),Keep.refl _ _⟩
theorem LF.trans {B:Nat} {w w1 w':World} {own e own':Nat->Nat} (a:LF B w w1 own e) (d:LF B w1 w' e own'):LF B w w' own own':=by
 have g:=a.keep.size;refine ⟨fun b c=>(d.old b oM).trans (a.old b c),a.vis.trans' d.vis fun b c f=>?_,a.keep.trans d.keep⟩;rw [<-a.old b c];exact f
theorem LF.of_vb {B:Nat} {w w':World} {own:Nat->Nat} (a:VB B w w'):LF B w w' own own:=⟨fun _ _=>rfl,VisF.of_vis a.1,a.2⟩
structure LiveM (w:World) (B:Nat) (own:Nat->Nat) (gl gk gp rate:Nat) (mv:Int) (R P:Nat) (L T:List Nat) (pr:List (Nat×Nat)):Prop where
 blk:Bk w gl 92 #[gk,gp,(rate:Int),.int .i64 mv]
 col:own gl=3
 walk:WalkE w B own gk L T
 perm:PermE w (fun b=>own b=1) gp R P pr
section
variable {w w' : World} {B : Nat} {own own' : Nat -> Nat} {gl gk gp rate : Nat} {mv : Int} {R P R' P' : Nat} {L T L' T' : List Nat} {pr pr' : List (Nat × Nat)}
theorem LiveM.bnd (b:LiveM w B own gl gk gp rate mv R P L T pr):∀a,own a≠0->B<=a/\a < w.heap.size:=b.walk.bnd
theorem LiveM.lo (a:LiveM w B own gl gk gp rate mv R P L T pr):B<=gl:=(a.bnd gl (by rw [a.col];decide)).1
theorem LiveM.gw (c:LiveM w B own gl gk gp rate mv R P L T pr):∃a b,Bk w gk 100 #[.pointer (some ⟨a,0,none⟩),.pointer (some ⟨b,0,none⟩)]/\WaveAt w B a L:=by
 obtain ⟨a,b,d,_,e,_⟩:=c.walk;exact ⟨a,b,d,e.at⟩
theorem LiveM.vis (a:LiveM w B own gl gk gp rate mv R P L T pr) (b:Vis w w'):LiveM w' B own gl gk gp rate mv R P L T pr:=
 ⟨b.bk a.blk dC dC,a.col,a.walk.vis b,a.perm.vis b⟩
theorem LiveM.walkOp (c:LiveM w B own gl gk gp rate mv R P L T pr) (f:WalkE w' B own' gk L' T') (a:Grew w w' own own'):LiveM w' B own' gl gk gp rate mv R P L' T' pr/\LF B w w' own own':=by
 have e:=c.bnd;refine ⟨⟨a.keep.bk c.blk (fun d=>by have:=c.col;omega),by rw [a.old _ c.blk.lt];exact c.col,f,(c.perm.keep a.keep fun b d=>by omega).mono fun b _ d=>?_⟩,a.old,VisF.of_keep (a.keep.mono fun b _ d=>by omega),a.keep.mono fun b _ d=>(e b oM).1⟩;rw [a.old b (e b oM).2];exact d
theorem LiveM.permOp (c:LiveM w B own gl gk gp rate mv R P L T pr) (l:PermE w' (Gw (fun a=>own a=1) w.heap.size) gp R' P' pr') (e:Keep (fun a=>own a=1) w w'):LiveM w' B (cZ own w.heap.size w'.heap.size 1) gl gk gp rate mv R' P' L T pr'/\LF B w w' own (cZ own w.heap.size w'.heap.size 1):=by
 have g:=c.bnd;have j:∀a,a < w.heap.size->cZ own w.heap.size w'.heap.size 1 a=own a:=fun a i=>by unfold cZ;rw [zBx i]
 have n:B<=w.heap.size:=by have:=c.lo;have:=c.blk.lt;omega
 have o:=e.size;refine ⟨⟨e.bk c.blk (fun b=>by have:=c.col;omega),by rw [j _ c.blk.lt];exact c.col,(c.walk.far e fun a b=>⟨by omega,by omega⟩).paint (fun a i m=>?_) (fun a d=>?_),l.mono fun a i b=>?_⟩,j,VisF.of_keep (e.mono fun a _ b=>by omega),e.mono fun a _ b=>(g a oM).1⟩;by_cases f:a < w.heap.size;exact j a f;have:=(g a oM).2;omega;unfold cZ at d;by_cases f:a < w.heap.size;rw [zBx f] at d;have:=g a d;exact ⟨this.1,by omega⟩;rw [zBw f] at d;by_cases k:a < w'.heap.size;exact ⟨by omega,k⟩;rw [zBw k] at d;exact absurd rfl d
 · rcases b with b | b;rw [j a (g a oM).2];exact b
   · unfold cZ;rw [zBw oM,zBx i]
theorem LiveM.setMv (c:LiveM w B own gl gk gp rate mv R P L T pr) (f:Int):LiveM (w.setCell ⟨gl,3,none⟩ (.int .i64 f)) B own gl gk gp rate f R P L T pr/\LF B w (w.setCell ⟨gl,3,none⟩ (.int .i64 f)) own own:=by
 have e:Keep (fun a=>a=gl) w (w.setCell ⟨gl,3,none⟩ (.int .i64 f)):=Keep.setCell (F:=fun a=>a=gl) (Keep.refl _ _) (p:=⟨gl,3,none⟩) (.inl rfl) _;have i:=c.col;refine ⟨⟨c.blk.set 3 _,c.col,c.walk.far e fun a b=>?_,c.perm.keep e fun a b g=>?_⟩,fun _ _=>rfl,VisF.of_keep (e.mono fun a _ b=>?_),e.mono fun a _ b=>?_⟩;have g:a=gl:=b;subst g;exact ⟨by omega,by omega⟩;have d:a=gl:=g;subst d;omega;have d:a=gl:=b;subst d;show own a≠0;omega;have d:a=gl:=b;subst d;exact c.lo
theorem LiveM.len (b:LiveM w B own gl gk gp rate mv R P L T pr):LvW w B gl L∨¬T.Perm L:=by
 by_cases a:T.Perm L;exact .inl ⟨gk,_,_,_,b.blk,b.walk.at a⟩;exact .inr a
theorem LiveM.permR (g:LiveM w B own gl gk gp rate mv R P L T pr):PermR w gp R P pr:=by
 obtain ⟨⟨f,m,n,o,l,j,d,k,e,a,b⟩,c,p⟩:=g.perm;rw [b] at c;have i:=List.pairwise_map.1 c;have q:=gQ a.nd a.at_.lt;exact ⟨0,f,m,n,o,l,j,d,k,e,a.at_,i,a.sz,by have:=a.sz;omega,b⟩
theorem LiveM.g (a:LiveM w B own gl gk gp rate mv R R L T pr) (b:T.Perm L):LiveG w B gl gk gp rate R L pr:=⟨⟨mv,a.blk⟩,a.walk.at b,a.permR⟩
end
section
variable {w : World} {B : Nat} {own : Nat -> Nat} {gl gk gp rate : Nat} {mv : Int} {R P : Nat} {L T : List Nat} {pr : List (Nat × Nat)}
theorem vN (a b:Nat) (c:LiveM w B own gl gk gp rate mv R P L T pr) (g:L[a]?=some b) (f:∀n∈L,n < 257) (m:L.length<=1000) (l:T.length<=1000):
 Calls prog 56 #[gl,(a:Int)] w fun e w'=>e=.returned (.int .i64 ((rL L T b a:Nat):Int))/\VB B w w':=by
 have d:=pN B gk L T a b w c.walk.atT g f m l;have o:=c.blk.cell 0;obtain ⟨p,i⟩:=eqx (rL L T b a);rw [i] at d⊢;clear c g f i;go_enter func56,ntmps56;go_wp2_with fail;refine d.mono ?_;rintro e w' ⟨rfl,j⟩;have k:=lhd j;clear d j;go_wp2_with fail;go_ret;exact ⟨rfl,k.out⟩
theorem oB (b:Nat) (w:World) (gl:Nat):
 Calls prog 54 #[gl,.int .i64 0,(b:Int)] w fun a w'=>a=.returned (.int .i64 (-1))/\w=w':=by
 go_enter func54,ntmps54;go_wp2_with fail;go_ret;exact ⟨rfl,rfl⟩
theorem qM (c a b:Nat) (d:LiveM w B own gl gk gp rate mv R P L T pr) (q:0 < c) (i:L[a]?=some b) (g:∀o∈L,o < 257) (n:L.length<=1000) (m:T.length<=1000):
 Calls prog 54 #[gl,(c:Int),(a:Int)] w fun f w'=>f=.returned (.int .i64 ((rL L T b a:Nat):Int))/\VB B w w':=by
 have e:=pN B gk L T a b w d.walk.atT i g n m;have p:=d.blk.cell 0;have r:((c:Int)==0)=false:=by rw [zCb];omega
 obtain ⟨s,j⟩:=eqx (rL L T b a);rw [j] at e⊢;clear d i g j;go_enter func54,ntmps54;go_wp2_with fail;refine e.mono ?_;rintro f w' ⟨rfl,k⟩;have l:=lhd k;clear e k;go_wp2_with fail;go_ret;exact ⟨rfl,l.out⟩
end
def inI (a b:Int):Int:=if a>=b then a+1 else a
def aBe (a b:Int):Int:=if a > b then a - 1 else a
theorem vD (b a:Nat):inI (b:Int) (a:Int)=((inR b a:Nat):Int):=by
 unfold inI inR;split <;> split <;> omega
theorem lE (b a:Nat):aBe (b:Int) (a:Int)=((aW b a:Nat):Int):=by
 unfold aBe aW;split <;> split <;> omega
theorem aFF (a:Nat):inI (-1) (a:Int)=-1:=by unfold inI;rw [zBw oM]
theorem aCI (a:Nat):aBe (-1) (a:Int)=-1:=by unfold aBe;rw [zBw oM]
theorem jJ (a b:Int) (w:World) (f:-1000000<=a/\a<=1000000):
 Calls prog 62 #[.int .i64 a,.int .i64 b] w fun d w'=>d=.returned (.int .i64 (inI a b))/\w=w':=by
 unfold inI;by_cases c:a>=b
 · rw [zBx c];have e:wrap64 (a+1)=a+1:=dK oM oM;go_enter func62,ntmps62;go_wp2_with fail;go_ret;exact ⟨rfl,rfl⟩
 · rw [zBw c];go_enter func62,ntmps62;go_wp2_with fail;go_ret;exact ⟨rfl,rfl⟩
theorem lO (a b:Int) (w:World) (f:-1000000<=a/\a<=1000000):
 Calls prog 95 #[.int .i64 a,.int .i64 b] w fun d w'=>d=.returned (.int .i64 (aBe a b))/\w=w':=by
 unfold aBe;by_cases c:a > b
 · rw [zBx c];have e:IntKind.i64.wrap (a - 1)=a - 1:=(by rw [IntKind.wrap_i64];omega);go_enter func95,ntmps95;go_wp2_with fail;go_ret;exact ⟨rfl,rfl⟩
 · rw [zBw c];go_enter func95,ntmps95;go_wp2_with fail;go_ret;exact ⟨rfl,rfl⟩
theorem aFm (a d b:Nat) (w:World) (q:0 < a∨¬d < b) (p:a<=1000000):
 Calls prog 121 #[(a:Int),(d:Int),(b:Int)] w fun k w'=>k=.returned (.int .i64 ((aIV a d b:Nat):Int))/\w=w':=by
 unfold aIV;by_cases j:d < b
 · obtain ⟨c,o⟩:∃c,a=c+1:=⟨a - 1,by omega⟩;subst o;have n:(d:Int) < (b:Int):=oM;have l:IntKind.i64.wrap (((c+1:Nat):Int) - 1)=(c:Int):=(by rw [IntKind.wrap_i64];omega);obtain ⟨a,i⟩:=eqx (c+1);rw [i] at l⊢;have e:(if d < b then a - 1 else a)=c:=(by rw [zBx j];omega);simp only [e];by_cases f:b<=c
   · have g:(c:Int)>=(b:Int):=oM;have m:wrap64 ((c:Int)+1)=((c+1:Nat):Int):=(by rw [dK oM oM];rfl);rw [zBx f];clear e i;go_enter func121,ntmps121;go_wp2_with fail;go_ret;exact ⟨rfl,rfl⟩
   · have g:¬(c:Int)>=(b:Int):=oM;rw [zBw f];clear e i;go_enter func121,ntmps121;go_wp2_with fail;go_ret;exact ⟨rfl,rfl⟩
 · have n:¬(d:Int) < (b:Int):=oM;have e:(if d < b then a - 1 else a)=a:=(by rw [zBw j]);simp only [e];by_cases f:b<=a
   · have g:(a:Int)>=(b:Int):=oM;have m:wrap64 ((a:Int)+1)=((a+1:Nat):Int):=(by rw [dK oM oM];rfl);rw [zBx f];clear e;go_enter func121,ntmps121;go_wp2_with fail;go_ret;exact ⟨rfl,rfl⟩
   · have g:¬(a:Int)>=(b:Int):=oM;rw [zBw f];clear e;go_enter func121,ntmps121;go_wp2_with fail;go_ret;exact ⟨rfl,rfl⟩
theorem aCa (gl:Nat) (d e f:Value) (mv a b:Int) (w:World) (c:Bk w gl 92 #[d,e,f,.int .i64 mv]) (k:0<=a) (l:a<=b):
 Calls prog 51 #[gl,.int .i64 a,.int .i64 b] w fun g w'=>g=.returned (.int .i64 0)/\w'=w.setCell ⟨gl,3,none⟩ (.int .i64 0):=by
 have i:w.cell? ⟨gl,3,none⟩=some (.int .i64 mv):=(c.cell 3).trans rfl;have j:=c.frozen 3;have m:decide (a < 0)=false:=zBy oM;have n:¬a > b:=oM;have o:¬b < a:=oM;clear c;go_enter func51,ntmps51;go_wp2_with fail;go_ret;exact ⟨rfl,rfl⟩
theorem rR (d:List (Nat×Nat)) (f:Nat):∃a,eD d f a:=by
 have j:∀c,∃a,eD (d.take c) f a:=by
  intro c
  induction c with
  | zero=>exact ⟨-1,.inl ⟨rfl,fun e g=>by simp at g⟩⟩
  | succ c i=>
    obtain ⟨a,b⟩:=i;rw [zAv];cases k:d[c]? with
    | none=>exact ⟨a,by simpa using b⟩
    | some e=>exact ⟨_,wZ b e.1 e.2⟩
 obtain ⟨a,b⟩:=j d.length;rw [List.take_length] at b;exact ⟨a,b⟩
theorem aIu {g:List (Nat×Nat)} {i:Nat} {k l:Int} (m:eD g i k) (e:eD g i l):k=l:=by
 rcases m with ⟨rfl,b⟩|⟨j,f,rfl,b,n⟩;rcases e with ⟨rfl,_⟩|⟨d,c,rfl,a,_⟩;rfl;have:=b d c;omega;rcases e with ⟨rfl,a⟩|⟨d,c,rfl,a,o⟩;have:=a j f;omega;have:=n d c a;have:=o j f b;omega
theorem iM (gp R P:Nat) (a:List (Nat×Nat)) (b:Nat) (d:Int) (w:World) (e:PermR w gp R P a) (g:eD a b d):
 Calls prog 99 #[gp,(b:Int)] w fun c w'=>c=.returned (.int .i64 d)/\Below w.heap.size w w':=by
 refine (pP gp R P a b w e).mono ?_;rintro c w' ⟨j,rfl,i,f⟩;exact ⟨by rw [aIu g i],f⟩
theorem PermE.len {w:World} {c:Nat->Prop} {gp R P:Nat} {pr:List (Nat×Nat)} (b:PermE w c gp R P pr):pr.length<=R:=by
 have d:(pr.map fun a=>a.1).Nodup:=by rw [List.Nodup,List.pairwise_map];exact b.2.1.imp fun {j k} f=>Nat.ne_of_lt f
 have e:=gQ (n:=R) d fun l g=>by obtain ⟨a,i,rfl⟩:=zAy.1 g;exact (b.2.2 a i).1
 simpa using e
def Smp (pr:List (Nat×Nat)) (a:Nat):Prop:=∃b∈pr,b.2=a
structure FG (S:Nat->Prop) (r N at_:Nat) (q:Int):Prop where
 zero:S 0
 le:∀s,S s->s<=N
 at_q:q=-1∨q=((N+1:Nat):Int)∨∃s:Nat,S s/\q=(s:Int)
 fine:∀s:Nat,S s->((s:Int) < q∨at_<=s)->s+r<=N->∃s',S s'/\s < s'/\s'<=s+r
 gap2:∀s:Nat,S s->s+2*r<=N->∃s',S s'/\s < s'/\s'<=s+2*r
def pS (c:Nat->Prop) (d e:Nat):Prop:=∀a:Nat,c a->a+d<=e->∃b,c b/\a < b/\b<=a+d
structure PreGap (S:Nat->Prop) (r N at_:Nat):Prop where
 le:∀s,S s->s<=N
 fine:∀s:Nat,(S s∨s=0)->(s+r < at_∨at_<=s)->s+r<=N->∃s',S s'/\s < s'/\s'<=s+r
 gap2:∀s:Nat,(S s∨s=0)->s+2*r<=N->∃s',S s'/\s < s'/\s'<=s+2*r
theorem FG.congr {b c:Nat->Prop} {g d e:Nat} {f:Int} (j:FG b g d e f) (i:∀a,c a↔b a):FG c g d e f:=by
 have:c=b:=funext fun a=>propext (i a);rw [this];exact j
theorem xH {u i:Nat->Prop} {d t f:Nat} {s:Int} (l:PreGap u d t f) (g:∀q,i q↔u q∨q=0) (z:1<=d) (c:(s=-1/\∀a,i a->a < f - 2*d)∨∃e:Nat,i e/\s=(e:Int)/\f - 2*d<=e/\∀r,i r->f - 2*d<=r->e<=r):FG i d t f s:=by
 refine ⟨(g 0).2 (.inr rfl),fun a b=>?_,?_,fun a b k p=>?_,fun a b p=>?_⟩;rcases (g a).1 b with b | rfl;exact l.le a b;exact zAp _;rcases c with ⟨c,_⟩|⟨e,v,c,_⟩;exact .inl c;exact .inr (.inr ⟨e,v,c⟩)
 · obtain ⟨j,m,n,o⟩:=l.fine a ((g a).1 b) (by
    rcases k with k | k;rcases c with ⟨c,_⟩|⟨e,v,c,A,y⟩;omega;by_cases x:f - 2*d<=a;have:=y a b x;omega;exact .inl oM
    · exact .inr k) p
   exact ⟨j,(g j).2 (.inl m),n,o⟩
 obtain ⟨j,m,n,o⟩:=l.gap2 a ((g a).1 b) p;exact ⟨j,(g j).2 (.inl m),n,o⟩
theorem aCV {e:Nat->Prop} {c a f:Nat} {b:Int} (g:FG e c a f b) (l:¬b<=min (a:Int) ((f:Int)+(c:Int))):pS e c a:=fun d i k=>by
 refine g.fine d i ?_ k;have:=g.le d i;by_cases j:(d:Int) < b;exact .inl j;right;omega
def aJ7 (c:Nat->Prop) (e:Nat) (d b:Int):Prop:=d < b/\(∀a:Nat,c a->d < (a:Int)->b<=(a:Int))/\(b=((e+1:Nat):Int)∨∃a:Nat,c a/\b=(a:Int))
theorem oU {g:Nat->Prop} {k f l:Nat} {b j:Int} (a:FG g k f l b) (o:aJ7 g f b j) (t:j - b<=(k:Int)):FG g k f l j:=by
 obtain ⟨u,q,e⟩:=o;refine ⟨a.zero,a.le,.inr e,fun c i d m=>?_,a.gap2⟩;rcases d with d | d;by_cases n:(c:Int) < b;exact a.fine c i (.inl n) m;by_cases s:(c:Int)=b;rcases e with e |⟨r,p,e⟩;omega;exact ⟨r,p,by omega,by omega⟩;have:=q c i oM;omega;exact a.fine c i (.inr d) m
theorem iU {j S':Nat->Prop} {e i y:Nat} {m t:Int} (f:FG j e i y m) (E:aJ7 j i m t) (N:m<=(i:Int)) (Q:1<=e) (O:¬t - m<=(e:Int)):∃o:Nat,m+(e:Int)=(o:Int)/\o<=i/\¬j o/\((∀v,S' v↔v=o∨j v)->FG S' e i y (o:Int)):=by
 obtain ⟨S,r,I⟩:=E;have F:∃d:Nat,j d/\m=(d:Int):=by rcases f.at_q with n | n | n;exfalso;have:=r 0 f.zero oM;omega;omega;exact n
 obtain ⟨d,G,rfl⟩:=F;have M:t<=((i+1:Nat):Int):=by rcases I with n |⟨J,H,n⟩;omega;have:=f.le J H;omega
 refine ⟨d+e,by omega,by omega,fun b=>?_,fun g=>?_⟩;have:=r _ b oM;omega
 · have u:∀ {x z:Nat},(∃a,j a/\x < a/\a<=z)->∃a,S' a/\x < a/\a<=z:=fun ⟨a,D,q⟩=>⟨a,(g a).2 (.inr D),q⟩;have q:d+2*e<=i->∃a,S' a/\d+e < a/\a<=d+2*e:=fun l=>by obtain ⟨a,k,p,s⟩:=f.gap2 d G l;have:=r a k oM;exact ⟨a,(g a).2 (.inr k),by omega,s⟩
   refine ⟨(g 0).2 (.inr f.zero),fun c b=>?_,.inr (.inr ⟨d+e,(g _).2 (.inl rfl),rfl⟩),fun c b K l=>?_,fun c b l=>?_⟩;rcases (g c).1 b with rfl | b;omega;exact f.le c b;rcases (g c).1 b with rfl | b;obtain ⟨a,k,p,s⟩:=q oM;exact ⟨a,k,p,by omega⟩;by_cases A:c=d;subst A;exact ⟨c+e,(g _).2 (.inl rfl),by omega,zAs _⟩;by_cases C:(c:Int) < (d:Int);exact u (f.fine c b (.inl C) l);have:=r c b oM;exact u (f.fine c b (.inr oM) l);rcases (g c).1 b with rfl | b;obtain ⟨a,k,p,s⟩:=q oM;exact ⟨a,k,p,by omega⟩;exact u (f.gap2 c b l)
structure TxM (w:World) (B:Nat) (own:Nat->Nat) (gl gk gp rate:Nat) (mv:Int) (S T:List Nat) (N:Nat) (rs:List Nat) (pr:List (Nat×Nat)):Prop where
 suf:IsSuf S rs
 live:LiveM w B own gl gk gp rate mv (N+1) (N+1) (aE S rs) T pr
 tal:T.Perm (aE S rs)
 right:∀x∈pr,rs[x.1]?=some x.2
theorem TxM.vis {w w':World} {B:Nat} {own:Nat->Nat} {gl gk gp rate:Nat} {mv:Int} {c T:List Nat} {b:Nat} {d:List Nat} {pr:List (Nat×Nat)} (a:TxM w B own gl gk gp rate mv c T b d pr) (e:Vis w w'):TxM w' B own gl gk gp rate mv c T b d pr:=⟨a.suf,a.live.vis e,a.tal,a.right⟩
def mW (w:World) (B:Nat) (own:Nat->Nat) (gl gk gp rate:Nat) (mv:Int) (c T:List Nat) (b:Nat) (f:List Nat) (pr:List (Nat×Nat)) (e:Nat) (d:Ending) (w':World):Prop:=
 d=.returned (.tuple #[])/\∃own' pr',TxM w' B own' gl gk gp rate mv c T b f pr'/\(∀a,Smp pr' a↔a=e∨Smp pr a)/\LF B w w' own own'
theorem oC (w:World) (B:Nat) (own:Nat->Nat) (gl gk gp rate:Nat) (mv:Int) (o:List UInt8) (T:List Nat) (n:Nat) (x:List Nat) (pr:List (Nat×Nat)) (a:Nat) (k:TxM w B own gl gk gp rate mv (aF o) T n x pr) (s:o.length=n) (N:n<=127) (a8:a<=n) (E:∀c∈pr,c.2≠a):
 Calls prog 123 #[gl,(a:Int)] w (mW w B own gl gk gp rate mv (aF o) T n x pr a):=by
 subst s;obtain ⟨m,S,V⟩:=k.suf.row (p:=a) (by rw [aL];omega);have v:x[m]?=some a:=by rw [zAa S,V]
 have a9:m < o.length+1:=by have:=k.suf.len;rw [aL] at this;omega
 have U:∀j,VB B w j->Calls prog 40 #[gl,(a:Int)] j fun q w'=>q=.returned (.int .i64 (m:Int))/\VB B j w':=fun j aa=>by have u:=k.vis aa.1;exact fO B gl gk gp rate o x pr m a j (u.live.g u.tal) u.right u.suf N v
 have O:∀c∈pr,c.1≠m:=fun c b q=>by have:=k.right c b;rw [q,v] at this;injection this with this;exact E c b this.symm
 have M:pr.length<=900:=by have:=k.live.perm.len;omega
 obtain ⟨z,A,a2,a1,a0,Z,a3⟩:=hqq7 k.live k U O E M v;obtain ⟨n,s⟩:=eqx o.length;rw [s] at N a8 a9;have G:=lhd s;clear k U O E M V v S s;rw [G.out] at z;unfold mW;go_enter func123,ntmps123;go_wp2_with fail;refine wp_region_any kR ?_;refine cA B 8 [4,5,6,7,8,9,10,11] (fun _=>False) 100 [] (fun _=>True) (cX) [is gl,is gl,is (.pointer (some ⟨gl,1,none⟩)),is gp,is gl,is (a:Int),is (m:Int),is (a:Int)] _ _ rfl dC kR kR kR (trivial) (fun _ _ _ _ _=>trivial) (fun _ _ _ k _=>k) tA1 ?_ ?_
 · refine bJ ?_;refine pH3 0 (.pointer (some ⟨gl,0,none⟩)) ?_;refine pV3 0 4 ?_;refine pV3 1 5 ?_;refine sC3 (fun _ j e _ _ _ _ l _ _ _ r=>?_) ?_
   · replace e:VFB B (fun _=>False) w j:=fD e;have ae:_=_:=l 2 6 kR rfl;have ad:j.cell? ⟨gl,1,none⟩=some (.pointer (some ⟨gp,0,none⟩)):=((z.out.vis (VFB.to_vb e fun _ _ d=>d).1).blk.cell 1).trans rfl;go_simp;exact r _ _ (aH vR) rfl
   refine pH3 0 (.pointer (some ⟨gl,0,none⟩)) ?_;refine pH3 1 (.int .i64 (a:Int)) ?_;refine sC3 (fun _ j e _ _ _ _ l _ _ _ r=>?_) ?_
   · replace e:VFB B (fun _=>False) w j:=fD e;have af:_=_:=l 4 8 kR rfl;have ag:_=_:=l 5 9 kR rfl;go_simp;refine (a2.out j (VFB.to_vb e fun _ _ d=>d)).mono ?_;rintro q ac ⟨rfl,ab⟩;exact r _ _ (aH ab) rfl
   refine pH3 1 (.int .i64 (a:Int)) ?_;exact aD
 · intro C y d e l ah;replace e:VFB B (fun _=>False) w y:=fD e;have a7:C (.tmp 7)=.pointer (some ⟨gp,0,none⟩):=l 3 7 dC rfl;have a5:C (.tmp 10)=.int .i64 (m:Int):=l 6 10 dC rfl;have a6:C (.tmp 11)=.int .i64 (a:Int):=l 7 11 dC rfl;simp only [zqq];rw [a7];rw [a5];rw [a6];clear l;change wpAny prog Region.Mode.any _ _ (1+d) (bX 8 9) _ y;rw [zCs 1 d];refine bG (f:=d) (i:=8) kR ?_;refine bV rfl rfl ?_;generalize r:wpAny prog _ _ _ d _=K5;go_simp;have F:VB B w y:=VFB.to_vb e fun _ _ d=>d;have D:=z.out.vis F.1;refine (aB3 (fun a4=>own a4=1) gp (n+1) (n+1) m a pr y D.perm oM oM a1.out a0.out Z.out).mono ?_;rintro q ac ⟨rfl,⟨pr',Q,H⟩,J⟩;obtain ⟨K,I⟩:=D.permOp H J;have Y:=lhd K;have X:=lhd ((LF.of_vb (own:=own) F).trans I);have t:=lhd Q;clear K I Q H J D F;subst r;refine bW kR ?_;go_wp2_with fail;go_end0;refine ⟨rfl,_,pr',⟨A.out.suf,by rw [G.out];exact Y.out,A.out.tal,fun c b=>?_⟩,fun W=>?_,X.out⟩;rcases List.mem_cons.1 (t.out.subset b) with rfl | b;exact a3.out;exact A.out.right c b;unfold Smp;constructor;rintro ⟨c,b,rfl⟩;rcases List.mem_cons.1 (t.out.subset b) with rfl | b;exact .inl rfl;exact .inr ⟨c,b,rfl⟩;rintro (rfl |⟨c,b,rfl⟩);exact ⟨(m,W),t.out.symm.subset (by simp),rfl⟩;exact ⟨c,t.out.symm.subset (by simp [b]),rfl⟩
def sR (w:World) (B:Nat) (own:Nat->Nat) (gl gk gp rate:Nat) (mv:Int) (b T:List Nat) (a:Nat) (d:List Nat) (c:Ending) (w':World):Prop:=
 c=.returned (.tuple #[])/\∃own' pr',TxM w' B own' gl gk gp rate mv b T a d pr'/\Smp pr' 0/\pS (Smp pr') rate a/\LF B w w' own own'
theorem tH {pr:List (Nat×Nat)} {c:Nat} {i:Int} (k:eD pr c i):(i=-1/\∀g,Smp pr g->g < c)∨∃a:Nat,Smp pr a/\i=(a:Int)/\c<=a/\∀b,Smp pr b->c<=b->a<=b:=by
 rcases k with ⟨e,f⟩|⟨a,n,e,f,l⟩;exact .inl ⟨e,fun g ⟨b,o,d⟩=>by rw [<-d];exact f b o⟩;exact .inr ⟨a.2,⟨a,n,rfl⟩,e,f,fun b ⟨p,m,d⟩ j=>by rw [<-d] at j⊢;exact l p m j⟩
theorem tV {pr:List (Nat×Nat)} {N i:Nat} {a b:Int} (j:eD pr i b) (o:a+1=(i:Int)) (p:a<=(N:Int)):(b < 0->aJ7 (Smp pr) N a ((N+1:Nat):Int))/\(¬b < 0->aJ7 (Smp pr) N a b):=by
 rcases tH j with ⟨f,g⟩|⟨n,m,f,g,k⟩;refine ⟨fun _=>⟨by omega,fun e d l=>?_,.inl rfl⟩,fun c=>absurd oM c⟩;have:=g e d;omega;refine ⟨fun c=>absurd c oM,fun _=>⟨by omega,fun e d l=>?_,.inr ⟨n,m,f⟩⟩⟩;have:=k e d oM;omega
structure FillI (w0 wr:World) (B:Nat) (jT own:Nat->Nat) (gl gk gp rate:Nat) (mv:Int) (S T:List Nat) (N at_:Nat) (rs:List Nat) (pr:List (Nat×Nat)) (q:Int):Prop where
 tx:TxM wr B own gl gk gp rate mv S T N rs pr
 fg:FG (Smp pr) rate N at_ q
 lf:LF B w0 wr jT own
theorem TxM.lenc {w:World} {B:Nat} {own:Nat->Nat} {gl gk gp rate:Nat} {mv:Int} {c:List UInt8} {T:List Nat} {a:Nat} {i:List Nat} {pr:List (Nat×Nat)} (e:TxM w B own gl gk gp rate mv (aF c) T a i pr) (l:c.length=a) (o:a<=127):∀b:Nat,Calls prog 37 #[gl] (w.drewN b) fun d w'=>d=.returned (.int .i64 (a:Int))/\∃n,w'=w.drewN n:=fun b=>by
 have f:=e.vis (Vis.of_below (below_drewN bR b));have m:(aE (aF c) i).length=a+1:=by rw [bP,e.suf.len,aL,l]
 exact (bQ B gl _ a _ (f.live.g f.tal).lvw m oM).mono fun d w' ⟨j,k⟩=>⟨j,b,k.symm⟩
theorem FG.ge {e:Nat->Prop} {i b f:Nat} {a:Int} (d:FG e i b f a):-1<=a/\a<=((b+1:Nat):Int):=by
 rcases d.at_q with c | c |⟨j,g,c⟩;omega;omega;have:=d.le j g;omega
theorem aDN (w:World) (B:Nat) (own:Nat->Nat) (gl gk gp rate:Nat) (mv:Int) (Y:List UInt8) (T:List Nat) (b j:Nat) (a5:List Nat) (pr:List (Nat×Nat)) (ad:TxM w B own gl gk gp rate mv (aF Y) T b a5 pr) (bi:Y.length=b) (a2:b<=127) (bG:j<=b) (X:1<=rate) (bI:rate<=64) (bj:PreGap (Smp pr) rate b j):
 Calls prog 63 #[gl,(j:Int)] w (sR w B own gl gk gp rate mv (aF Y) T b a5):=by
 have bg:w.cell? ⟨gl,1,none⟩=some (.pointer (some ⟨gp,0,none⟩)):=(ad.live.blk.cell 1).trans rfl;have bD:IntKind.i64.wrap (2*(rate:Int))=((2*rate:Nat):Int):=by rw [IntKind.wrap_i64];omega
 have bE:IntKind.i64.wrap ((j:Int) -((2*rate:Nat):Int))=(j:Int) -((2*rate:Nat):Int):=by rw [IntKind.wrap_i64];omega
 have bF:IntKind.i64.wrap ((j:Int)+(rate:Int))=(j:Int)+(rate:Int):=by rw [IntKind.wrap_i64];omega
 have bh:wrap64 ((b:Int)+1)=((b+1:Nat):Int):=by rw [dK oM oM];rfl
 obtain ⟨av,Z,aW⟩:=hqq3 ad bi bj;clear ad bi bj;unfold sR;go_enter func63,ntmps63;by_cases aw:∃o∈pr,o.2=0
 · have ax:=sM gp (b+1) (b+1) pr 0 w av.out.live.permR aw;unfold yQ at ax;have aC:∀d,Smp pr d↔Smp pr d∨d=0:=fun d=>⟨.inl,fun ad=>by
    rcases ad with ad | rfl;exact ad
    · exact aw⟩
   have aA:=lhd aC;clear aC aw;go_wp2_with fail;refine ax.mono ?_;clear ax;rintro f a0 ⟨bB,bz,rfl,ae⟩;have bH:decide ((bB:Int) < 0)=false:=(by simp);have C:=lhd (av.out.vis (Vis.of_below ae));have ay:=lhd (LF.of_vb (B:=B) (own:=own) (VisK.of_below ae));clear ae bz bg av;go_wp2_with fail;obtain ⟨V,am⟩:=rR pr (j - 2*rate);refine wp_region_any kR ?_;refine aQ [14,15,16,17,18,19,20,21,22,23,24,25,26,4] (Grow) (Vs [is gl,is gl,is (.pointer (some ⟨gl,1,none⟩)),is gp,is (j:Int),is gl,is gl,is (.pointer (some ⟨gl,2,none⟩)),is (rate:Int),is (.int .i64 ((2*rate:Nat):Int)),is (.int .i64 ((j:Int) -((2*rate:Nat):Int))),is (.int .i64 ((j - 2*rate:Nat):Int)),is (.int .i64 V),is (.int .i64 V)]) _ _ rfl kR bR (fun _ _=>Grow.trans) (cV tA1) ?_ ?_
   · refine aO ?_;refine pH 0 (.pointer (some ⟨gl,0,none⟩)) ?_;refine pV 0 14 ?_;refine pV 1 15 ?_;refine pL 2 16 (fun q e=>have e:(Grow) a0 q:=gD e;(((C.out.vis (Vis.of_below e)).live.blk.cell 1).trans rfl:q.cell? ⟨gl,1,none⟩=some (.pointer (some ⟨gp,0,none⟩)))) ?_;refine pH 1 (.int .i64 (j:Int)) ?_;refine pH 0 (.pointer (some ⟨gl,0,none⟩)) ?_;refine pV 5 19 ?_;refine pV 6 20 ?_;refine pL 7 21 (fun q e=>have e:(Grow) a0 q:=gD e;(((C.out.vis (Vis.of_below e)).live.blk.cell 2).trans rfl:q.cell? ⟨gl,2,none⟩=some (.int .i64 (rate:Int)))) ?_;refine pV 8 22 ?_;refine sC (fun _ _ _ _ _ _ m _ _ _ F=>?_) ?_
     · have br:_=_:=m 4 18 kR rfl;have bs:_=_:=m 9 23 kR rfl;go_simp;exact F _ _ bR (dD (by rw [IntKind.wrap_i64];push_cast;omega))
     refine sC (fun _ _ _ _ _ _ m _ _ _ F=>?_) ?_
     · have bt:_=_:=m 10 24 kR rfl;go_simp;exact F _ _ bR (dD oM)
     refine sC (fun _ q e _ _ _ m _ _ _ F=>?_) ?_
     · have bq:_=_:=m 3 17 kR rfl;have bu:_=_:=m 11 25 kR rfl;replace e:(Grow) a0 q:=gD e;go_simp;refine (iM gp (b+1) (b+1) pr (j - 2*rate) V q (C.out.vis (Vis.of_below e)).live.permR am).mono ?_;rintro f bC ⟨rfl,b5⟩;exact F _ _ b5 rfl
     refine pV 12 26 ?_;exact aD
   · intro b4 be e m;replace e:(Grow) a0 be:=gD e;have b3:b4 (.tmp 4)=.int .i64 V:=m 13 4 rfl;simp only [zqq];rw [b3];clear m;have aP:=C.out.vis (Vis.of_below e);have aI:=ay.out.trans (LF.of_vb (B:=B) (own:=own) (VisK.of_below e));have aJ:=xH aW.out aA.out X (tH am);have az:=lhd (FillI.mk aP aJ aI);clear aP aI aJ am e C ay aA aW;go_wp2_with fail;go_loopw [4] (fun o wr=>∃(a:Int) (n:Nat->Nat) (l:List (Nat×Nat)),o=.int .i64 a/\FillI w wr B own n gl gk gp rate mv (aF Y) T b j a5 l a) (fun o _=>((b:Int)+2 - intOf o).toNat)
     case atStart=>exact ⟨V,_,_,rfl,az.out⟩
     case round=>
        clear az;obtain ⟨a,n,l,rfl,s⟩:=hrel;obtain ⟨bw,bx⟩:=s.fg.ge;have a4:=s.tx.lenc Z.out a2;have aB:wr.cell? ⟨gl,1,none⟩=some (.pointer (some ⟨gp,0,none⟩)):=(s.tx.live.blk.cell 1).trans rfl;have a1:wr.cell? ⟨gl,2,none⟩=some (.int .i64 (rate:Int)):=(s.tx.live.blk.cell 2).trans rfl;have aK:=s.tx.live.blk.lt;obtain ⟨ap,b7⟩:=eqx (min (b:Int) ((j:Int)+(rate:Int)));obtain ⟨g,aY⟩:=hqq2 s b7;clear s;by_cases aj:a<=ap
        · have bb:decide (a<=ap)=true:=zBz aj;obtain ⟨U,ak⟩:∃U:Nat,a+1=(U:Int):=⟨(a+1).toNat,by omega⟩;have M:a<=(b:Int):=oM;obtain ⟨W,an⟩:=rR l U;obtain ⟨aU,aV⟩:=tV (N:=b) an ak M;have bp:wrap64 (a+1)=(U:Int):=(by rw [dK oM oM];exact ak);obtain ⟨b0,aa,ab,bn⟩:=hqq4 an aU aV ak;clear an aU aV;go_wp2_with fail;go_quiet ((with_reducible exact a4 _))
          rename_i nq
          have aR:=g.out.tx.vis (Vis.of_below (below_drewN bR nq));have aM:=iM gp (b+1) (b+1) l U W (wr.drewN nq) aR.live.permR b0.out;clear aR;go_wp2_with fail;refine aM.mono ?_;clear aM;rintro f w1 ⟨rfl,aE⟩;have u:VB B wr w1:=VisK.of_below ((below_drewN bR nq).trans aE);have y:=g.out.tx.vis u.1;have x:=g.out.lf.trans (LF.of_vb (own:=n) u);obtain ⟨z,D⟩:=hqq2 y x;clear u y x aE a4 aB a1 aK;by_cases aS:W < 0
          · have aT:decide (W < 0)=true:=zBz aS;have i:=lhd (aa.out oM);have aL:=z.out.lenc Z.out a2 0;clear aa ab;go_wp2_with fail;refine aL.mono ?_;clear aL;rintro f A ⟨rfl,ao,rfl⟩;have aN:=z.out.vis (Vis.of_below (below_drewN bR ao));have aH:=D.out.trans (LF.of_vb (B:=B) (own:=n) (VisK.of_below (below_drewN bR ao)));obtain ⟨k,r⟩:=hqq2 aN aH;clear aN aH;generalize w1.drewN ao=A at k r⊢;obtain ⟨c,a3⟩:∃c:Int,((b+1:Nat):Int)=c:=⟨_,rfl⟩;rw [a3] at i;have bv:wrap64 ((b:Int)+1)=c:=(by rw [bh];exact a3);have b9:=i.out.1;have b8:c<=((b+1:Nat):Int):=(by rcases i.out.2.2 with f |⟨au,al,f⟩;omega;have:=g.out.fg.le au al;omega);have b1:IntKind.i64.wrap (c - a)=c - a:=(by rw [IntKind.wrap_i64];omega);have a1:A.cell? ⟨gl,2,none⟩=some (.int .i64 (rate:Int)):=(k.out.live.blk.cell 2).trans rfl;have b6:=k.out.live.blk.lt;by_cases H:c - a<=(rate:Int)
            · have af:decide (c - a > (rate:Int))=false:=zBy oM;have ag:¬(rate:Int) < c - a:=oM;have I:=oU g.out.fg i.out H;have a7:=lhd I;clear I;go_wp2_with fail;go_roundw
              case rel=>exact ⟨c,n,l,by first | rfl |(congr 1 <;> omega),k.out,a7.out,r.out⟩
              case measure=>simp [intOf];omega
            · have af:decide (c - a > (rate:Int))=true:=zBz oM;have ag:(rate:Int) < c - a:=oM;obtain ⟨d,K,ai,t,_⟩:=iU (S':=Smp l) g.out.fg i.out M X H;have b2:IntKind.i64.wrap (a+(rate:Int))=(d:Int):=(by rw [IntKind.wrap_i64];omega);have p:=oC A B n gl gk gp rate mv Y T b a5 l d k.out Z.out a2 ai (fun o Q f=>t ⟨o,Q,f⟩);unfold mW at p;obtain ⟨E,aZ⟩:=hqq2 K t;clear K t;go_wp2_with fail;refine p.mono ?_;clear p;rintro f bd ⟨rfl,aq,v,S,O,G⟩;have J:FG (Smp v) rate b j (d:Int):=(by obtain ⟨ar,ba,_,_,ah⟩:=iU (S':=Smp v) g.out.fg i.out M X oM;have:ar=d:=(by have:=E.out;omega);subst this;exact ah O);obtain ⟨a8,ac,a6⟩:=hqq3 J S (r.out.trans G);have a9:=lhd (show a < (d:Int) by have:=E.out;omega);clear J S O G;go_wp2_with fail;go_roundw
              case rel=>exact ⟨(d:Int),aq,v,rfl,ac.out,a8.out,a6.out⟩
              case measure=>simp [intOf];have:=a9.out;omega
          · have aT:decide (W < 0)=false:=zBy aS;have i:=lhd (ab.out oM);clear aa ab;obtain ⟨c,a3⟩:∃c:Int,W=c:=⟨_,rfl⟩;rw [a3] at i aT⊢;have k:=z;have r:=D;clear z D;generalize w1=A at k r⊢;have b9:=i.out.1;have b8:c<=((b+1:Nat):Int):=(by rcases i.out.2.2 with f |⟨au,al,f⟩;omega;have:=g.out.fg.le au al;omega);have b1:IntKind.i64.wrap (c - a)=c - a:=(by rw [IntKind.wrap_i64];omega);have a1:A.cell? ⟨gl,2,none⟩=some (.int .i64 (rate:Int)):=(k.out.live.blk.cell 2).trans rfl;have b6:=k.out.live.blk.lt;by_cases H:c - a<=(rate:Int)
            · have af:decide (c - a > (rate:Int))=false:=zBy oM;have ag:¬(rate:Int) < c - a:=oM;have I:=oU g.out.fg i.out H;have a7:=lhd I;clear I;go_wp2_with fail;go_roundw
              case rel=>exact ⟨c,n,l,by first | rfl |(congr 1 <;> omega),k.out,a7.out,r.out⟩
              case measure=>simp [intOf];omega
            · have af:decide (c - a > (rate:Int))=true:=zBz oM;have ag:(rate:Int) < c - a:=oM;obtain ⟨d,K,ai,t,_⟩:=iU (S':=Smp l) g.out.fg i.out M X H;have b2:IntKind.i64.wrap (a+(rate:Int))=(d:Int):=(by rw [IntKind.wrap_i64];omega);have p:=oC A B n gl gk gp rate mv Y T b a5 l d k.out Z.out a2 ai (fun o Q f=>t ⟨o,Q,f⟩);unfold mW at p;obtain ⟨E,aZ⟩:=hqq2 K t;clear K t;go_wp2_with fail;refine p.mono ?_;clear p;rintro f bd ⟨rfl,aq,v,S,O,G⟩;have J:FG (Smp v) rate b j (d:Int):=(by obtain ⟨ar,ba,_,_,ah⟩:=iU (S':=Smp v) g.out.fg i.out M X oM;have:ar=d:=(by have:=E.out;omega);subst this;exact ah O);obtain ⟨a8,ac,a6⟩:=hqq3 J S (r.out.trans G);have a9:=lhd (show a < (d:Int) by have:=E.out;omega);clear J S O G;go_wp2_with fail;go_roundw
              case rel=>exact ⟨(d:Int),aq,v,rfl,ac.out,a8.out,a6.out⟩
              case measure=>simp [intOf];have:=a9.out;omega
        · have bb:decide (a<=ap)=false:=zBy aj;have aG:=aCV g.out.fg (by rw [aY.out];exact aj);have aX:=lhd aG;clear aG;go_wp2_with fail;go_quiet ((with_reducible exact a4 _))
          rename_i nq
          have u:VB B wr (wr.drewN nq):=VisK.of_below (below_drewN bR nq);have y:=g.out.tx.vis u.1;have x:=g.out.lf.trans (LF.of_vb (own:=n) u);obtain ⟨z,D⟩:=hqq2 y x;clear u y x a4 aB a1 aK;go_wp2_with fail;go_end0;exact ⟨rfl,n,l,z.out,g.out.fg.zero,aX.out,D.out⟩
 · have ax:=zU gp (b+1) (b+1) pr 0 w av.out.live.permR (fun o Q f=>aw ⟨o,Q,f⟩);have bm:=lhd aw;clear aw;go_wp2_with fail;refine ax.mono ?_;clear ax;rintro f bo ⟨rfl,ae⟩;have bl:=av.out.vis (Vis.of_below ae);have p:=oC bo B own gl gk gp rate mv Y T b a5 pr 0 bl Z.out a2 (zAp _) (fun o Q f=>bm.out ⟨o,Q,f⟩);unfold mW at p;have bf:=lhd (LF.of_vb (B:=B) (own:=own) (VisK.of_below ae));clear ae bl bg av;go_wp2_with fail;refine p.mono ?_;clear p;rintro f a0 ⟨rfl,bA,bc,y,bk,x⟩;obtain ⟨C,ay⟩:=hqq2 y (bf.out.trans x);have aC:∀d,Smp bc d↔Smp pr d∨d=0:=fun d=>(bk d).trans Or.comm;have aA:=lhd aC;clear aC y bk x bf;go_wp2_with fail;obtain ⟨V,am⟩:=rR bc (j - 2*rate);refine wp_region_any kR ?_;refine aQ [14,15,16,17,18,19,20,21,22,23,24,25,26,4] (Grow) (Vs [is gl,is gl,is (.pointer (some ⟨gl,1,none⟩)),is gp,is (j:Int),is gl,is gl,is (.pointer (some ⟨gl,2,none⟩)),is (rate:Int),is (.int .i64 ((2*rate:Nat):Int)),is (.int .i64 ((j:Int) -((2*rate:Nat):Int))),is (.int .i64 ((j - 2*rate:Nat):Int)),is (.int .i64 V),is (.int .i64 V)]) _ _ rfl kR bR (fun _ _=>Grow.trans) (cV tA1) ?_ ?_
   · refine aO ?_;refine pH 0 (.pointer (some ⟨gl,0,none⟩)) ?_;refine pV 0 14 ?_;refine pV 1 15 ?_;refine pL 2 16 (fun q e=>have e:(Grow) a0 q:=gD e;(((C.out.vis (Vis.of_below e)).live.blk.cell 1).trans rfl:q.cell? ⟨gl,1,none⟩=some (.pointer (some ⟨gp,0,none⟩)))) ?_;refine pH 1 (.int .i64 (j:Int)) ?_;refine pH 0 (.pointer (some ⟨gl,0,none⟩)) ?_;refine pV 5 19 ?_;refine pV 6 20 ?_;refine pL 7 21 (fun q e=>have e:(Grow) a0 q:=gD e;(((C.out.vis (Vis.of_below e)).live.blk.cell 2).trans rfl:q.cell? ⟨gl,2,none⟩=some (.int .i64 (rate:Int)))) ?_;refine pV 8 22 ?_;refine sC (fun _ _ _ _ _ _ m _ _ _ F=>?_) ?_
     · have br:_=_:=m 4 18 kR rfl;have bs:_=_:=m 9 23 kR rfl;go_simp;exact F _ _ bR (dD (by rw [IntKind.wrap_i64];push_cast;omega))
     refine sC (fun _ _ _ _ _ _ m _ _ _ F=>?_) ?_
     · have bt:_=_:=m 10 24 kR rfl;go_simp;exact F _ _ bR (dD oM)
     refine sC (fun _ q e _ _ _ m _ _ _ F=>?_) ?_
     · have bq:_=_:=m 3 17 kR rfl;have bu:_=_:=m 11 25 kR rfl;replace e:(Grow) a0 q:=gD e;go_simp;refine (iM gp (b+1) (b+1) bc (j - 2*rate) V q (C.out.vis (Vis.of_below e)).live.permR am).mono ?_;rintro f bC ⟨rfl,b5⟩;exact F _ _ b5 rfl
     refine pV 12 26 ?_;exact aD
   · intro b4 be e m;replace e:(Grow) a0 be:=gD e;have b3:b4 (.tmp 4)=.int .i64 V:=m 13 4 rfl;simp only [zqq];rw [b3];clear m;have aP:=C.out.vis (Vis.of_below e);have aI:=ay.out.trans (LF.of_vb (B:=B) (own:=bA) (VisK.of_below e));have aJ:=xH aW.out aA.out X (tH am);have az:=lhd (FillI.mk aP aJ aI);clear aP aI aJ am e C ay aA aW;go_wp2_with fail;go_loopw [4] (fun o wr=>∃(a:Int) (n:Nat->Nat) (l:List (Nat×Nat)),o=.int .i64 a/\FillI w wr B own n gl gk gp rate mv (aF Y) T b j a5 l a) (fun o _=>((b:Int)+2 - intOf o).toNat)
     case atStart=>exact ⟨V,_,_,rfl,az.out⟩
     case round=>
        clear az;obtain ⟨a,n,l,rfl,s⟩:=hrel;obtain ⟨bw,bx⟩:=s.fg.ge;have a4:=s.tx.lenc Z.out a2;have aB:wr.cell? ⟨gl,1,none⟩=some (.pointer (some ⟨gp,0,none⟩)):=(s.tx.live.blk.cell 1).trans rfl;have a1:wr.cell? ⟨gl,2,none⟩=some (.int .i64 (rate:Int)):=(s.tx.live.blk.cell 2).trans rfl;have aK:=s.tx.live.blk.lt;obtain ⟨ap,b7⟩:=eqx (min (b:Int) ((j:Int)+(rate:Int)));obtain ⟨g,aY⟩:=hqq2 s b7;clear s;by_cases aj:a<=ap
        · have bb:decide (a<=ap)=true:=zBz aj;obtain ⟨U,ak⟩:∃U:Nat,a+1=(U:Int):=⟨(a+1).toNat,by omega⟩;have M:a<=(b:Int):=oM;obtain ⟨W,an⟩:=rR l U;obtain ⟨aU,aV⟩:=tV (N:=b) an ak M;have bp:wrap64 (a+1)=(U:Int):=(by rw [dK oM oM];exact ak);obtain ⟨b0,aa,ab,bn⟩:=hqq4 an aU aV ak;clear an aU aV;go_wp2_with fail;go_quiet ((with_reducible exact a4 _))
          rename_i nq
          have aR:=g.out.tx.vis (Vis.of_below (below_drewN bR nq));have aM:=iM gp (b+1) (b+1) l U W (wr.drewN nq) aR.live.permR b0.out;clear aR;go_wp2_with fail;refine aM.mono ?_;clear aM;rintro f w1 ⟨rfl,aE⟩;have u:VB B wr w1:=VisK.of_below ((below_drewN bR nq).trans aE);have y:=g.out.tx.vis u.1;have x:=g.out.lf.trans (LF.of_vb (own:=n) u);obtain ⟨z,D⟩:=hqq2 y x;clear u y x aE a4 aB a1 aK;by_cases aS:W < 0
          · have aT:decide (W < 0)=true:=zBz aS;have i:=lhd (aa.out oM);have aL:=z.out.lenc Z.out a2 0;clear aa ab;go_wp2_with fail;refine aL.mono ?_;clear aL;rintro f A ⟨rfl,ao,rfl⟩;have aN:=z.out.vis (Vis.of_below (below_drewN bR ao));have aH:=D.out.trans (LF.of_vb (B:=B) (own:=n) (VisK.of_below (below_drewN bR ao)));obtain ⟨k,r⟩:=hqq2 aN aH;clear aN aH;generalize w1.drewN ao=A at k r⊢;obtain ⟨c,a3⟩:∃c:Int,((b+1:Nat):Int)=c:=⟨_,rfl⟩;rw [a3] at i;have bv:wrap64 ((b:Int)+1)=c:=(by rw [bh];exact a3);have b9:=i.out.1;have b8:c<=((b+1:Nat):Int):=(by rcases i.out.2.2 with f |⟨au,al,f⟩;omega;have:=g.out.fg.le au al;omega);have b1:IntKind.i64.wrap (c - a)=c - a:=(by rw [IntKind.wrap_i64];omega);have a1:A.cell? ⟨gl,2,none⟩=some (.int .i64 (rate:Int)):=(k.out.live.blk.cell 2).trans rfl;have b6:=k.out.live.blk.lt;by_cases H:c - a<=(rate:Int)
            · have af:decide (c - a > (rate:Int))=false:=zBy oM;have ag:¬(rate:Int) < c - a:=oM;have I:=oU g.out.fg i.out H;have a7:=lhd I;clear I;go_wp2_with fail;go_roundw
              case rel=>exact ⟨c,n,l,by first | rfl |(congr 1 <;> omega),k.out,a7.out,r.out⟩
              case measure=>simp [intOf];omega
            · have af:decide (c - a > (rate:Int))=true:=zBz oM;have ag:(rate:Int) < c - a:=oM;obtain ⟨d,K,ai,t,_⟩:=iU (S':=Smp l) g.out.fg i.out M X H;have b2:IntKind.i64.wrap (a+(rate:Int))=(d:Int):=(by rw [IntKind.wrap_i64];omega);have p:=oC A B n gl gk gp rate mv Y T b a5 l d k.out Z.out a2 ai (fun o Q f=>t ⟨o,Q,f⟩);unfold mW at p;obtain ⟨E,aZ⟩:=hqq2 K t;clear K t;go_wp2_with fail;refine p.mono ?_;clear p;rintro f bd ⟨rfl,aq,v,S,O,G⟩;have J:FG (Smp v) rate b j (d:Int):=(by obtain ⟨ar,ba,_,_,ah⟩:=iU (S':=Smp v) g.out.fg i.out M X oM;have:ar=d:=(by have:=E.out;omega);subst this;exact ah O);obtain ⟨a8,ac,a6⟩:=hqq3 J S (r.out.trans G);have a9:=lhd (show a < (d:Int) by have:=E.out;omega);clear J S O G;go_wp2_with fail;go_roundw
              case rel=>exact ⟨(d:Int),aq,v,rfl,ac.out,a8.out,a6.out⟩
              case measure=>simp [intOf];have:=a9.out;omega
          · have aT:decide (W < 0)=false:=zBy aS;have i:=lhd (ab.out oM);clear aa ab;obtain ⟨c,a3⟩:∃c:Int,W=c:=⟨_,rfl⟩;rw [a3] at i aT⊢;have k:=z;have r:=D;clear z D;generalize w1=A at k r⊢;have b9:=i.out.1;have b8:c<=((b+1:Nat):Int):=(by rcases i.out.2.2 with f |⟨au,al,f⟩;omega;have:=g.out.fg.le au al;omega);have b1:IntKind.i64.wrap (c - a)=c - a:=(by rw [IntKind.wrap_i64];omega);have a1:A.cell? ⟨gl,2,none⟩=some (.int .i64 (rate:Int)):=(k.out.live.blk.cell 2).trans rfl;have b6:=k.out.live.blk.lt;by_cases H:c - a<=(rate:Int)
            · have af:decide (c - a > (rate:Int))=false:=zBy oM;have ag:¬(rate:Int) < c - a:=oM;have I:=oU g.out.fg i.out H;have a7:=lhd I;clear I;go_wp2_with fail;go_roundw
              case rel=>exact ⟨c,n,l,by first | rfl |(congr 1 <;> omega),k.out,a7.out,r.out⟩
              case measure=>simp [intOf];omega
            · have af:decide (c - a > (rate:Int))=true:=zBz oM;have ag:(rate:Int) < c - a:=oM;obtain ⟨d,K,ai,t,_⟩:=iU (S':=Smp l) g.out.fg i.out M X H;have b2:IntKind.i64.wrap (a+(rate:Int))=(d:Int):=(by rw [IntKind.wrap_i64];omega);have p:=oC A B n gl gk gp rate mv Y T b a5 l d k.out Z.out a2 ai (fun o Q f=>t ⟨o,Q,f⟩);unfold mW at p;obtain ⟨E,aZ⟩:=hqq2 K t;clear K t;go_wp2_with fail;refine p.mono ?_;clear p;rintro f bd ⟨rfl,aq,v,S,O,G⟩;have J:FG (Smp v) rate b j (d:Int):=(by obtain ⟨ar,ba,_,_,ah⟩:=iU (S':=Smp v) g.out.fg i.out M X oM;have:ar=d:=(by have:=E.out;omega);subst this;exact ah O);obtain ⟨a8,ac,a6⟩:=hqq3 J S (r.out.trans G);have a9:=lhd (show a < (d:Int) by have:=E.out;omega);clear J S O G;go_wp2_with fail;go_roundw
              case rel=>exact ⟨(d:Int),aq,v,rfl,ac.out,a8.out,a6.out⟩
              case measure=>simp [intOf];have:=a9.out;omega
        · have bb:decide (a<=ap)=false:=zBy aj;have aG:=aCV g.out.fg (by rw [aY.out];exact aj);have aX:=lhd aG;clear aG;go_wp2_with fail;go_quiet ((with_reducible exact a4 _))
          rename_i nq
          have u:VB B wr (wr.drewN nq):=VisK.of_below (below_drewN bR nq);have y:=g.out.tx.vis u.1;have x:=g.out.lf.trans (LF.of_vb (own:=n) u);obtain ⟨z,D⟩:=hqq2 y x;clear u y x a4 aB a1 aK;go_wp2_with fail;go_end0;exact ⟨rfl,n,l,z.out,g.out.fg.zero,aX.out,D.out⟩
end
end Go.Proofs.YthldmddkfbijhaaGreatDoor
