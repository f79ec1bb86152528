/- Lemmas of the walk. Conditions: each its own. -/
import Derived.Test.YtcoooelofcejbaaGreatDoorPd27
import Derived.Test.YtcoooelofcejbaaGreatDoorPd28
import Derived.Test.YtcoooelofcejbaaGreatDoorProg
import Derived.Test.YtcoooelofcejbaaGreatDoorShl
import Derived.Test.YtcoooelofcejbaaGreatDoorShi
import Derived.Test.YtcoooelofcejbaaGreatDoorSht
set_option linter.all false
set_option maxRecDepth 100000
set_option maxHeartbeats 4000000
open Go.Proofs.Tryz
namespace Go.Proofs.YtcoooelofcejbaaGreatDoor
section
def aHb (b:List UInt8) {a:Nat} (c:UInt8) (d:a<=b.length):aF (aP b a c)=aP (aF b) a (c.toNat+1):=by
 unfold aF cZ aP;rw [zAz,List.map_cons,List.map_take,List.map_drop,List.take_append_of_le_length (by simpa using d),List.drop_append_of_le_length (by simpa using d)];simp
def aHc (b:List UInt8) {a:Nat} (c:a < b.length):aF (aG b a)=aG (aF b) a:=by
 unfold aF cZ aG;rw [zAz,List.map_take,List.map_drop,List.take_append_of_le_length (by simp;omega),List.drop_append_of_le_length (by simp;omega)];simp
def aHa (b:List UInt8) {a:Nat} (c:UInt8) (d:a < b.length):aF (b.set a c)=(aF b).set a (c.toNat+1):=by
 unfold aF cZ;rw [List.map_set];exact (List.set_append_left _ _ (by simpa using d)).symm
def vK {a:List Nat} {b s c:Nat} (f:a[b]?=some c):(c::a.set b s).Perm (s::a):=by
 obtain ⟨d,e⟩:=zAc.1 f;have g:a.set b s=a.take b++s::a.drop (b+1):=List.set_eq_take_append_cons_drop .. |>.trans (by rw [zBx d]);have i:a=a.take b++c::a.drop (b+1):=by
  conv=>lhs;rw [<-zAu b a]
  rw [zAx d,e]
 rw [g]
 conv=>rhs;rw [i]
 refine ((List.perm_middle).cons c).trans ?_;refine (List.Perm.swap s c _).trans ?_;exact ((List.perm_middle).symm.cons s)
section
variable {S S' : Nat -> Prop} {r N at_ : Nat}
def aDM (p:aAt S r N) (u:S 0) (w:∀a,S a->a<=N) (y:1<=r) (x:at_<=N) (o:∀c,S' c↔∃a,S a/\c=sh at_ a):PreGap S' r (N+1) at_:=by
 have k:∀a,S a->S' (sh at_ a):=fun a d=>(o _).2 ⟨a,d,rfl⟩;have v:S' 0∨(at_=0/\S' 1):=by by_cases e:at_=0;right;have:=k 0 u;unfold sh at this;rw [zBw oM] at this;exact ⟨e,this⟩;left;have:=k 0 u;unfold sh at this;rw [zBx oM] at this;exact this
 refine ⟨fun c m=>?_,fun c m s g=>?_,fun c m g=>?_⟩
 · obtain ⟨a,d,rfl⟩:=(o c).1 m;have:=w a d;unfold sh;split <;> omega
 by_cases i:S' c;obtain ⟨a,d,rfl⟩:=(o c).1 i;unfold sh at s g⊢;by_cases e:a < at_;rw [zBx e] at s g⊢;obtain ⟨b,j,l,n⟩:=p a d oM;have:=k b j;unfold sh at this;rw [zBx oM] at this;exact ⟨b,this,l,n⟩;rw [zBw e] at s g⊢;obtain ⟨b,j,l,n⟩:=p a d oM;have:=k b j;unfold sh at this;rw [zBw oM] at this;exact ⟨b+1,this,by omega,by omega⟩;have q:c=0:=m.resolve_left i;subst q;rcases v with f |⟨_,f⟩;exact absurd f i;exact ⟨1,f,by omega,by omega⟩;by_cases i:S' c;obtain ⟨a,d,rfl⟩:=(o c).1 i;unfold sh at g⊢;by_cases e:a < at_;rw [zBx e] at g⊢;obtain ⟨b,j,l,n⟩:=p a d oM;have:=k b j;unfold sh at this;by_cases t:b < at_;rw [zBx t] at this;exact ⟨b,this,l,by omega⟩;rw [zBw t] at this;exact ⟨b+1,this,by omega,by omega⟩;rw [zBw e] at g⊢;obtain ⟨b,j,l,n⟩:=p a d oM;have:=k b j;unfold sh at this;rw [zBw oM] at this;exact ⟨b+1,this,by omega,by omega⟩;have q:c=0:=m.resolve_left i;subst q;rcases v with f |⟨_,f⟩;exact absurd f i;exact ⟨1,f,by omega,by omega⟩
def aDN (m:aAt S r (N+1)) (w:S 0) (C:∀a,S a->a<=N+1) (H:1<=r) (G:at_<=N) (q:∀d,S' d↔∃a,S a/\a≠at_/\d=ush at_ a):PreGap S' r N at_:=by
 have A:∀a,S a->a≠at_->S' (ush at_ a):=fun a c s=>(q _).2 ⟨a,c,s,rfl⟩;have v:∀a,S a->a < at_->S' a:=fun a c x=>by have:=A a c oM;unfold ush at this;rwa [zBx x] at this
 have o:∀a,S a->at_ < a->S' (a - 1):=fun a c x=>by have:=A a c oM;unfold ush at this;rwa [zBw oM] at this
 have z:¬S' 0->1<=N+1 - 0->0+r<=N+1->∃b,S' b/\0 < b/\b+1<=r:=fun y _ j=>by
  have F:at_=0:=by by_cases g:at_=0;exact g;exact absurd (v 0 w oM) y
  obtain ⟨b,e,f,i⟩:=m 0 w j;have l:=o b e oM;by_cases g:b=1;subst g;exact absurd l y;exact ⟨b - 1,l,by omega,by omega⟩
 refine ⟨fun d p=>?_,fun d p u j=>?_,fun d p j=>?_⟩
 · obtain ⟨a,c,s,rfl⟩:=(q d).1 p;have:=C a c;unfold ush;split <;> omega
 by_cases k:S' d;obtain ⟨a,c,s,rfl⟩:=(q d).1 k;unfold ush at u j⊢;by_cases g:a < at_;rw [zBx g] at u j⊢;obtain ⟨b,e,f,i⟩:=m a c oM;exact ⟨b,v b e oM,f,i⟩;rw [zBw g] at u j⊢;obtain ⟨b,e,f,i⟩:=m a c oM;exact ⟨b - 1,o b e oM,by omega,by omega⟩;have t:d=0:=p.resolve_left k;subst t;obtain ⟨b,f,i,l⟩:=z k oM oM;exact ⟨b,f,i,by omega⟩;by_cases k:S' d;obtain ⟨a,c,s,rfl⟩:=(q d).1 k;unfold ush at j⊢;by_cases g:a < at_;rw [zBx g] at j⊢;obtain ⟨b,e,f,i⟩:=m a c oM;rcases Nat.lt_trichotomy b at_ with n | n | n;exact ⟨b,v b e n,f,by omega⟩;subst n;obtain ⟨B,D,l,E⟩:=m b e oM;exact ⟨B - 1,o B D l,by omega,by omega⟩;exact ⟨b - 1,o b e n,by omega,by omega⟩;rw [zBw g] at j⊢;obtain ⟨b,e,f,i⟩:=m a c oM;exact ⟨b - 1,o b e oM,by omega,by omega⟩;have t:d=0:=p.resolve_left k;subst t;obtain ⟨b,f,i,l⟩:=z k oM oM;exact ⟨b,f,i,by omega⟩
end
end
section
open Go.RowKit Go.Shelf
def LiveE (l:World) (e:Nat) (own:Nat->Nat) (i:Nat) (b:List UInt8) (d:Nat) (f:Nat->Prop):Prop:=
 ∃gk j c g k a,TxM l e own i gk j d c (aF b) g b.length k a/\Smp a 0/\(Smp a=f/\aAt (Smp a) d b.length)/\0<=c/\c<=(b.length:Int)+1
def LiveE.vis {f w':World} {a:Nat} {own:Nat->Nat} {c:Nat} {e:List UInt8} {d:Nat} {b:Nat->Prop} (j:LiveE f a own c e d b) (m:Vis f w'):LiveE w' a own c e d b:=by
 obtain ⟨gk,i,n,g,p,o,k,l⟩:=j;exact ⟨gk,i,n,g,p,o,k.vis m,l⟩
def LiveE.bnd {c:World} {b:Nat} {own:Nat->Nat} {e:Nat} {j:List UInt8} {i:Nat} {d:Nat->Prop} (f:LiveE c b own e j i d):∀a,own a≠0->b<=a/\a < c.heap.size:=by
 obtain ⟨gk,l,n,k,p,o,g,m⟩:=f;exact g.live.bnd
def TxM.len {o:World} {g:Nat} {own:Nat->Nat} {i gk j n:Nat} {l:Int} {b:List UInt8} {d:List Nat} {N:Nat} {a:List Nat} {m:List (Nat×Nat)} (e:TxM o g own i gk j n l (aF b) d N a m) (k:b.length=N):(aD (aF b) a).length=N+1/\d.length=N+1/\a.length=N+1:=by
 have c:=e.suf.len;rw [aK,k] at c;have f:(aD (aF b) a).length=N+1:=by rw [bF,c]
 exact ⟨f,by rw [e.tal.length_eq,f],c⟩
def TxM.rinj {s:World} {i:Nat} {own:Nat->Nat} {l gk m p:Nat} {o:Int} {S j:List Nat} {N:Nat} {q:List Nat} {d:List (Nat×Nat)} (a:TxM s i own l gk m p o S j N q d):∀b∈d,∀c∈d,b.2=c.2->b=c:=fun b f c g k=>by
 have n:=a.right b f;have e:=a.right c g;rw [<-k] at e;exact a.live.perm.inj f g (uQ a.suf n e)
def nJ {S a:List Nat} {N at_:Nat} (b:IsSuf S a) (c:EndOk S N) (k:0 < at_) (m:at_<=N):cB (aD S a) (S.getD (at_ - 1) 0) (ro a at_)=ro a (at_ - 1)/\(aD S a)[ro a at_]?=some (S.getD (at_ - 1) 0):=by
 have n:=b.len;have l:=c.len;have i:at_∈a:=b.mem oM;have j:at_ - 1∈a:=b.mem oM;have d:ro a at_ < a.length:=List.idxOf_lt_length_iff.2 i;have g:ro a (at_ - 1) < a.length:=List.idxOf_lt_length_iff.2 j;have e:a[ro a at_]=at_ - 1+1:=by rw [List.getElem_idxOf];omega
 have f:a[ro a (at_ - 1)]=at_ - 1:=List.getElem_idxOf _;refine ⟨lf b c d g e f,?_⟩;have:=rB c d e oM;rw [zAa (by rw [bF];exact d),this]
def aKP (d N at_:Nat) (b:Nat->Prop):Nat->Prop:=aAa d (N+1) at_ (fun c=>∃a,b a/\c=sh at_ a)
def aBG (j:World) (a:Nat) (own:Nat->Nat) (f:Nat) (i:List UInt8) (g:Nat) (d:Nat->Prop) (e:Ending) (c:World):Prop:=e=.returned (.int .i64 0)/\∃b,LiveE c a b f i g d/\LF a j c own b
def aDc {w:World} {B:Nat} {own:Nat->Nat} {gl:Nat} {t:List UInt8} {rate:Nat} {be:Nat->Prop} (at_:Nat) (i:UInt8) (cJ:LiveE w B own gl t rate be) (cQ:t.length<=126) (y:at_<=t.length) (c4:1<=rate) (cS:rate<=64):
 Calls prog 86 #[gl,(at_:Int),.int .u8 (i.toNat:Int)] w (aBG w B own gl (aP t at_ i) rate (aKP rate t.length at_ be)):=by
 obtain ⟨gk,H,d6,K,f,q,m,aE,⟨rfl,av⟩,_⟩:=cJ;obtain ⟨N,Q⟩:=eqx t.length;have bo:=Q;rw [Q] at m av cQ y⊢;obtain ⟨P,bt,aB⟩:=m.len Q;have z:=eK t;rw [Q] at z;obtain ⟨a,aC⟩:=eqx (i.toNat+1);have aG:a < 257:=by have:=i.toNat_lt;omega
 have cT:0 < a:=oM;obtain ⟨S,p⟩:=eqx (aF t);have bs:aF (aP t at_ i)=aP S at_ a:=by rw [aHb t i oM,p,aC]
 have aq:=z.len;have ap:∀b∈S,b < 257:=by rw [<-p];exact dM t
 rw [p] at z P aq;obtain ⟨e,a9⟩:=eqx (ro f at_);have A:=m.suf;rw [p] at A;have aa:∀d,d<=N->d∈f:=fun d d4=>A.mem oM;have ad:f[e]?=some at_:=by rw [<-a9];exact bT (aa at_ y)
 have bL:e < N+1:=by rw [<-aB];exact (zAc.1 ad).1
 obtain ⟨J,T⟩:=aH0 A z (s:=a) y cT;have ab:f.Nodup:=A.nodup;have aA:f.Perm (List.range (N+1)):=by have:=A.perm;rwa [aq] at this
 obtain ⟨row,U⟩:=eqx (cB (aD S f) a (ro f at_));rw [U] at J T;have v:=aF9 ab aA z (s:=a) (row:=row) y J;obtain ⟨aR,af,ch⟩:=aHv ab (at_:=at_) (row:=row) J;obtain ⟨a5,br⟩:=eqx (aP (f.map (sh at_)) row at_);rw [br] at T v aR af ch;rw [a9] at U v;obtain ⟨F,o⟩:=eqx (aD S f);rw [o] at U v P;obtain ⟨ae,az⟩:=eqx (bE S at_);rw [az] at v;have a7:F[e]?=some ae:=by rw [<-o,<-az];unfold aD;rw [zAf,ad];rfl
 have O:∀b∈F,b < 257:=by rw [<-o];exact cL ap
 have cR:ae < 257:=O ae (zAd a7);rw [aB] at J;have I:=m.live;rw [p,o] at I;have C:=m.tal;rw [p,o] at C;have c9:∀b∈F.set e a,b < 257:=fun b k=>by rcases List.mem_or_eq_of_mem_set k with L | L;exact O b L;omega
 have ca:(F.set e a)[e]?=some a:=by rw [List.getElem?_set_self oM]
 have bU:qU (F.set e a) K a e=row:=by rw [<-U];unfold qU cB;rw [C.countP_eq,List.take_set_of_le nL]
 have cc:(K++ [a]).Perm (aD (aP S at_ a) a5):=by rw [v];refine (List.perm_append_comm).trans ?_;refine ((C.cons a).trans (vK a7).symm).trans ?_;exact (eO _ _ _).symm
 have c1:∀b∈(q.map fun b=>(inR b.1 row,b.2)).map (fun b=>(b.1,inR b.2 at_)),a5[b.1]?=some b.2:=fun b k=>by
  rw [zCh] at k;obtain ⟨l,V,rfl⟩:=zAy.1 k;have L:=m.right l V;have bg:=zAd L;have M:=af l.2 bg;have a6:sh at_ l.2=inR l.2 at_:=by unfold sh inR;split <;> split <;> omega
  rw [fF ab L] at M;show a5[inR l.1 row]?=some (inR l.2 at_);rw [<-M,<-a6];refine bT (T.mem.2 ?_);have:=aA.mem_iff.1 bg;rw [zCj] at this;unfold sh;split <;> omega
 have bZ:∀d,Smp ((q.map fun b=>(inR b.1 row,b.2)).map (fun b=>(b.1,inR b.2 at_))) d↔∃a,Smp q a/\d=sh at_ a:=fun d=>by
  have a6:∀aQ,sh at_ aQ=inR aQ at_:=fun aQ=>by unfold sh inR;split <;> split <;> omega
  unfold Smp;rw [zCh];constructor;rintro ⟨b,k,rfl⟩;obtain ⟨l,V,rfl⟩:=zAy.1 k;exact ⟨l.2,⟨l,V,rfl⟩,(a6 _).symm⟩;rintro ⟨_,⟨l,V,rfl⟩,rfl⟩;exact ⟨_,zAy.2 ⟨l,V,rfl⟩,(a6 _).symm⟩
 have c0:∀a,Smp q a->a<=N:=fun a ⟨b,k,c⟩=>by have:=(I.perm.2.2 b k).2;omega
 have bX:=fun (S':Nat->Prop) (cM:∀d,S' d↔∃a,Smp q a/\d=sh at_ a)=>aDM av aE c0 c4 y cM;have c2:q≠ []:=fun c=>by obtain ⟨b,k,_⟩:=aE;rw [c] at k;cases k
 obtain ⟨G,x⟩:∃G:Int,(if at_=0 then -1 else ((ro f (at_ - 1):Nat):Int))=G:=⟨_,rfl⟩;have bw:∀E,VB B w E∨True->LiveM E B own gl gk H rate 0 (N+1) (N+1) F K q->Calls prog 138 #[gl,(at_:Int),(e:Int)] E fun c ag=>c=.returned (.int .i64 G)/\VB B E ag:=fun E _ cK=>by by_cases j:at_=0;rw [zBx j] at x;subst j x;refine (nO e E gl).mono ?_;rintro c ag ⟨rfl,rfl⟩;exact ⟨rfl,VisK.refl _ _⟩;rw [zBw j] at x;obtain ⟨b1,b2⟩:=nJ A z oM y;rw [o,a9] at b1 b2;have:=pZ at_ cK oM b2 O oM oM;rw [kZ C,b1,x] at this;exact this
 have bu:inI G (row:Int)=aOf a5 at_:=by
  rw [<-x];unfold aOf;by_cases j:at_=0
  · rw [zBx j,zBx j,aE7]
  · rw [zBw j,zBw j,uU];have M:=af (at_ - 1) (aa _ oM);rw [show sh at_ (at_ - 1)=at_ - 1 by unfold sh;rw [zBx oM]] at M;rw [M]
 have cN:-1000000<=G/\G<=1000000:=by rw [<-x];by_cases j:at_=0;rw [zBx j];omega;rw [zBw j];have d5:ro f (at_ - 1) < f.length:=List.idxOf_lt_length_iff.2 (aa (at_ - 1) oM);omega
 obtain ⟨ck,ba,cG,X,cn,co,u,aV,aT⟩:=hqq9 m I C bo p bs P bt O;obtain ⟨aU,cz,bd,cE,ct,cm,cH,cw,bc⟩:=hqq9 a7 ad c9 ca bU v cc c1 bZ;obtain ⟨cv,cu,cy,cq,aW,cx,cC,cp,cl⟩:=hqq9 bX T aR bu bw c2 aC ap o;have cO:(at_:Int)<=(N:Int):=oM;have bS:=bM (I.g C).lvw P oM;have bz:=I.blk;have c7:=m.right;have cb:=m.suf;obtain ⟨cA,cF,aX⟩:=hqq3 c7 cb bz;clear c7 cb bz;unfold aBG;clear m I C Q bo p bs P bt O a7 ad c9 ca bU v cc c1 bZ bX T aR af ch bu bw c2 aC ap av aE A aa z aA ab U br az aB aq c0 a9 x o;go_enter func86,ntmps86;go_wp2_with fail;refine bS.mono ?_;clear bS;rintro c w1 ⟨rfl,rfl⟩;go_wp2_with fail;refine (aBM aX.out oM cO).mono ?_;rintro c w1 ⟨rfl,rfl⟩;obtain ⟨bN,bC⟩:=ba.out.setMv 0;obtain ⟨aj,ai⟩:=hqq2 bN bC;clear bN bC aX ba ck;generalize w.setCell ⟨gl,3,none⟩ (.int .i64 0)=w1 at aj ai⊢;go_wp2_with fail;refine (oN i w1).mono ?_;rintro c ah ⟨rfl,bx⟩;rw [cC.out];have aJ:VB B w1 ah:=VisK.of_below bx;have bO:=aj.out.vis aJ.1;have aY:=lhd (ai.out.trans (LF.of_vb (own:=own) aJ));have ak:=lhd bO;clear bx aJ bO;have c6:Calls prog 87 #[gl,(at_:Int)] ah fun c ag=>c=.returned (.int .i64 (e:Int))/\VB B ah ag:=by have cP:=ak.out.g cG.out;have:=fE B gl gk H rate ah (by rw [X.out,cn.out];rw [cl.out];exact cP) cA.out cF.out (by rw [X.out];omega) cz.out;exact this
 go_wp2_with fail;refine c6.mono ?_;clear c6;rintro c d8 ⟨rfl,aK⟩;have Z:=lhd (ak.out.vis aK.1);have aZ:=lhd (aY.out.trans (LF.of_vb (own:=own) aK));clear aK ak aY aj ai;obtain ⟨d3,d2,bI,cf⟩:=Z.out.gw;have D:=Z.out.blk.cell 0;have W:=bI.cell 0;have bH:=dR e ae cf (by rw [u.out];exact bL) (by have bh:=aU.out;rw [zAa (by rw [u.out];exact bL)] at bh;injection bh) aT.out (by rw [u.out];omega);clear bI cf;go_wp2_with fail;refine bH.mono ?_;clear bH;rintro c d0 ⟨rfl,aL⟩;have al:=lhd (Z.out.vis aL.1);have b0:=lhd (aZ.out.trans (LF.of_vb (own:=own) aL));clear aL D W Z aZ;have bv:=aW.out d0 (.inr trivial) al.out;clear aW;go_wp2_with fail;refine bv.mono ?_;clear bv;rintro c E ⟨rfl,aM⟩;have a0:=lhd (al.out.vis aM.1);have b3:=lhd (b0.out.trans (LF.of_vb (own:=own) aM));clear aM al b0;have D:=a0.out.blk.cell 0;have bA:=jH a0.out.walk aU.out aG aT.out (by rw [u.out];omega);go_wp2_with fail;refine bA.mono ?_;clear bA;rintro c d9 ⟨rfl,cU,bi,bl⟩;obtain ⟨bP,R⟩:=a0.out.walkOp bi bl;obtain ⟨am,Y⟩:=hqq2 bP (b3.out.trans R);clear bP R bi bl D a0 b3;have aI:=vB am.out cE.out bd.out (by rw [zAt,u.out];omega) (by rw [aV.out];omega);rw [ct.out] at aI;go_wp2_with fail;refine aI.mono ?_;clear aI;rintro c da ⟨rfl,aN⟩;have a1:=lhd (am.out.vis aN.1);have b4:=lhd (Y.out.trans (LF.of_vb (own:=cU) aN));clear aN am Y;have D:=a1.out.blk.cell 0;have c3:=fW row a1.out.walk cR (by rw [zAt,u.out];exact J) bd.out (by rw [zAt,u.out];omega);go_wp2_with fail;refine c3.mono ?_;clear c3;rintro c db ⟨rfl,cV,bj,bm⟩;obtain ⟨bQ,bD⟩:=a1.out.walkOp bj bm;obtain ⟨a2,b5⟩:=hqq2 bQ (b4.out.trans bD);clear bQ bD bj bm D a1 b4;have D:=a2.out.blk.cell 0;have bB:=mM a2.out.walk aG (by rw [aV.out];omega);go_wp2_with fail;refine bB.mono ?_;clear bB;rintro c ci ⟨rfl,bk,bn⟩;obtain ⟨bR,bF⟩:=a2.out.walkOp bk bn;obtain ⟨a3,b6⟩:=hqq2 bR (b5.out.trans bF);clear bR bF bk bn D a2 b5;have W:ci.cell? ⟨gl,1,none⟩=some (.pointer (some H)):=(a3.out.blk.cell 1).trans rfl;have c5:=yU a3.out.perm J oM oM;go_wp2_with fail;refine c5.mono ?_;clear c5;rintro c aS ⟨rfl,bp,bJ⟩;obtain ⟨ax,ar⟩:=a3.out.permOp (bp.mono fun i _ ao=>.inl ao) bJ;obtain ⟨cW,bV⟩:=eqx (dI cV ci.heap.size aS.heap.size 1);rw [bV] at ax ar;obtain ⟨a4,b7⟩:=hqq2 ax (b6.out.trans ar);clear ax ar bp bJ W a3 b6 bV;have W:aS.cell? ⟨gl,1,none⟩=some (.pointer (some H)):=(a4.out.blk.cell 1).trans rfl;have bY:=yW at_ a4.out.perm oM oM oM;go_wp2_with fail;refine bY.mono ?_;clear bY;rintro c cj ⟨rfl,bq,bK⟩;obtain ⟨ay,au⟩:=a4.out.permOp (bq.mono fun i _ ao=>.inl ao) bK;obtain ⟨d7,bW⟩:=eqx (dI cW aS.heap.size cj.heap.size 1);rw [bW] at ay au;obtain ⟨cs,cr⟩:=hqq2 ay (b7.out.trans au);clear ay au bq bK W a4 b7 bW;have aw:=vC (row:Int) cj cN;rw [cq.out] at aw;go_wp2_with fail;refine aw.mono ?_;clear aw;rintro c dc ⟨rfl,rfl⟩;have ac:=nN ⟨cu.out,by rw [cm.out];exact cs.out,cH.out,cw.out,fun d=>Iff.rfl,fun _ c=>cx.out (by simpa using c),cr.out,⟨Int.le_refl 0,by omega⟩⟩ oM oM (aJA cp.out aG);rw [cy.out] at ac;unfold rX at ac;go_wp2_with fail;refine ac.mono ?_;clear ac;rintro c d1 ⟨rfl,cX,cg,bf,aO,n⟩;have aH:(aP t at_ i).length=N+1:=by rw [fJ _ _ (by rw [X.out];exact y),X.out]
 have cd:TxM d1 B cX gl gk H rate cg (aF (aP t at_ i)) (K++ [a]) (N+1) bf aO:=by rw [co.out];exact ⟨n.near.sorted,n.live,n.tal,n.right⟩
 have a8:=aDg cd aH oM oM c4 cS (cv.out (Smp aO) fun d=>(n.plc d).trans (bc.out d));rw [show Smp aO=fun d=>∃a,Smp q a/\d=sh at_ a from funext fun d=>propext ((n.plc d).trans (bc.out d))] at a8;unfold sL at a8;obtain ⟨b9,bb,an⟩:=hqq3 n.lf n.mvb aH;clear cd aH n;go_wp2_with fail;refine a8.mono ?_;clear a8;rintro c dd ⟨rfl,cY,cZ,ce,c8,bG,R⟩;obtain ⟨cI,cD,b8,Y⟩:=hqq4 ce c8 bG (b9.out.trans R);clear ce c8 bG R b9;go_wp2_with fail;go_ret;exact ⟨rfl,cY,⟨gk,H,cg,K++ [a],bf,cZ,by rw [an.out];exact cI.out,cD.out,⟨b8.out.1,by rw [an.out];exact b8.out.2⟩,bb.out.1,by rw [an.out];have:=bb.out.2;omega⟩,Y.out⟩
def WaveS.low {k:World} {c B':Nat} {own:Nat->Nat} {f:Nat} {S:Nat->Value} {d:Nat->List Nat} {i j:Int} (a:WaveS k c own f S d i j) (b:B'<=c):WaveS k B' own f S d i j:=by
 refine ⟨a.blk,⟨zAk b a.base.1,a.base.2⟩,fun q p=>?_,fun e g=>⟨zAk b (a.bnd e g).1,(a.bnd e g).2⟩⟩;obtain ⟨l,m,n,o⟩:=a.rows q p;exact ⟨l,cD m b,n,o⟩
def WalkE.low {d:World} {a B':Nat} {own:Nat->Nat} {gk:Nat} {b c:List Nat} (g:WalkE d a own gk b c) (n:B'<=a):WalkE d B' own gk b c:=by
 obtain ⟨f,e,i,j,⟨S,o,k⟩,l,m⟩:=g;exact ⟨f,e,i,j,⟨S,o,k.low n⟩,l,m⟩
def aHQ (own:Nat->Nat) (b gk a:Nat):Nat:=if a=b then 2 else if a=gk then 2 else own a
def aCO {o:Option Addr} {l:Nat} (j:Nat) {p:Nat} {d:List Nat} {a:World} (D:Rd a p 1 o l (d.map sv)) (y:p<=a.heap.size) (J:l<=128) (z:∀M∈d,M < 257):
 Calls prog 59 #[.slice o l j] a fun k m=>∃gk own,k=.returned (.pointer (some ⟨gk,0,none⟩))/\a.heap.size<=gk/\WalkE m a.heap.size own gk d d/\Below a.heap.size a m:=by
 obtain ⟨s,q⟩:=hqq2 D z;clear D z;go_enter func59,ntmps59;go_wp2_with fail;refine (aBj j s.out y J q.out).mono ?_;rintro k w1 ⟨x,own,rfl,F,A⟩;obtain ⟨u,b⟩:=hqq2 F A;clear F A;go_wp2_with fail;refine (rQ j (s.out.below (b.out.mono y)) (by have:=b.out.size;omega) oM q.out).mono ?_;rintro k n ⟨e,rfl,R,E,f⟩;have G:=u.out.vis (Vis.of_below f);have B:=b.out.trans (f.mono b.out.size);obtain ⟨I,t,i,H⟩:=hqq4 G E B f.size;clear G E B f;go_wp2_with fail;go_ret;have L:=I.out.vis (w':=n.alloc (.cells #[x,e] 151)) ((Vis.refl _).alloc _);have C:=u.out.bnd;have U:=t.out.lt;have Q:=b.out.size;have T:=H.out;have K:=L.paint (own':=aHQ own e n.heap.size) (fun c P O=>by
  have:=(C c oM).2;unfold aHQ;rw [zBw oM,zBw oM]) (fun c g=>by
  unfold aHQ at g;by_cases v:c=e;subst v;exact ⟨by omega,by simp;omega⟩
  · rw [zBw v] at g;by_cases w:c=n.heap.size;subst w;exact ⟨by omega,by simp⟩
    · rw [zBw w] at g;have:=C c g;exact ⟨this.1,by simp;omega⟩)
 refine ⟨_,_,rfl,i.out.size,⟨x,e,Bk.new _ _ _,?_,K,t.out.alloc _,?_⟩,i.out.alloc i.out.size _⟩
 · unfold aHQ;rw [zBw oM,zBx rfl]
 · unfold aHQ;rw [zBx rfl]
def aBk {g:Option Addr} {f:Nat} (j:Nat) {i:Nat} {c:List UInt8} {a:World} (m:Rd a i 1 g f (c.map bv)) (w:i<=a.heap.size) (C:f<=127):
 Calls prog 31 #[.slice g f j] a fun e p=>∃gk b,IsSuf (aF c) b/\e=.returned (.pointer (some ⟨gk,0,none⟩))/\a.heap.size<=gk/\(∃own,WalkE p a.heap.size own gk (aD (aF c) b) (aD (aF c) b))/\Below a.heap.size a p:=by
 have s:=lhd m;clear m;go_enter func31,ntmps31;go_wp2_with fail;refine (nM j s.out w oM).mono ?_;rintro e w1 ⟨b,A,v,n,rfl,l,k⟩;obtain ⟨t,q,d⟩:=hqq3 n l.rd k;clear n l k;go_wp2_with fail;refine (aCO v q.out nL oM (cL (dM c))).mono ?_;rintro e D ⟨gk,own,rfl,B,o,x⟩;have y:=d.out.trans (x.mono d.out.size);have z:=d.out.size;have u:=lhd o;clear o;go_wp2_with fail;go_ret;exact ⟨gk,b,t.out,rfl,by omega,⟨own,u.out.low z⟩,y⟩
def LiveE.far0 {m n:World} {f:Nat} {own:Nat->Nat} {j:Nat} {l:List UInt8} {k:Nat} {i g:Nat->Prop} (s:LiveE m f own j l k i) (e:Keep g m n) (d:∀a,g a->own a=0):LiveE n f own j l k i:=by
 obtain ⟨gk,q,x,o,z,y,⟨t,b,u,v⟩,w⟩:=s;refine ⟨gk,q,x,o,z,y,⟨t,⟨e.bk b.blk fun c=>?_,b.col,b.walk.far e fun a c=>?_,b.perm.keep e fun a c p=>?_⟩,u,v⟩,w⟩;have:=d _ c;have:=b.col;omega;have:=d a c;omega;have:=d a p;omega
def LiveE.low {g:World} {b B':Nat} {own:Nat->Nat} {d:Nat} {f:List UInt8} {e:Nat} {c:Nat->Prop} (k:LiveE g b own d f e c) (p:B'<=b):LiveE g B' own d f e c:=by
 obtain ⟨gk,j,q,i,t,s,⟨l,a,m,n⟩,o⟩:=k;exact ⟨gk,j,q,i,t,s,⟨l,⟨a.blk,a.col,a.walk.low p,a.perm⟩,m,n⟩,o⟩
def LiveE.tp {e:World} {b:Nat} {own:Nat->Nat} {c:Nat} {a:List UInt8} {d:Nat} {f:Nat->Prop} (j:LiveE e b own c a d f) (p:a.length<=127):TpAt e b c a d:=by
 obtain ⟨gk,i,v,t,s,q,⟨k,l,m,n⟩,o,u⟩:=j;exact ⟨s,gk,i,q,k,l.g m,n,o,p⟩
open Classical in
noncomputable def ownL (own:Nat->Nat) (d b:Nat) (e f g:Value) (c a:Nat):Nat:=if PF d b e f g a then 1 else if a=c then 3 else own a
def PermAt.low {o:World} {p g f:Nat} {l m n k:Value} {d c:Nat} {i:List Nat} {b:List (Nat×Nat)} {j:List Bool} {e:List Nat} (a:PermAt o p g f l m n k d c i b j e):PermAt o 0 g f l m n k d c i b j e:=
 ⟨a.blk,cD a.lrow (zAp _),cD a.orow (zAp _),a.ar,cD a.trow (zAp _),cD a.frow (zAp _),a.apart,a.lt,⟨zAp _,zAp _⟩⟩
def aDK (a:List (Nat×Nat)):(List.range a.length).map (fun b=>(aC a b,aJ a b))=a:=(tQ a).symm
def aBZ {e:List Nat} {d c b:Nat} (f:∃a,e[a]?=some b/\a < c) (j:b % d=0):Smp (cJ e d c) b:=by
 obtain ⟨a,g,i⟩:=f;exact ⟨(a,b),(aER _ _ _ _ _).2 ⟨i,by rw [zAb,g];rfl,j⟩,rfl⟩
def aHp {c:List UInt8} {e:List Nat} {a:Nat} (d:IsSuf (aF c) e) (t:1<=a):aAt (Smp (cJ e a (c.length+1))) a c.length:=fun n ⟨o,l,f⟩ s=>by
 obtain ⟨q,b⟩:=o;have j:=(aER _ _ _ _ _).1 l;have g:b=n:=f;subst g;refine ⟨b+a,aBZ ?_ (by rw [Nat.add_mod_right];exact j.2.2),by omega,zAs _⟩;obtain ⟨m,k,i⟩:=d.row (p:=b+a) (by rw [aK];omega);refine ⟨m,by rw [zAa k,i],?_⟩;have:=d.len;rw [aK] at this;omega
def cY (b N:Nat) (a:Nat):Prop:=a<=N/\a % b=0
def aHo {c:List UInt8} {b:List Nat} (a:Nat) (d:IsSuf (aF c) b):Smp (cJ b a (c.length+1))=cY a c.length:=by
 have m:=d.len;rw [aK] at m;refine funext fun e=>propext ⟨fun ⟨s,g,i⟩=>?_,fun f=>?_⟩;obtain ⟨t,q⟩:=s;obtain rfl:q=e:=i;have k:=d.lt (zAd (pI (rs:=b) (rate:=a) (n:=c.length+1) oM _ g));rw [aK] at k;exact ⟨by omega,((aER _ _ _ _ _).1 g).2.2⟩
 · have u:=f.1;obtain ⟨o,l,j⟩:=d.row (p:=e) (by rw [aK];omega);exact aBZ ⟨o,by rw [zAa l,j],by omega⟩ f.2
def aF6 {w wr:World} {y w2s x:Nat} {own:Nat->Nat} {j gk g i c N:Nat} {k l m:Value} {e:List UInt8} {d:List Nat} {s:List Bool} (M:e.length=N) (q:IsSuf (aF e) d) (R:1<=c) (Y:N<=127) (K:WalkE wr y own gk (aD (aF e) d) (aD (aF e) d)) (O:∀a,own a≠0->a < w2s) (X:j=w2s) (V:w2s < x) (G:Bk wr j 74 #[gk,g,(c:Int),.int .i64 0])
 (o:PermAt wr x g i k l m (.slice none 0 0) (N+1) (N+1) (List.range (cJ d c (N+1)).length) (cJ d c (N+1)) s []) (J:s.length=(cJ d c (N+1)).length) (T:∀a∈s,a=true) (W:y<=w2s):∃U,LiveE wr y U j e c (cY c e.length):=by
 subst M;have A:∀a,PF g i k l m a->x<=a/\a < wr.heap.size:=fun a b=>by refine ⟨o.foot b,?_⟩;rcases b with rfl | rfl | b | b | b;exact o.blk.lt;exact o.ar.lt;exact (o.lrow.lt _ b).2;exact (o.orow.lt _ b).2;exact (o.trow.lt _ b).2
 have t:∀a,PF g i k l m a->ownL own g i k l m j a=1:=fun a b=>by unfold ownL;rw [zBx b]
 have P:ownL own g i k l m j j=3:=by unfold ownL;rw [zBw (fun f=>by have:=(A _ f).1;omega),zBx rfl]
 have Q:∀a,a < w2s->ownL own g i k l m j a=own a:=fun a b=>by unfold ownL;rw [zBw (fun f=>by have:=(A _ f).1;omega),zBw oM]
 have Z:d.length=e.length+1:=by rw [q.len,aK]
 refine ⟨ownL own g i k l m j,gk,g,0,_,d,cJ d c (e.length+1),⟨q,⟨G,P,K.paint (fun a _ E=>Q a (O a oM)) (fun a u=>?_),⟨⟨i,k,l,m,.slice none 0 0,List.range (cJ d c (e.length+1)).length,cJ d c (e.length+1),s, [],?_,(aDK _).symm⟩,qL _ _ _,fun B v=>?_⟩⟩,List.Perm.refl _,pI oM⟩,?_,⟨aHo c q,aHp q R⟩,by decide,by omega⟩;unfold ownL at u;by_cases C:PF g i k l m a;have:=A a C;exact ⟨by omega,this.2⟩;rw [zBw C] at u;by_cases D:a=j;subst D;exact ⟨by omega,G.lt⟩;rw [zBw D] at u;exact K.bnd a u
 · have I:∀p,p < s.length->s[p]?=some true:=fun p H=>by rw [zAa H];congr 1;exact T _ (zBj H)
   refine ⟨o.low,t _ (.inl rfl),t _ (.inr (.inl rfl)),fun a b=>t _ (.inr (.inr (.inl b))),fun a b=>t _ (.inr (.inr (.inr (.inl b)))),fun a b=>t _ (.inr (.inr (.inr (.inr b)))),fun a b=>(by cases b),List.nodup_range,J,fun p=>?_,List.nodup_nil,fun p=>?_,by have:=aHq d c (e.length+1);omega⟩
   · rw [zCj,<-J];constructor
     · intro f;exact (zAc.1 f).1
     exact I p
   · constructor
     · intro f;cases f
     · intro f;have z:=I p (zAc.1 f).1;rw [z] at f;cases f
 have z:=nT v;have E:=pI (rs:=d) (rate:=c) (n:=e.length+1) oM B v;have F:=q.lt (zAd E);rw [aK] at F;exact ⟨z.1,F⟩;obtain ⟨B,v,L⟩:=aFS (rate:=c) q;exact ⟨B,v,L⟩
def sF (b:Nat) {A0:Option Addr} {m0:Nat} (ao:Nat) {B:Nat} {ss:List Sl} {t:List UInt8} {N:Nat} (bi:gK ss=t) (M:t.length=N) {w:World} (aT:Rd w B 1 A0 m0 (ss.map slV)) (aV:∀af∈ss,Rd w B 1 af.A af.n (af.l.map bv)) (bg:B<=w.heap.size) (bN:m0<=1000000) (aN:N<=127) (bu:1<=b) (bP:b<=64):
 Calls prog 15 #[(b:Int),.slice A0 m0 ao] w fun o b0=>∃g own,o=.returned (.tuple #[.pointer (some ⟨g,0,none⟩),.int .i64 0])/\w.heap.size<=g/\LiveE b0 w.heap.size own g t b (cY b t.length)/\Below w.heap.size w b0:=by
 have bj:=M;have aE:=mG ao bi M aT aV bg oM oM;have bQ:¬((b:Int) < 1):=oM;have bS:¬((b:Int) > 64):=oM;clear aT aV;go_enter func15,ntmps15;go_wp2_with fail;refine aE.mono ?_;clear aE;rintro o w1 ⟨bD,ap,rfl,aI,a4⟩;have bl:=a4;have aw:=aI.rd;obtain ⟨X,I⟩:=hqq2 aw a4;clear aI a4 bl aw;go_wp2_with fail;refine (aBk ap X.out nL aN).mono ?_;rintro o f ⟨gk,d,aW,rfl,bo,F,x⟩;have ax:=X.out.below x;have aB:=I.out.trans (x.mono I.out.size);have z:=lhd aW;obtain ⟨bU,F⟩:=F;have aP:=F.bnd;have b4:=lhd aP;clear aP;obtain ⟨b8,b2,J⟩:=hqq3 (F.low I.out.size) (ax.mono x.size) aB;clear aW F ax aB x X I bo;go_wp2_with fail;obtain ⟨k,aO⟩:=eqx (N+1);have br:(N:Int)+1=(k:Int):=oM;rw [br];have Q:=Bk.new f 74 #[gk,.pointer none,(b:Int),.int .i64 0];have a6:Below f.heap.size f (f.alloc (.cells #[gk,.pointer none,(b:Int),.int .i64 0] 74)):=bR.alloc nL _;obtain ⟨g,P⟩:=eqx f.heap.size;rw [P] at Q;rw [P];have K:=lhd P;generalize f.alloc (.cells #[gk,.pointer none,(b:Int),.int .i64 0] 74)=w3 at Q a6⊢;obtain ⟨L,Z,H⟩:=hqq3 Q a6 aO;clear Q a6 aO P;refine (aC3 k w3 oM).mono ?_;rintro o W ⟨v,au,rfl,aQ,a5⟩;have R:=L.out.below a5 L.out.lt;have bb:W.cell? ⟨g,1,none⟩=some (.pointer none):=(R.cell 1).trans rfl;have bc:=R.frozen 1;obtain ⟨ak,b6,b3⟩:=hqq3 R aQ a5;clear R aQ a5;go_wp2_with fail;have aF:=(Keep.refl (fun j=>j=g) W).setCell (p:=⟨g,1,none⟩) (.inl rfl) (.pointer (some v));have ab:=ak.out.set 1 (.pointer (some v));have ac:=b6.out.keep aF (fun j t ba e n=>by
  subst e;have:=(aL n ak.out).1;subst this;decide)
 have D:Below f.heap.size f (W.setCell ⟨g,1,none⟩ (.pointer (some v))):=(Z.out.trans (b3.out.mono Z.out.size)).setCell (by rw [K.out];exact zAs _) _;have bL:=K.out;have b1:=lhd (show f.heap.size < w3.heap.size by have:=L.out.lt;omega);have bI:f.heap.size<=w3.heap.size:=Z.out.size;clear bb bc;generalize W.setCell ⟨g,1,none⟩ (.pointer (some v))=w5 at ab ac D⊢;have ad:=nK ap (b2.out.below D) D.size oM;rw [H.out] at ad;obtain ⟨a0,am,Y⟩:=hqq3 ab ac D;clear aF ab ac D;refine ad.mono ?_;clear ad;rintro o bC ⟨bx,aj,aq,aX,rfl,aM,O⟩;obtain rfl:d=bx:=z.out.unique aX;have aH:d.length=k:=by rw [z.out.len,aK,M,H.out]
 have a:LvInv f w3.heap.size w5.heap.size g gk v au k b aj aq d 0 (.slice none 0 0) (.slice none 0 0) (.slice none 0 0) [] bC:=
  ⟨am.out.below O,rfl,fun b9 _ n=>(by cases n),aM.own,a0.out.below O a0.out.lt,Y.out.trans (O.mono Y.out.size)⟩
 obtain ⟨al,i⟩:=hqq2 aH a;clear a aM O aX aH a0 am Y;go_wp2_with fail;go_loopw [8,9,36] (fun _ _ ae wr=>∃c:Nat,c<=k/\ae=.int .i64 c/\∃ag ah ai G,LvInv f w3.heap.size w5.heap.size g gk v au k b aj aq d c ag ah ai G wr/\∀j∈G,j=true) (fun _ _ ae _=>k -(intOf ae).toNat)
 case atStart=>exact ⟨0,by omega,rfl,_,_,_,_,i.out,fun j n=>by cases n⟩
 case round=>
  clear i;obtain ⟨c,bM,rfl,ag,ah,ai,G,a,aY⟩:=hrel;have a1:=lhd aY;clear aY;by_cases T:c < k
  · have aa:c < d.length:=(by rw [al.out];exact T);obtain ⟨m,q⟩:∃m,d[c]?=some m:=⟨_,zAa aa⟩;have bt:m < k:=(by have:=z.out.lt (zAd q);rw [aK,M,H.out] at this;exact this);have a7:d.getD c 0=m:=(by rw [zAb,q];rfl);have aU:=Rd.of_own a.row;obtain ⟨j,bT,bV,bf,aD,V,bm⟩:=aU.get T;rw [zAf,q] at V;injection V with V;subst V bf;unfold sv at bm;have bG:=a.blk.cell 1;have bq:((m:Int)).tmod (b:Int)=((m % b:Nat):Int):=(by rw [Int.tmod_eq_emod_of_nonneg oM];simp);have bp:((m:Int))%(b:Int)=((m % b:Nat):Int):=(by simp);obtain ⟨aZ,U⟩:=eqx (m % b);rw [U] at bq bp;have s:=aDF d b c;rw [a7,U] at s;obtain ⟨bE,b5,bF,i,b7⟩:=hqq5 a7 q U a aD;clear a7 q U a aU aa aD;by_cases aR:aZ=0
    · subst aR;rw [zBx rfl] at s;have y:=lhd s;clear s;go_wp2_with fail;have ay:=aC5 i.out.perm (aB9 (qL d b c)) (fun u a8=>(nT (aCa (by simpa using a8))).1) (fun u a8 o=>by
       have av:=nT (aCa (C:=cJ d b c) (by simpa using a8));have bd:aJ (cJ d b c) u=d.getD (aC (cJ d b c) u) 0:=av.2;have bH:aC (cJ d b c) u < c:=av.1;have aa:c < d.length:=(by rw [al.out];exact T);have be:d[aC (cJ d b c) u]?=d[c]?:=(by rw [b5.out,<-o,bd,zAb,zAa (show aC (cJ d b c) u < d.length by omega)];rfl);have:=(List.getElem?_inj (show aC (cJ d b c) u < d.length by omega) z.out.nodup).1 be
       omega) T bt i.out.len (by
        have:(cJ d b c).length<=c:=(by unfold cJ;rw [zBc];exact zAk (zCv _ _) (by simp));omega) (by
        have:(cJ d b c).length<=c:=(by unfold cJ;rw [zBc];exact zAk (zCv _ _) (by simp));simp;omega) (by have:=i.out.perm.blk.lt;have:=i.out.perm.lo.1;omega)
      refine ay.mono ?_;clear ay;rintro o bW ⟨rfl,a9,bz,bA,bB,bs,bn,bJ,bK⟩;go_wp2_with fail;go_roundw
      case rel=>
       have a:=i.out;refine ⟨c+1,by omega,by go_num,bz,bA,bB,G++ [true],⟨?_,?_,?_,?_,?_,?_⟩,fun j n=>by rcases zCp.1 n with a2 | a2;exact a1.out j a2;exact List.mem_singleton.1 a2⟩;rw [y.out];simpa [List.range_succ] using bs
       · rw [y.out];simp [a.len]
       exact a.apt.next2 bn (fun b9 a3=>by injection a3 with a3;subst a3;exact b7.out);refine aA a.row fun an ba az E=>a9.bk E (fun e=>?_);rcases e with e | e | e | e | e;subst e;exact Bk.ne E a.perm.blk dC rfl;subst e;exact Bk.ne E a.perm.ar dC rfl;exact aS a.perm.lrow E dC e.symm;have x:j=an:=(by simpa [Value.ownBlock] using az);subst x;exact a.apt _ rfl e;exact aS a.perm.trow E dC e.symm;refine a9.bk a.blk (fun e=>?_);have:=a.perm.foot e;have:=L.out.lt;omega;exact a.below.trans (a9.to_below a.below.size (fun an az e=>by have:=a.perm.foot e;omega))
      case measure=>simp [intOf];omega
    · rw [zBw aR] at s;have y:=lhd s;have bO:((aZ:Int)==0)=false:=(by simp;omega);clear s;go_wp2_with fail;go_roundw
      case rel=>have a:=i.out;exact ⟨c+1,by omega,by go_num,ag,ah,ai,G,⟨by rw [y.out];exact a.perm,by rw [y.out];exact a.len,a.apt,a.row,a.blk,a.below⟩,a1.out⟩
      case measure=>simp [intOf];omega
  · obtain rfl:k=c:=oM;have i:=lhd a;clear a;go_wp2_with fail;go_ret2;have a:=i.out;have q:=a.perm;have aG:=a.len;rw [<-H.out] at q aG;obtain ⟨bw,bh⟩:=aF6 (w:=w) (w2s:=f.heap.size) bj z.out bu aN (b8.out.vis (Vis.of_below a.below)) (fun j n=>(b4.out j n).2) K.out.symm b1.out a.blk q aG a1.out J.out.size;exact ⟨g,bw,rfl,by have:=J.out.size;have:=K.out;omega,bh,J.out.trans (a.below.mono J.out.size)⟩
def TabW.keepLF {c d:World} {a:Nat} {own i:Nat->Nat} (b:TabW c) (g:LF a c d own i) (k:7 < a):TabW d:=
 b.below (B:=7+1) (g.keep.to_below (by have:=b.pos;omega) fun e l f=>by have j:a<=e:=f;omega) oM
def aIs {b:List Nat} {d c a e:Nat} (l:b[c]?=some e) (m:b[d]?=some a) (n:d≠c):b.Perm (e::aG (b.set c a) d):=by
 have g:=vK (s:=a) l;have i:(b.set c a)[d]?=some a:=by rw [List.getElem?_set_ne (fun f=>n f.symm),m]
 have j:=eE i;have k:(a::b).Perm (e::a::aG (b.set c a) d):=g.symm.trans (j.symm.cons e);exact (k.trans (List.Perm.swap a e _)).cons_inv
def vW {a b:Nat} (c:b≠a):aU b a=ush a b:=by
 unfold aU ush;split <;> split <;> omega
def aKR (d N at_:Nat) (b:Nat->Prop):Nat->Prop:=aAa d N at_ (fun c=>∃a,b a/\a≠at_/\c=ush at_ a)
def aDd {w:World} {B:Nat} {own:Nat->Nat} {gl:Nat} {t:List UInt8} {rate:Nat} {bt:Nat->Prop} (at_:Nat) (d7:LiveE w B own gl t rate bt) (bL:TabW w) (bx:7 < B) (de:t.length<=127) (v:at_ < t.length) (cm:1<=rate) (dg:rate<=64):
 Calls prog 84 #[gl,(at_:Int)] w (aBG w B own gl (aG t at_) rate (aKR rate (t.length - 1) at_ bt)):=by
 obtain ⟨gk,O,dH,bv,f,x,o,b0,⟨rfl,aP⟩,_⟩:=d7;obtain ⟨N,a4⟩:∃N,t.length=N+1:=⟨t.length - 1,by omega⟩;have bG:=a4;rw [a4] at o aP de v⊢;rw [zBb];have v:at_<=N:=oM;obtain ⟨a3,bN,dh⟩:=o.len a4;have C:=eK t;rw [a4] at C;obtain ⟨S,A⟩:=eqx (aF t);have bK:aF (aG t at_)=aG S at_:=by rw [aHc t oM,A]
 have aM:=C.len;have aL:∀a∈S,a < 257:=by rw [<-A];exact dM t
 rw [A] at C a3 aM;have D:=o.suf;rw [A] at D;have U:∀d,d<=N+1->d∈f:=fun d dE=>D.mem oM;have aV:f.Nodup:=D.nodup;have ax:f.Perm (List.range (N+1+1)):=by have:=D.perm;rwa [aM] at this
 have aw:=aH1 D C (at_:=at_) v;obtain ⟨cq,V⟩:=aHw ax (at_:=at_) v;have z:=aGa ax C (at_:=at_) v;have a8:ro f at_≠ro f (at_+1):=fun b=>by have:=eH (U at_ oM) (U (at_+1) oM) b;omega
 have bV:=nJ D C (show 0 < at_+1 by omega) (show at_+1<=N+1 by omega);rw [zBb] at bV;obtain ⟨T,H⟩:=bV;obtain ⟨c,a7⟩:=eqx (ro f at_);obtain ⟨F,aq⟩:=eqx (ro f (at_+1));have a9:f[c]?=some at_:=by rw [<-a7];exact bT (U at_ oM)
 have cn:f[F]?=some (at_+1):=by rw [<-aq];exact bT (U (at_+1) oM)
 have c9:c < N+2:=by have:=(zAc.1 a9).1;omega
 have bU:F < N+2:=by have:=(zAc.1 cn).1;omega
 obtain ⟨M,bJ⟩:=eqx ((aG f (ro f at_)).map (ush at_));rw [bJ] at aw cq V z;rw [a7] at V z a8 T;rw [aq] at z a8 T H;obtain ⟨a0,y⟩:=eqx (aD S f);rw [y] at z a3 T H;obtain ⟨K,b3⟩:=eqx (bE S at_);rw [b3] at z;obtain ⟨ao,bW⟩:=eqx (S.getD at_ 0);rw [bW] at T H;have a2:a0[c]?=some K:=by rw [<-y,<-b3];unfold aD;rw [zAf,a9];rfl
 have R:∀a∈a0,a < 257:=by rw [<-y];exact cL aL
 have di:K < 257:=R K (zAd a2);have dc:ao < 257:=R ao (zAd H);have I:=o.live;rw [A,y] at I;have W:=o.tal;rw [A,y] at W;have ct:∀a∈a0.set F K,a < 257:=fun a e=>by rcases List.mem_or_eq_of_mem_set e with m | m;exact R a m;omega
 have cu:(a0.set F K)[c]?=some K:=by rw [List.getElem?_set_ne (fun b=>a8 b.symm),a2]
 have cv:bv.Perm (ao::aD (aG S at_) M):=by rw [z];exact W.trans (aIs H a2 a8)
 have au:∀a∈x,(a.1≠c↔a.2≠at_):=fun a e=>by have m:=o.right a e;constructor;intro P b;rw [b] at m;have:=fF aV m;exact P (by rw [<-this,a7]);intro P b;rw [b,a9] at m;injection m with m;exact P m.symm
 have co:=o.rinj;have cl:∀a∈x,a.1≠c->M[aU a.1 c]?=some (aU a.2 at_):=fun a e df=>by
  have m:=o.right a e;have P:=(au a e).1 df;have Q:a.2<=N+1:=by have:=ax.mem_iff.1 (zAd m);rw [zCj] at this;omega
  have bw:ush at_ a.2<=N:=by unfold ush;split <;> omega
  have ap:=V (ush at_ a.2) bw;rw [aDC P,fF aV m] at ap;rw [vW P,<-ap];exact bT (aw.mem.2 bw)
 have cj:∀i,Smp x i->i<=N+1:=fun i ⟨a,e,b⟩=>by have:=(I.perm.2.2 a e).2;omega
 have ch:=fun (S':Nat->Prop) (d9:∀d,S' d↔∃i,Smp x i/\i≠at_/\d=ush at_ i)=>aDN aP b0 cj cm v d9;have bX:=I.bnd;obtain ⟨E,G⟩:∃E:Int,(if at_=0 then -1 else ((ro f (at_ - 1):Nat):Int))=E:=⟨_,rfl⟩;have bQ:∀X,LiveM X B own gl gk O rate 0 (N+1+1) (N+1+1) a0 bv x->Calls prog 138 #[gl,(at_:Int),(c:Int)] X fun b az=>b=.returned (.int .i64 E)/\VB B X az:=fun X ap=>by by_cases n:at_=0;rw [zBx n] at G;subst n G;refine (nO c X gl).mono ?_;rintro b az ⟨rfl,rfl⟩;exact ⟨rfl,VisK.refl _ _⟩;rw [zBw n] at G;obtain ⟨b1,b2⟩:=nJ D C (show 0 < at_ by omega) oM;rw [y,a7] at b1 b2;have:=pZ at_ ap oM b2 R oM oM;rw [kZ W,b1,G] at this;exact this
 have bO:aAU E (c:Int)=aOf M at_:=by
  rw [<-G];unfold aOf;by_cases n:at_=0
  · rw [zBx n,zBx n,aCj]
  · rw [zBw n,zBw n,kX];have Q:=V (at_ - 1) oM;rw [show sh at_ (at_ - 1)=at_ - 1 by unfold sh;rw [zBx oM]] at Q;rw [Q]
 have c0:ro M at_=aU F c:=by have Q:=V at_ v;rw [show sh at_ at_=at_+1 by unfold sh;rw [zBw oM],aq] at Q;exact Q
 have da:-1000000<=E/\E<=1000000:=by rw [<-G];by_cases n:at_=0;rw [zBx n];omega;rw [zBw n];have dG:ro f (at_ - 1) < f.length:=List.idxOf_lt_length_iff.2 (U (at_ - 1) oM);omega
 have cf:at_≠0->∃a∈x,a.1≠c:=fun d8=>by obtain ⟨a,e,b⟩:=b0;exact ⟨a,e,(au a e).2 oM⟩
 have aS:=bM (I.g W).lvw a3 oM;have d6:IntKind.i64.wrap (((N+1:Nat):Int) - 1)=(N:Int):=by rw [IntKind.wrap_i64];omega
 obtain ⟨cZ,d3,be,bo,bs,ae,cH,cI,s⟩:=hqq9 o.right o.suf I.blk I W bG A bK a3;obtain ⟨cN,ad,cG,aA,cP,cY,d1,d2,cF⟩:=hqq9 bN R a2 H T a9 ct cu z;obtain ⟨d4,cW,aE,cX,cV,cU,cO,cQ,bd⟩:=hqq9 cv cl au co ch aw bO c0 bQ;obtain ⟨cT,cJ,cE,dy,cK⟩:=hqq5 cf aL y bX bL;have db:(at_:Int)<=(N:Int):=oM;obtain ⟨dz,aK⟩:=eqx (N+1);rw [aK] at aS d6;have dx:=lhd aK;unfold aBG;clear o I W a4 bG A bK a3 bN R a2 a9 ct cu z cv cl ch aw bO bQ aL aP b0 D U C ax aV bJ b3 dh aM cj a7 G y bX bL au co c0 cf T H aq cn bW cq V a8 aK;go_enter func84,ntmps84;go_wp2_with fail;refine aS.mono ?_;clear aS;rintro b w1 ⟨rfl,rfl⟩;go_wp2_with fail;refine (aBM be.out oM db).mono ?_;rintro b w1 ⟨rfl,rfl⟩;obtain ⟨ca,c1⟩:=bo.out.setMv 0;obtain ⟨ag,aB⟩:=hqq2 ca c1;clear ca c1 be bo;generalize w.setCell ⟨gl,3,none⟩ (.int .i64 0)=w1 at ag aB⊢;have cr:Calls prog 87 #[gl,(at_:Int)] w1 fun b az=>b=.returned (.int .i64 (c:Int))/\VB B w1 az:=by have dd:=ag.out.g bs.out;exact fE B gl gk O rate w1 (by rw [ae.out,cH.out];rw [cE.out];exact dd) cZ.out d3.out (by rw [ae.out];omega) cY.out
 go_wp2_with fail;refine cr.mono ?_;clear cr;rintro b dN ⟨rfl,b5⟩;have ah:=lhd (ag.out.vis b5.1);have aC:=lhd (aB.out.trans (LF.of_vb (own:=own) b5));clear b5 ag aB;have p:=ah.out.blk.cell 0;have cg:=pU (ah.out.walk.at bs.out) aA.out cP.out ad.out (by rw [s.out];omega) (cK.out.keepLF aC.out bx) bx;go_wp2_with fail;refine cg.mono ?_;clear cg;rintro b du ⟨rfl,b6⟩;have aH:=lhd (ah.out.vis b6.1);have bf:=lhd (aC.out.trans (LF.of_vb (own:=own) b6));clear b6 p ah aC;have bP:=bd.out du aH.out;clear bd;go_wp2_with fail;refine bP.mono ?_;clear bP;rintro b X ⟨rfl,b7⟩;have ai:=lhd (aH.out.vis b7.1);have bg:=lhd (bf.out.trans (LF.of_vb (own:=own) b7));clear b7 aH bf;obtain ⟨dC,dA,a6,aa⟩:=ai.out.gw;have p:=ai.out.blk.cell 0;have J:=a6.cell 0;have a5:=dR F ao aa (by rw [s.out];exact bU) (by have a1:=aA.out;rw [zAa (by rw [s.out];exact bU)] at a1;injection a1) ad.out (by rw [s.out];omega);clear a6 aa;go_wp2_with fail;refine a5.mono ?_;clear a5;rintro b dO ⟨rfl,b8⟩;have aj:=lhd (ai.out.vis b8.1);have af:=lhd (bg.out.trans (LF.of_vb (own:=own) b8));clear b8 p J ai bg;obtain ⟨dD,dB,a6,aa⟩:=aj.out.gw;have p:=aj.out.blk.cell 0;have J:=a6.cell 0;have a5:=dR c K aa (by rw [s.out];exact c9) (by have a1:=cG.out;rw [zAa (by rw [s.out];exact c9)] at a1;injection a1) ad.out (by rw [s.out];omega);clear a6 aa;go_wp2_with fail;refine a5.mono ?_;clear a5;rintro b dP ⟨rfl,b9⟩;have ak:=lhd (aj.out.vis b9.1);have bh:=lhd (af.out.trans (LF.of_vb (own:=own) b9));clear b9 p J aj af;have p:=ak.out.blk.cell 0;have bY:=jH ak.out.walk aA.out di ad.out (by rw [s.out];omega);go_wp2_with fail;refine bY.mono ?_;clear bY;rintro b dQ ⟨rfl,dJ,bz,bC⟩;obtain ⟨cb,c3⟩:=ak.out.walkOp bz bC;obtain ⟨al,bi⟩:=hqq2 cb (bh.out.trans c3);clear cb c3 bz bC p ak bh;have p:=al.out.blk.cell 0;have hcut:=fX al.out.walk d2.out d1.out (by rw [zAt,s.out];omega);go_wp2_with fail;refine hcut.mono ?_;clear hcut;rintro b dS ⟨rfl,dp,bA,bD⟩;obtain ⟨cc,c4⟩:=al.out.walkOp bA bD;obtain ⟨am,bj⟩:=hqq2 cc (bi.out.trans c4);clear cc c4 bA bD p al bi;have p:=am.out.blk.cell 0;have bZ:=lI am.out.walk d4.out dc (by rw [cN.out];omega);go_wp2_with fail;refine bZ.mono ?_;clear bZ;rintro b cA ⟨rfl,bB,bF⟩;obtain ⟨cd,c5⟩:=am.out.walkOp bB bF;obtain ⟨Y,bk⟩:=hqq2 cd (bj.out.trans c5);clear cd c5 bB bF p am bj;have J:cA.cell? ⟨gl,1,none⟩=some (.pointer (some O)):=(Y.out.blk.cell 1).trans rfl;have bR:=Y.out.bnd;have cp:=xU c Y.out.perm (fun aJ b=>(bR aJ oM).2) oM oM oM;clear bR;go_wp2_with fail;refine cp.mono ?_;clear cp;rintro b bb ⟨rfl,⟨dL,ce,bH⟩,c7⟩;obtain ⟨aQ,aN⟩:=Y.out.permOp bH c7;obtain ⟨dq,aY⟩:=eqx (dI dp cA.heap.size bb.heap.size 1);rw [aY,zBb] at aQ;rw [aY] at aN;obtain ⟨Z,bl,an⟩:=hqq3 aQ (bk.out.trans aN) ce;clear aQ aN bH c7 J Y bk aY ce;have J:bb.cell? ⟨gl,1,none⟩=some (.pointer (some O)):=(Z.out.blk.cell 1).trans rfl;have bS:=Z.out.bnd;have ck:=xV at_ Z.out.perm (fun aJ b=>(bS aJ oM).2) oM oM oM (fun a e cC dn b=>by
  obtain ⟨cB,dj,rfl⟩:=zAy.1 e;obtain ⟨cD,dl,rfl⟩:=zAy.1 dn;rw [cX.out cB ((an.out cB).1 dj).1 cD ((an.out cD).1 dl).1 b])
 clear bS;go_wp2_with fail;refine ck.mono ?_;clear ck;rintro b bc ⟨rfl,⟨cz,aT,bI⟩,c8⟩;obtain ⟨aR,aO⟩:=Z.out.permOp bI c8;obtain ⟨dK,aZ⟩:=eqx (dI dq bb.heap.size bc.heap.size 1);rw [aZ,zBb] at aR;rw [aZ] at aO;have av:∀L,L∈cz.map (fun a=>(a.1,aU a.2 at_))↔∃a∈x,a.1≠c/\L=(aU a.1 c,aU a.2 at_):=fun L=>by
  constructor;intro ac;obtain ⟨cC,dk,rfl⟩:=zAy.1 ac;obtain ⟨dm,dF⟩:=(aT cC).1 dk;obtain ⟨a,e,rfl⟩:=zAy.1 dm;obtain ⟨j,q⟩:=(an.out a).1 e;exact ⟨a,j,q,rfl⟩
  · rintro ⟨a,j,q,rfl⟩;refine zAy.2 ⟨(aU a.1 c,a.2),(aT _).2 ⟨zAy.2 ⟨a,(an.out a).2 ⟨j,q⟩,rfl⟩,(aE.out a j).1 q⟩,rfl⟩
 have ci:∀d,Smp (cz.map (fun a=>(a.1,aU a.2 at_))) d↔∃i,Smp x i/\i≠at_/\d=ush at_ i:=fun d=>by constructor;rintro ⟨L,ac,rfl⟩;obtain ⟨a,j,q,rfl⟩:=(av L).1 ac;have ab:=(aE.out a j).1 q;exact ⟨a.2,⟨a,j,rfl⟩,ab,vW ab⟩;rintro ⟨_,⟨a,j,rfl⟩,ab,rfl⟩;exact ⟨_,(av _).2 ⟨a,j,(aE.out a j).2 ab,rfl⟩,vW ab⟩
 obtain ⟨cS,cR,bp,br⟩:=hqq4 aR (bl.out.trans aO) av ci;clear aR aO bI c8 J Z bl aZ av ci aT;have aW:=lJ (F:Int) (c:Int) bc oM;rw [kX] at aW;have aX:=lJ E (c:Int) bc da;rw [cO.out] at aX;go_wp2_with fail;refine aW.mono ?_;clear aW;rintro b dv ⟨rfl,rfl⟩;go_wp2_with fail;refine aX.mono ?_;clear aX;rintro b dv ⟨rfl,rfl⟩;have ay:=nN ⟨cU.out,by have:=cS.out;rw [<-cF.out] at this;exact this,List.Perm.refl _,fun L ac=>by
  obtain ⟨a,j,q,rfl⟩:=(bp.out L).1 ac;exact cW.out a j q,fun d=>Iff.rfl,fun d8 b=>by
  obtain ⟨a,j,q⟩:=cT.out oM;have:=(bp.out _).2 ⟨a,j,q,rfl⟩;rw [b] at this;exact absurd this List.not_mem_nil,cR.out,⟨Int.le_refl 0,by omega⟩⟩ v oM (oI cJ.out)
 rw [cQ.out] at ay;unfold rX at ay;go_wp2_with fail;refine ay.mono ?_;clear ay;rintro b dw ⟨rfl,dr,cy,bu,ba,u⟩;have b4:(aG t at_).length=N:=by have:=cM (l:=t) (k:=at_) (by rw [ae.out];omega);have:=ae.out;omega
 have cw:TxM dw B dr gl gk O rate cy (aF (aG t at_)) (aD (aG S at_) M) N bu ba:=by rw [cI.out];exact ⟨u.near.sorted,u.live,u.tal,u.right⟩
 have ar:=aDg cw b4 oM v cm dg (cV.out (Smp ba) fun d=>(u.plc d).trans (br.out d));rw [show Smp ba=fun d=>∃i,Smp x i/\i≠at_/\d=ush at_ i from funext fun d=>propext ((u.plc d).trans (br.out d))] at ar;unfold sL at ar;obtain ⟨bn,bq,aI⟩:=hqq3 u.lf u.mvb b4;clear cw b4 u;go_wp2_with fail;refine ar.mono ?_;clear ar;rintro b dT ⟨rfl,ds,dt,cx,cs,c6,c2⟩;obtain ⟨d5,d0,bm,af⟩:=hqq4 cx cs c6 (bn.out.trans c2);clear cx cs c6 c2 bn;go_wp2_with fail;go_ret;exact ⟨rfl,ds,⟨gk,O,cy,aD (aG S at_) M,bu,dt,by rw [aI.out];exact d5.out,d0.out,⟨bm.out.1,by rw [aI.out];exact bm.out.2⟩,bq.out.1,by rw [aI.out];have:=bq.out.2;omega⟩,af.out⟩
end
end Go.Proofs.YtcoooelofcejbaaGreatDoor
