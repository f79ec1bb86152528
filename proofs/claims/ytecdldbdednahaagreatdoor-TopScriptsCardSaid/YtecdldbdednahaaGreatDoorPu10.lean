/- Lemmas of the walk. Conditions: each its own. -/
import Derived.Test.YtecdldbdednahaaGreatDoorPu9
import Derived.Test.YtecdldbdednahaaGreatDoorProg
import Derived.Test.YtecdldbdednahaaGreatDoorShl
import Derived.Test.YtecdldbdednahaaGreatDoorShi
import Derived.Test.YtecdldbdednahaaGreatDoorSht
set_option linter.all false
set_option maxRecDepth 100000
set_option maxHeartbeats 8000000
open Go.Proofs.Tryz
namespace Go.Proofs.YtecdldbdednahaaGreatDoor
section
def aHW (t) {a} (b) (c:a<=t.length):aJ (aV t a b)=aV (aJ t) a (b.toNat+1):=by
 unfold aJ dI aV;rw [zAz,List.map_cons,List.map_take,List.map_drop,List.take_append_of_le_length (by simpa using c),List.drop_append_of_le_length (by simpa using c)];simp
def aHX (t) {a} (b:a < t.length):aJ (aF t a)=aF (aJ t) a:=by
 unfold aJ dI aF;rw [zAz,List.map_take,List.map_drop,List.take_append_of_le_length (by simp;omega),List.drop_append_of_le_length (by simp;omega)];simp
def aHV (t) {a} (b) (c:a < t.length):aJ (t.set a b)=(aJ t).set a (b.toNat+1):=by
 unfold aJ dI;rw [List.map_set];exact (List.set_append_left _ _ (by simpa using c)).symm
def wV {a} {b s c:Nat} (f:a[b]?=some c):(c::a.set b s).Perm (s::a):=by
 obtain ⟨d,e⟩:=zAc.1 f;have g:a.set b s=a.take b++s::a.drop (b+1):=List.set_eq_take_append_cons_drop .. |>.trans (by rw [zBx d]);have i:a=a.take b++c::a.drop (b+1):=by
  conv=>lhs;rw [<-zAu b a]
  rw [zAx d,e]
 rw [g]
 conv=>rhs;rw [i]
 refine ((List.perm_middle).cons c).trans ?_;refine (List.Perm.swap s c _).trans ?_;exact ((List.perm_middle).symm.cons s)
section
variable {S S' : Nat -> Prop} {r N at_ : Nat}
def aEr (p:qD S r N) (v:S 0) (y:∀a,S a->a<=N) (A:1<=r) (z:at_<=N) (o:∀c,S' c↔∃a,S a/\c=sh at_ a):PreGap S' r (N+1) at_:=by
 have k:∀a,S a->S' (sh at_ a):=fun a d=>(o _).2 ⟨a,d,rfl⟩;have x:S' 0∨(at_=0/\S' 1):=by by_cases e:at_=0;right;have:=k 0 v;unfold sh at this;rw [zBw oM] at this;exact ⟨e,this⟩;left;have:=k 0 v;unfold sh at this;rw [zBx oM] at this;exact this
 refine ⟨fun c m=>?_,fun c m s g=>?_,fun c m g=>?_⟩
 · obtain ⟨a,d,rfl⟩:=(o c).1 m;have:=y a d;unfold sh;split <;> omega
 by_cases i:S' c;obtain ⟨a,d,rfl⟩:=(o c).1 i;unfold sh at s g⊢;by_cases e:a < at_;rw [zBx e] at s g⊢;obtain ⟨b,j,l,n⟩:=p a d oM;have:=k b j;unfold sh at this;rw [zBx oM] at this;exact ⟨b,this,l,n⟩;rw [zBw e] at s g⊢;obtain ⟨b,j,l,n⟩:=p a d oM;have:=k b j;unfold sh at this;rw [zBw oM] at this;exact ⟨b+1,this,by omega,by omega⟩;have q:c=0:=m.resolve_left i;subst q;rcases x with f |⟨_,f⟩;exact absurd f i;exact ⟨1,f,by omega,by omega⟩;by_cases i:S' c;obtain ⟨a,d,rfl⟩:=(o c).1 i;unfold sh at g⊢;by_cases e:a < at_;rw [zBx e] at g⊢;obtain ⟨b,j,l,n⟩:=p a d oM;have:=k b j;unfold sh at this;by_cases u:b < at_;rw [zBx u] at this;exact ⟨b,this,l,by omega⟩;rw [zBw u] at this;exact ⟨b+1,this,by omega,by omega⟩;rw [zBw e] at g⊢;obtain ⟨b,j,l,n⟩:=p a d oM;have:=k b j;unfold sh at this;rw [zBw oM] at this;exact ⟨b+1,this,by omega,by omega⟩;have q:c=0:=m.resolve_left i;subst q;rcases x with f |⟨_,f⟩;exact absurd f i;exact ⟨1,f,by omega,by omega⟩
def aEs (m:qD S r (N+1)) (y:S 0) (F:∀a,S a->a<=N+1) (K:1<=r) (J:at_<=N) (q:∀d,S' d↔∃a,S a/\a≠at_/\d=ush at_ a):PreGap S' r N at_:=by
 have D:∀a,S a->a≠at_->S' (ush at_ a):=fun a c s=>(q _).2 ⟨a,c,s,rfl⟩;have x:∀a,S a->a < at_->S' a:=fun a c z=>by have:=D a c oM;unfold ush at this;rwa [zBx z] at this
 have o:∀a,S a->at_ < a->S' (a - 1):=fun a c z=>by have:=D a c oM;unfold ush at this;rwa [zBw oM] at this
 have C:¬S' 0->1<=N+1 - 0->0+r<=N+1->∃b,S' b/\0 < b/\b+1<=r:=fun A _ j=>by
  have I:at_=0:=by by_cases g:at_=0;exact g;exact absurd (x 0 y oM) A
  obtain ⟨b,e,f,i⟩:=m 0 y j;have l:=o b e oM;by_cases g:b=1;subst g;exact absurd l A;exact ⟨b - 1,l,by omega,by omega⟩
 refine ⟨fun d p=>?_,fun d p v j=>?_,fun d p j=>?_⟩
 · obtain ⟨a,c,s,rfl⟩:=(q d).1 p;have:=F a c;unfold ush;split <;> omega
 by_cases k:S' d;obtain ⟨a,c,s,rfl⟩:=(q d).1 k;unfold ush at v j⊢;by_cases g:a < at_;rw [zBx g] at v j⊢;obtain ⟨b,e,f,i⟩:=m a c oM;exact ⟨b,x b e oM,f,i⟩;rw [zBw g] at v j⊢;obtain ⟨b,e,f,i⟩:=m a c oM;exact ⟨b - 1,o b e oM,by omega,by omega⟩;have u:d=0:=p.resolve_left k;subst u;obtain ⟨b,f,i,l⟩:=C k oM oM;exact ⟨b,f,i,by omega⟩;by_cases k:S' d;obtain ⟨a,c,s,rfl⟩:=(q d).1 k;unfold ush at j⊢;by_cases g:a < at_;rw [zBx g] at j⊢;obtain ⟨b,e,f,i⟩:=m a c oM;rcases Nat.lt_trichotomy b at_ with n | n | n;exact ⟨b,x b e n,f,by omega⟩;subst n;obtain ⟨E,G,l,H⟩:=m b e oM;exact ⟨E - 1,o E G l,by omega,by omega⟩;exact ⟨b - 1,o b e n,by omega,by omega⟩;rw [zBw g] at j⊢;obtain ⟨b,e,f,i⟩:=m a c oM;exact ⟨b - 1,o b e oM,by omega,by omega⟩;have u:d=0:=p.resolve_left k;subst u;obtain ⟨b,f,i,l⟩:=C k oM oM;exact ⟨b,f,i,by omega⟩
end
end
section
open Go.RowKit Go.Shelf
def LiveE (w:World) (B:Nat) (own:Nat->Nat) (gl:Nat) (t:List UInt8) (rate:Nat):Prop:=
 ∃gk c d b e a,TxM w B own gl gk c rate d (aJ t) b t.length e a/\Smp a 0/\qD (Smp a) rate t.length
def LiveE.vis {w w' B own gl t rate} (c:LiveE w B own gl t rate) (f:Vis w w'):LiveE w' B own gl t rate:=by
 obtain ⟨gk,b,g,a,j,i,d,e⟩:=c;exact ⟨gk,b,g,a,j,i,d.vis f,e⟩
def LiveE.bnd {w B own gl t rate} (b:LiveE w B own gl t rate):∀a,own a≠0->B<=a/\a < w.heap.size:=by
 obtain ⟨gk,e,g,d,j,i,c,f⟩:=b;exact c.live.bnd
def TxM.len {w B own gl gk f rate i t c N a j} (d:TxM w B own gl gk f rate i (aJ t) c N a j) (g:t.length=N):(aH (aJ t) a).length=N+1/\c.length=N+1/\a.length=N+1:=by
 have b:=d.suf.len;rw [aR,g] at b;have e:(aH (aJ t) a).length=N+1:=by rw [bW,b]
 exact ⟨e,by rw [d.tal.length_eq,e],b⟩
def TxM.rinj {w B own gl gk k rate m S i N n d} (a:TxM w B own gl gk k rate m S i N n d):∀b∈d,∀c∈d,b.2=c.2->b=c:=fun b f c g j=>by
 have l:=a.right b f;have e:=a.right c g;rw [<-j] at e;exact a.live.perm.inj f g (vX a.suf l e)
def oE {S a N at_} (b:IsSuf S a) (c:EndOk S N) (k:0 < at_) (m:at_<=N):cL (aH S a) (S.getD (at_ - 1) 0) (ro a at_)=ro a (at_ - 1)/\(aH S a)[ro a at_]?=some (S.getD (at_ - 1) 0):=by
 have n:=b.len;have l:=c.len;have i:at_∈a:=b.mem oM;have j:at_ - 1∈a:=b.mem oM;have d:ro a at_ < a.length:=List.idxOf_lt_length_iff.2 i;have g:ro a (at_ - 1) < a.length:=List.idxOf_lt_length_iff.2 j;have e:a[ro a at_]=at_ - 1+1:=by rw [List.getElem_idxOf];omega
 have f:a[ro a (at_ - 1)]=at_ - 1:=List.getElem_idxOf _;refine ⟨lf b c d g e f,?_⟩;have:=sA c d e oM;rw [zAa (by rw [bW];exact d),this]
def aB2 (w:World) (B:Nat) (own:Nat->Nat) (gl:Nat) (t:List UInt8) (rate:Nat) (a:Ending) (w':World):Prop:=a=.returned (.int .i64 0)/\∃own',LiveE w' B own' gl t rate/\LF B w w' own own'
def aDM (w B own gl t rate at_ e) (cK:LiveE w B own gl t rate) (cR:t.length<=126) (E:at_<=t.length) (c1:1<=rate) (cT:rate<=64):
 Calls prog 56 #[gl,(at_:Int),.int .u8 (e.toNat:Int)] w (aB2 w B own gl (aV t at_ e) rate):=by
 obtain ⟨gk,o,cV,n,i,q,p,aD,av⟩:=cK;obtain ⟨N,T⟩:=eqx t.length;have bn:=T;rw [T] at p av cR E;obtain ⟨R,bs,aB⟩:=p.len T;have F:=eP t;rw [T] at F;obtain ⟨a,aC⟩:=eqx (e.toNat+1);have aE:a < 257:=by have:=e.toNat_lt;omega
 have cU:0 < a:=oM;obtain ⟨S,v⟩:=eqx (aJ t);have br:aJ (aV t at_ e)=aV S at_ a:=by rw [aHW t e oM,v,aC]
 have ap:=F.len;have ao:∀b∈S,b < 257:=by rw [<-v];exact fB t
 rw [v] at F R ap;obtain ⟨d,a9⟩:=eqx (ro i at_);have G:=p.suf;rw [v] at G;have aa:∀f,f<=N->f∈i:=fun f d4=>G.mem oM;have ad:i[d]?=some at_:=by rw [<-a9];exact cE (aa at_ E)
 have bJ:d < N+1:=by rw [<-aB];exact (zAc.1 ad).1
 obtain ⟨K,V⟩:=aIK G F (s:=a) E cU;have ab:i.Nodup:=G.nodup;have aA:i.Perm (List.range (N+1)):=by have:=G.perm;rwa [ap] at this
 obtain ⟨row,W⟩:=eqx (cL (aH S i) a (ro i at_));rw [W] at K V;have C:=aGH ab aA F (s:=a) (row:=row) E K;obtain ⟨aS,ae,cf⟩:=aIh ab (at_:=at_) (row:=row) K;obtain ⟨M,bq⟩:=eqx (aV (i.map (sh at_)) row at_);rw [bq] at V C aS ae cf;rw [a9] at W C;obtain ⟨m,u⟩:=eqx (aH S i);rw [u] at W C R;obtain ⟨L,az⟩:=eqx (bM S at_);rw [az] at C;have a8:m[d]?=some L:=by rw [<-u,<-az];unfold aH;rw [zAf,ad];rfl
 have Q:∀b∈m,b < 257:=by rw [<-u];exact dR ao
 have cS:L < 257:=Q L (zAd a8);rw [aB] at K;have J:=p.live;rw [v,u] at J;have H:=p.tal;rw [v,u] at H;have c6:∀b∈m.set d a,b < 257:=fun b k=>by rcases List.mem_or_eq_of_mem_set k with O | O;exact Q b O;omega
 have c7:(m.set d a)[d]?=some a:=by rw [List.getElem?_set_self oM]
 have bR:rS (m.set d a) n a d=row:=by rw [<-W];unfold rS cL;rw [H.countP_eq,List.take_set_of_le nL]
 have c9:(n++ [a]).Perm (aH (aV S at_ a) M):=by rw [C];refine (List.perm_append_comm).trans ?_;refine ((H.cons a).trans (wV a8).symm).trans ?_;exact (fN _ _ _).symm
 have bY:∀b∈(q.map fun b=>(inR b.1 row,b.2)).map (fun b=>(b.1,inR b.2 at_)),M[b.1]?=some b.2:=fun b k=>by
  rw [zCh] at k;obtain ⟨l,X,rfl⟩:=zAy.1 k;have O:=p.right l X;have bf:=zAd O;have P:=ae l.2 bf;have a7:sh at_ l.2=inR l.2 at_:=by unfold sh inR;split <;> split <;> omega
  rw [gJ ab O] at P;show M[inR l.1 row]?=some (inR l.2 at_);rw [<-P,<-a7];refine cE (V.mem.2 ?_);have:=aA.mem_iff.1 bf;rw [zCj] at this;unfold sh;split <;> omega
 have bW:∀f,Smp ((q.map fun b=>(inR b.1 row,b.2)).map (fun b=>(b.1,inR b.2 at_))) f↔∃a,Smp q a/\f=sh at_ a:=fun f=>by
  have a7:∀aR,sh at_ aR=inR aR at_:=fun aR=>by unfold sh inR;split <;> split <;> omega
  unfold Smp;rw [zCh];constructor;rintro ⟨b,k,rfl⟩;obtain ⟨l,X,rfl⟩:=zAy.1 k;exact ⟨l.2,⟨l,X,rfl⟩,(a7 _).symm⟩;rintro ⟨_,⟨l,X,rfl⟩,rfl⟩;exact ⟨_,zAy.2 ⟨l,X,rfl⟩,(a7 _).symm⟩
 have bX:∀a,Smp q a->a<=N:=fun a ⟨b,k,c⟩=>by have:=(J.perm.2.2 b k).2;omega
 have bU:=fun (S':Nat->Prop) (cN:∀f,S' f↔∃a,Smp q a/\f=sh at_ a)=>aEr av aD bX c1 E cN;have bZ:q≠ []:=fun c=>by obtain ⟨b,k,_⟩:=aD;rw [c] at k;cases k
 obtain ⟨z,D⟩:∃z:Int,(if at_=0 then -1 else ((ro i (at_ - 1):Nat):Int))=z:=⟨_,rfl⟩;have bv:∀x,VB B w x∨True->LiveM x B own gl gk o rate 0 (N+1) (N+1) m n q->Calls prog 92 #[gl,(at_:Int),(d:Int)] x fun c w'=>c=.returned (.int .i64 z)/\VB B x w':=fun x _ cM=>by by_cases j:at_=0;rw [zBx j] at D;subst j D;refine (oH d x gl).mono ?_;rintro c w' ⟨rfl,rfl⟩;exact ⟨rfl,VisK.refl _ _⟩;rw [zBw j] at D;obtain ⟨b1,b2⟩:=oE G F oM E;rw [u,a9] at b1 b2;have:=qY at_ d (S.getD (at_ - 1) 0) cM oM b2 Q oM oM;rw [lX H,b1,D] at this;exact this
 have bt:inI z (row:Int)=aOf M at_:=by
  rw [<-D];unfold aOf;by_cases j:at_=0
  · rw [zBx j,zBx j,aFP]
  · rw [zBw j,zBw j,wJ];have P:=ae (at_ - 1) (aa _ oM);rw [show sh at_ (at_ - 1)=at_ - 1 by unfold sh;rw [zBx oM]] at P;rw [P]
 have cO:-1000000<=z/\z<=1000000:=by rw [<-D];by_cases j:at_=0;rw [zBx j];omega;rw [zBw j];have d5:ro i (at_ - 1) < i.length:=List.idxOf_lt_length_iff.2 (aa (at_ - 1) oM);omega
 obtain ⟨ch,bc,cG,Z,ck,cl,y,aY,aW⟩:=hqq9 p J H bn v br R bs Q;obtain ⟨aX,cy,bd,cC,cr,cj,cH,cv,cu⟩:=hqq9 a8 ad c6 c7 bR C c9 bY bW;obtain ⟨ct,cs,cx,cn,aZ,cw,cA,cm,ci⟩:=hqq9 bU V aS bt bv bZ aC ao u;have cP:(at_:Int)<=(N:Int):=oM;have bQ:=cD B gl m N w (J.g H).lvw R oM;have bx:=J.blk;have c4:=p.right;have c8:=p.suf;obtain ⟨cz,cF,b0⟩:=hqq3 c4 c8 bx;clear c4 c8 bx;unfold aB2;clear p J H T bn v br R bs Q a8 ad c6 c7 bR C c9 bY bW bU V aS ae cf bt bv bZ aC ao av aD G aa F aA ab W bq az aB ap bX a9 D u;go_enter func56,ntmps56;go_wp2_with fail;refine bQ.mono ?_;clear bQ;rintro c w1 ⟨rfl,rfl⟩;go_wp2_with fail;refine (aCb gl _ _ _ cV (at_:Int) (N:Int) w b0.out oM cP).mono ?_;rintro c w1 ⟨rfl,rfl⟩;obtain ⟨bK,bB⟩:=bc.out.setMv 0;obtain ⟨ai,ah⟩:=hqq2 bK bB;clear bK bB b0 bc ch;generalize w.setCell ⟨gl,3,none⟩ (.int .i64 0)=w1 at ai ah⊢;go_wp2_with fail;refine (pN e w1).mono ?_;rintro c af ⟨rfl,bw⟩;rw [cA.out];have aI:VB B w1 af:=kd bw;have bL:=ai.out.vis aI.1;have b3:=lhd (ah.out.trans (LF.of_vb (own:=own) aI));have aj:=lhd bL;clear bw aI bL;have c3:Calls prog 58 #[gl,(at_:Int)] af fun c w'=>c=.returned (.int .i64 (d:Int))/\VB B af w':=by have cQ:=aj.out.g cG.out;have:=gG B gl gk o rate t i q d at_ af (by rw [Z.out,ck.out];rw [ci.out];exact cQ) cz.out cF.out (by rw [Z.out];omega) cy.out;exact this
 go_wp2_with fail;refine c3.mono ?_;clear c3;rintro c cZ ⟨rfl,aK⟩;have a1:=lhd (aj.out.vis aK.1);have b4:=lhd (b3.out.trans (LF.of_vb (own:=own) aK));clear aK aj b3 ai ah;obtain ⟨cJ,d3,bG,cc⟩:=a1.out.gw;have I:=a1.out.blk.cell 0;have Y:=bG.cell 0;have bF:=eI B cJ m d L cZ cc (by rw [y.out];exact bJ) (by have bg:=aX.out;rw [zAa (by rw [y.out];exact bJ)] at bg;injection bg) aW.out (by rw [y.out];omega);clear bG cc;go_wp2_with fail;refine bF.mono ?_;clear bF;rintro c d0 ⟨rfl,aL⟩;have ak:=lhd (a1.out.vis aL.1);have b5:=lhd (b4.out.trans (LF.of_vb (own:=own) aL));clear aL I Y a1 b4;have bu:=aZ.out d0 (.inr trivial) ak.out;clear aZ;go_wp2_with fail;refine bu.mono ?_;clear bu;rintro c x ⟨rfl,aM⟩;have a2:=lhd (ak.out.vis aM.1);have b6:=lhd (b5.out.trans (LF.of_vb (own:=own) aM));clear aM ak b5;have I:=a2.out.blk.cell 0;have bz:=kU B gk own m n d L a x a2.out.walk aX.out aE aW.out (by rw [y.out];omega);go_wp2_with fail;refine bz.mono ?_;clear bz;rintro c d6 ⟨rfl,own1,bh,bk⟩;obtain ⟨bN,U⟩:=a2.out.walkOp bh bk;obtain ⟨al,a0⟩:=hqq2 bN (b6.out.trans U);clear bN U bh bk I a2 b6;have aG:=wP d a al.out cC.out bd.out (by rw [zAt,y.out];omega) (by rw [aY.out];omega);rw [cr.out] at aG;go_wp2_with fail;refine aG.mono ?_;clear aG;rintro c d1 ⟨rfl,aN⟩;have a3:=lhd (al.out.vis aN.1);have b7:=lhd (a0.out.trans (LF.of_vb (own:=own1) aN));clear aN al a0;have I:=a3.out.blk.cell 0;have c0:=eY B gk own1 (m.set d a) n row L d1 a3.out.walk cS (by rw [zAt,y.out];exact K) bd.out (by rw [zAt,y.out];omega);go_wp2_with fail;refine c0.mono ?_;clear c0;rintro c d2 ⟨rfl,aP,bi,bl⟩;obtain ⟨bO,bC⟩:=a3.out.walkOp bi bl;obtain ⟨a4,b8⟩:=hqq2 bO (b7.out.trans bC);clear bO bC bi bl I a3 b7;have I:=a4.out.blk.cell 0;have bA:=gT B gk aP _ n a d2 a4.out.walk aE (by rw [aY.out];omega);go_wp2_with fail;refine bA.mono ?_;clear bA;rintro c aT ⟨rfl,bj,bm⟩;obtain ⟨bP,bD⟩:=a4.out.walkOp bj bm;obtain ⟨a5,b9⟩:=hqq2 bP (b8.out.trans bD);clear bP bD bj bm I a4 b8;have Y:aT.cell? ⟨gl,1,none⟩=some (.pointer (some o)):=(a5.out.blk.cell 1).trans rfl;have c2:=aAc (fun e=>aP e=1) o (N+1) (N+1) row q aT a5.out.perm K oM oM;go_wp2_with fail;refine c2.mono ?_;clear c2;rintro c ag ⟨rfl,bo,bH⟩;obtain ⟨ax,aq⟩:=a5.out.permOp (bo.mono fun e _ an=>.inl an) bH;obtain ⟨cd,bS⟩:=eqx (dB aP aT.heap.size ag.heap.size 1);rw [bS] at ax aq;obtain ⟨a6,ba⟩:=hqq2 ax (b9.out.trans aq);clear ax aq bo bH Y a5 b9 bS;have Y:ag.cell? ⟨gl,1,none⟩=some (.pointer (some o)):=(a6.out.blk.cell 1).trans rfl;have bV:=aAe (fun e=>cd e=1) o (N+1+1) (N+1) at_ _ ag a6.out.perm oM oM oM;go_wp2_with fail;refine bV.mono ?_;clear bV;rintro c aU ⟨rfl,bp,bI⟩;obtain ⟨ay,ar⟩:=a6.out.permOp (bp.mono fun e _ an=>.inl an) bI;obtain ⟨cW,bT⟩:=eqx (dB cd ag.heap.size aU.heap.size 1);rw [bT] at ay ar;obtain ⟨cq,co⟩:=hqq2 ay (ba.out.trans ar);clear ay ar bp bI Y a6 ba bT;have aw:=jZ z (row:Int) aU cO;rw [cn.out] at aw;go_wp2_with fail;refine aw.mono ?_;clear aw;rintro c d7 ⟨rfl,rfl⟩;have ac:=fA w aU B own cW gl gk o rate 0 (aV S at_ a) (n++ [a]) (N+1) at_ M ((q.map fun b=>(inR b.1 row,b.2)).map (fun b=>(b.1,inR b.2 at_))) _ ⟨cs.out,by rw [cj.out];exact cq.out,cH.out,cv.out,fun f=>Iff.rfl,fun _ c=>cw.out (by simpa using c),co.out⟩ oM oM (aKj cm.out aE);rw [cx.out] at ac;unfold jC at ac;go_wp2_with fail;refine ac.mono ?_;clear ac;rintro c cg ⟨rfl,ce,aO,am,aQ,A⟩;have aF:(aV t at_ e).length=N+1:=by rw [gO _ _ (by rw [Z.out];exact E),Z.out]
 have ca:TxM cg B ce gl gk o rate aO (aJ (aV t at_ e)) (n++ [a]) (N+1) am aQ:=by rw [cl.out];exact ⟨A.near.sorted,A.live,A.tal,A.right⟩
 have au:=aDQ cg B ce gl gk o rate aO (aV t at_ e) (n++ [a]) (N+1) at_ am aQ ca aF oM oM c1 cT (ct.out (Smp aQ) fun f=>(A.plc f).trans (cu.out f));unfold tG at au;obtain ⟨bb,be⟩:=hqq2 A.lf aF;clear ca aF A;go_wp2_with fail;refine au.mono ?_;clear au;rintro c d8 ⟨rfl,cX,cY,cb,c5,bE,U⟩;obtain ⟨cI,cB,cp,a0⟩:=hqq4 cb c5 bE (bb.out.trans U);clear cb c5 bE U bb;go_wp2_with fail;go_ret;exact ⟨rfl,cX,⟨gk,o,aO,n++ [a],am,cY,by rw [be.out];exact cI.out,cB.out,by rw [be.out];exact cp.out⟩,a0.out⟩
end
section
open Go.RowKit
def TpAt (w:World) (d gl:Nat) (t:List UInt8) (rate:Nat):Prop:=
 ∃c gk e b,IsSuf (aJ t) c/\LiveG w d gl gk e rate (t.length+1) (aH (aJ t) c) b/\(∀a∈b,c[a.1]?=some a.2)/\(∃a∈b,a.2=0)/\t.length<=127
def TpAt.vis {w w' a gl t rate} (c:TpAt w a gl t rate) (g:Vis w w'):TpAt w' a gl t rate:=by
 obtain ⟨j,gk,b,i,d,e,f⟩:=c;exact ⟨j,gk,b,i,d,e.vis g,f⟩
def VB.grow {k w w1 l} (b:VB k w w1) (a:Below w.heap.size w1 l):VB k w l:=
 ⟨⟨a.os.trans b.1.os,a.tape.trans b.1.tape,a.output.trans b.1.output,zAk b.1.size a.size,fun d c i=>by
   rcases b.1.block d c i with m |⟨e,j,f,g⟩|⟨e,j,f,g⟩;exact .inl ((a.block d c).trans m);exact .inr (.inl ⟨e,j,f,g.below a c⟩)
   · exact .inr (.inr ⟨e,j,f,g.below a c⟩)⟩,
  ⟨a.os.trans b.2.os,a.tape.trans b.2.tape,a.output.trans b.2.output,zAk b.2.size a.size,fun d c i=>(a.block d c).trans (b.2.block d c i)⟩⟩
def TpAt.mono {w B B' gl t rate} (b:TpAt w B gl t rate) (f:B'<=B):TpAt w B' gl t rate:=by
 obtain ⟨i,gk,a,g,c,d,e⟩:=b;exact ⟨i,gk,a,g,c,d.mono f,e⟩
def aJ0 (w:World) (b:TypeId) (a:Array Value) (c:Nat×Nat) (d:Nat) (e:a.size=d):Rd (w.alloc (.cells a b c)) (w.heap.size+1) 1 (some ⟨w.heap.size,0,none⟩) d a.toList:=by
 refine ⟨by simp [e],fun _=>⟨_,0,rfl,by omega,fun g i f=>?_⟩⟩;rw [zBi,cell_of_row (w.alloc (.cells a b c)) w.heap.size g a b c (heap_alloc_new w _)];simpa using f
def oL (w:World) (a:Array Value) (c b:Nat):(convert 22 22 (.slice (some w.heap.size) c b)).run prog (w.alloc (.cells a 5))=.ok (.slice (some w.heap.size) c b) (w.alloc (.cells a 5 (a.size,a.size+1))):=
 Lib.run_convert_bytes_const (P:=prog) w 22 5 a c b underlying22 underlying5
end
section
open Go.RowKit Go.Shelf
def WaveS.low {w B B' own e} {S:Nat->Value} {c:Nat->List Nat} {g i} (a:WaveS w B own e S c g i) (b:B'<=B):WaveS w B' own e S c g i:=by
 refine ⟨a.blk,⟨zAk b a.base.1,a.base.2⟩,fun o n=>?_,fun d f=>⟨zAk b (a.bnd d f).1,(a.bnd d f).2⟩⟩;obtain ⟨j,k,l,m⟩:=a.rows o n;exact ⟨j,bN k b,l,m⟩
def WalkE.low {w B B' own gk a b} (e:WalkE w B own gk a b) (l:B'<=B):WalkE w B' own gk a b:=by
 obtain ⟨d,c,f,g,⟨S,m,i⟩,j,k⟩:=e;exact ⟨d,c,f,g,⟨S,m,i.low l⟩,j,k⟩
def aIA (own:Nat->Nat) (b gk a:Nat):Nat:=if a=b then 2 else if a=gk then 2 else own a
def aDg (e d k B a w) (D:Rd w B 1 e d (a.map sv)) (x:B<=w.heap.size) (J:d<=128) (y:∀M∈a,M < 257):
 Calls prog 76 #[.slice e d k] w fun l w'=>∃gk own,l=.returned (.pointer (some ⟨gk,0,none⟩))/\w.heap.size<=gk/\WalkE w' w.heap.size own gk a a/\Below w.heap.size w w':=by
 obtain ⟨o,n⟩:=hqq2 D y;clear D y;go_enter func76,ntmps76;go_wp2_with fail;refine (aBz e d k B a _ o.out x J n.out).mono ?_;rintro l w1 ⟨v,own,rfl,F,z⟩;obtain ⟨q,b⟩:=hqq2 F z;clear F z;go_wp2_with fail;refine (sQ e d k B a w1 (o.out.below (b.out.mono x)) (by have:=b.out.size;omega) oM n.out).mono ?_;rintro l m ⟨f,rfl,R,E,g⟩;have G:=q.out.vis (kc g);have A:=b.out.trans (g.mono b.out.size);obtain ⟨I,p,j,H⟩:=hqq4 G E A g.size;clear G E A g;go_wp2_with fail;go_ret;have L:=I.out.vis (w':=m.alloc (.cells #[v,f] 135)) ((Vis.refl _).alloc _);have C:=q.out.bnd;have U:=p.out.lt;have Q:=b.out.size;have T:=H.out;have K:=L.paint (own':=aIA own f m.heap.size) (fun c P O=>by
  have:=(C c oM).2;unfold aIA;rw [zBw oM,zBw oM]) (fun c i=>by
  unfold aIA at i;by_cases s:c=f;subst s;exact ⟨by omega,by simp;omega⟩
  · rw [zBw s] at i;by_cases u:c=m.heap.size;subst u;exact ⟨by omega,by simp⟩
    · rw [zBw u] at i;have:=C c i;exact ⟨this.1,by simp;omega⟩)
 refine ⟨_,_,rfl,j.out.size,⟨v,f,ke _ _ _,?_,K,p.out.alloc _,?_⟩,j.out.alloc j.out.size _⟩
 · unfold aIA;rw [zBw oM,zBx rfl]
 · unfold aIA;rw [zBx rfl]
def aBA (c a f B t w) (j:Rd w B 1 c a (t.map bv)) (u:B<=w.heap.size) (A:a<=127):
 Calls prog 43 #[.slice c a f] w fun e w'=>∃gk b,IsSuf (aJ t) b/\e=.returned (.pointer (some ⟨gk,0,none⟩))/\w.heap.size<=gk/\(∃own,WalkE w' w.heap.size own gk (aH (aJ t) b) (aH (aJ t) b))/\Below w.heap.size w w':=by
 have o:=lhd j;clear j;go_enter func43,ntmps43;go_wp2_with fail;refine (oG c a f B t _ o.out u oM).mono ?_;rintro e w1 ⟨b,m,s,k,rfl,i,g⟩;obtain ⟨p,n,d⟩:=hqq3 k i.rd g;clear k i g;go_wp2_with fail;refine (aDg m (a+1) s _ _ w1 n.out nL oM (dR (fB t))).mono ?_;rintro e C ⟨gk,own,rfl,z,l,v⟩;have x:=d.out.trans (v.mono d.out.size);have y:=d.out.size;have q:=lhd l;clear l;go_wp2_with fail;go_ret;exact ⟨gk,b,p.out,rfl,by omega,⟨own,q.out.low y⟩,x⟩
def LiveE.far0 {w w' B own gl t rate f} (k:LiveE w B own gl t rate) (e:Keep f w w') (d:∀a,f a->own a=0):LiveE w' B own gl t rate:=by
 obtain ⟨gk,j,p,g,s,q,⟨l,b,m,n⟩,o⟩:=k;refine ⟨gk,j,p,g,s,q,⟨l,⟨e.bk b.blk fun c=>?_,b.col,b.walk.far e fun a c=>?_,b.perm.keep e fun a c i=>?_⟩,m,n⟩,o⟩;have:=d _ c;have:=b.col;omega;have:=d a c;omega;have:=d a i;omega
def LiveE.low {w B B' own gl t rate} (d:LiveE w B own gl t rate) (j:B'<=B):LiveE w B' own gl t rate:=by
 obtain ⟨gk,c,k,b,m,l,⟨e,a,f,g⟩,i⟩:=d;exact ⟨gk,c,k,b,m,l,⟨e,⟨a.blk,a.col,a.walk.low j,a.perm⟩,f,g⟩,i⟩
def LiveE.tp {w B own gl t rate} (b:LiveE w B own gl t rate) (j:t.length<=127):TpAt w B gl t rate:=by
 obtain ⟨gk,a,o,m,l,k,⟨c,d,e,f⟩,i,n⟩:=b;exact ⟨l,gk,a,k,c,d.g e,f,i,j⟩
open Classical in
noncomputable def ownL (own:Nat->Nat) (c b:Nat) (d e f:Value) (gl a:Nat):Nat:=if PF c b d e f a then 1 else if a=gl then 3 else own a
def PermAt.low {w B g f l m n k d c i b j e} (a:PermAt w B g f l m n k d c i b j e):PermAt w 0 g f l m n k d c i b j e:=
 ⟨a.blk,bN a.lrow (zAp _),bN a.orow (zAp _),a.ar,bN a.trow (zAp _),bN a.frow (zAp _),a.apart,a.lt,⟨zAp _,zAp _⟩⟩
def aEp (a):(List.range a.length).map (fun b=>(aD a b,aI a b))=a:=(uN a).symm
def aH9 {d rate c b} (e:∃a,d[a]?=some b/\a < c) (i:b % rate=0):Smp (cW d rate c) b:=by
 obtain ⟨a,f,g⟩:=e;exact ⟨(a,b),(aIb _ _ _ _ _).2 ⟨g,by rw [zAb,f];rfl,i⟩,rfl⟩
def aIa {t c rate} (b:IsSuf (aJ t) c) (q:1<=rate):qD (Smp (cW c rate (t.length+1))) rate t.length:=fun l ⟨m,j,d⟩ o=>by
 obtain ⟨n,a⟩:=m;have g:=(aIb _ _ _ _ _).1 j;have e:a=l:=d;subst e;refine ⟨a+rate,aH9 ?_ (by rw [Nat.add_mod_right];exact g.2.2),by omega,zAs _⟩;obtain ⟨k,i,f⟩:=b.row (p:=a+rate) (by rw [aR];omega);refine ⟨k,by rw [zAa i,f],?_⟩;have:=b.len;rw [aR] at this;omega
def aGE {w wr:World} {v w2s u:Nat} {own:Nat->Nat} {gl gk e f rate N:Nat} {g i j:Value} {t:List UInt8} {c:List Nat} {m:List Bool} (L:t.length=N) (p:IsSuf (aJ t) c) (Q:1<=rate) (W:N<=127) (J:WalkE wr v own gk (aH (aJ t) c) (aH (aJ t) c)) (M:∀a,own a≠0->a < w2s) (V:gl=w2s) (T:w2s < u) (F:Bk wr gl 89 #[gk,e,(rate:Int),o0])
 (k:PermAt wr u e f g i j (.slice none 0 0) (N+1) (N+1) (List.range (cW c rate (N+1)).length) (cW c rate (N+1)) m []) (I:m.length=(cW c rate (N+1)).length) (R:∀a∈m,a=true) (U:v<=w2s):∃own',LiveE wr v own' gl t rate:=by
 subst L;have y:∀a,PF e f g i j a->u<=a/\a < wr.heap.size:=fun a b=>by refine ⟨k.foot b,?_⟩;rcases b with rfl | rfl | b | b | b;exact k.blk.lt;exact k.ar.lt;exact (k.lrow.lt _ b).2;exact (k.orow.lt _ b).2;exact (k.trow.lt _ b).2
 have o:∀a,PF e f g i j a->ownL own e f g i j gl a=1:=fun a b=>by unfold ownL;rw [zBx b]
 have O:ownL own e f g i j gl gl=3:=by unfold ownL;rw [zBw (fun d=>by have:=(y _ d).1;omega),zBx rfl]
 have P:∀a,a < w2s->ownL own e f g i j gl a=own a:=fun a b=>by unfold ownL;rw [zBw (fun d=>by have:=(y _ d).1;omega),zBw oM]
 have X:c.length=t.length+1:=by rw [p.len,aR]
 refine ⟨ownL own e f g i j gl,gk,e,0,_,c,cW c rate (t.length+1),⟨p,⟨F,O,J.paint (fun a _ D=>P a (M a oM)) (fun a q=>?_),⟨⟨f,g,i,j,.slice none 0 0,List.range (cW c rate (t.length+1)).length,cW c rate (t.length+1),m, [],?_,(aEp _).symm⟩,rK _ _ _,fun z s=>?_⟩⟩,List.Perm.refl _,xA oM⟩,?_,aIa p Q⟩;unfold ownL at q;by_cases A:PF e f g i j a;have:=y a A;exact ⟨by omega,this.2⟩;rw [zBw A] at q;by_cases C:a=gl;subst C;exact ⟨by omega,F.lt⟩;rw [zBw C] at q;exact J.bnd a q
 · have H:∀l,l < m.length->m[l]?=some true:=fun l G=>by rw [zAa G];congr 1;exact R _ (zBj G)
   refine ⟨k.low,o _ (.inl rfl),o _ (.inr (.inl rfl)),fun a b=>o _ (.inr (.inr (.inl b))),fun a b=>o _ (.inr (.inr (.inr (.inl b)))),fun a b=>o _ (.inr (.inr (.inr (.inr b)))),fun a b=>(by cases b),List.nodup_range,I,fun l=>?_,List.nodup_nil,fun l=>?_,by have:=aIc c rate (t.length+1);omega⟩
   · rw [zCj,<-I];constructor
     · intro d;exact (zAc.1 d).1
     exact H l
   · constructor
     · intro d;cases d
     · intro d;have x:=H l (zAc.1 d).1;rw [x] at d;cases d
 have x:=oO s;have D:=xA (rs:=c) (rate:=rate) (n:=t.length+1) oM z s;have E:=p.lt (zAd D);rw [aR] at E;exact ⟨x.1,E⟩;obtain ⟨z,s,K⟩:=aGo (rate:=rate) p;exact ⟨z,s,K⟩
def tC (rate:Nat) (a0) (U au B:Nat) (V t) (N:Nat) (bi:iN V=t) (K:t.length=N) (w) (aU:Rd w B 1 a0 U (V.map slV)) (aW:∀ak∈V,Rd w B 1 ak.A ak.n (ak.l.map bv)) (bg:B<=w.heap.size) (bM:U<=1000000) (aN:N<=127) (bu:1<=rate) (bO:rate<=64):
 Calls prog 17 #[(rate:Int),.slice a0 U au] w fun m w'=>∃gl own,m=.returned (.tuple #[.pointer (some ⟨gl,0,none⟩),o0])/\w.heap.size<=gl/\LiveE w' w.heap.size own gl t rate/\Below w.heap.size w w':=by
 have bj:=K;have aG:=nG a0 U au B V t N bi K w aU aW bg oM oM;have bP:¬((rate:Int) < 1):=oM;have bQ:¬((rate:Int) > 64):=oM;clear aU aW;go_enter func17,ntmps17;go_wp2_with fail;refine aG.mono ?_;clear aG;rintro m w1 ⟨al,av,rfl,aL,a9⟩;have bl:=a9;have ay:=aL.rd;obtain ⟨a1,G⟩:=hqq2 ay a9;clear aL a9 bl ay;go_wp2_with fail;refine (aBA al N av w1.heap.size t w1 a1.out nL aN).mono ?_;rintro m e ⟨gk,c,aX,rfl,bo,E,u⟩;have az:=a1.out.below u;have aE:=G.out.trans (u.mono G.out.size);have y:=lhd aX;obtain ⟨bT,E⟩:=E;have aQ:=E.bnd;have b4:=lhd aQ;clear aQ;obtain ⟨b8,b2,H⟩:=hqq3 (E.low G.out.size) (az.mono u.size) aE;clear aX E az aE u a1 G bo;go_wp2_with fail;obtain ⟨f,aO⟩:=eqx (N+1);have br:(N:Int)+1=(f:Int):=oM;rw [br];have O:=ke e 89 #[gk,.pointer none,(rate:Int),o0];have ab:Below e.heap.size e (e.alloc (.cells #[gk,.pointer none,(rate:Int),o0] 89)):=bR.alloc nL _;obtain ⟨gl,M⟩:=eqx e.heap.size;rw [M] at O;rw [M];have I:=lhd M;generalize e.alloc (.cells #[gk,.pointer none,(rate:Int),o0] 89)=w3 at O ab⊢;obtain ⟨J,a3,F⟩:=hqq3 O ab aO;clear O ab aO M;refine (aDG f w3 oM).mono ?_;rintro m Z ⟨o,a6,rfl,aS,aa⟩;have P:=J.out.below aa J.out.lt;have bb:Z.cell? ⟨gl,1,none⟩=some (.pointer none):=(P.cell 1).trans rfl;have bc:=P.frozen 1;obtain ⟨an,b6,b3⟩:=hqq3 P aS aa;clear P aS aa;go_wp2_with fail;have aH:=(kf (fun i=>i=gl) Z).setCell (p:=⟨gl,1,none⟩) (.inl rfl) (.pointer (some o));have ag:=an.out.set 1 (.pointer (some o));have ah:=b6.out.keep aH (fun i t ba d k=>by
  subst d;have:=(aP k an.out).1;subst this;decide)
 have z:Below e.heap.size e (Z.setCell ⟨gl,1,none⟩ (.pointer (some o))):=(a3.out.trans (b3.out.mono a3.out.size)).setCell (by rw [I.out];exact zAs _) _;have bK:=I.out;have b1:=lhd (show e.heap.size < w3.heap.size by have:=J.out.lt;omega);have bH:e.heap.size<=w3.heap.size:=a3.out.size;clear bb bc;generalize Z.setCell ⟨gl,1,none⟩ (.pointer (some o))=w5 at ag ah z⊢;have ai:=oF al N av e.heap.size t w5 (b2.out.below z) z.size oM;rw [F.out] at ai;obtain ⟨a4,ap,a2⟩:=hqq3 ag ah z;clear aH ag ah z;refine ai.mono ?_;clear ai;rintro m bB ⟨bw,am,aw,aY,rfl,aM,L⟩;obtain rfl:c=bw:=y.out.unique aY;have aK:c.length=f:=by rw [y.out.len,aR,K,F.out]
 have a:LvInv e w3.heap.size w5.heap.size gl gk o a6 f rate am aw c 0 (.slice none 0 0) (.slice none 0 0) (.slice none 0 0) [] bB:=
  ⟨ap.out.below L,rfl,fun b9 _ k=>(by cases k),aM.own,a4.out.below L a4.out.lt,a2.out.trans (L.mono a2.out.size)⟩
 obtain ⟨ao,g⟩:=hqq2 aK a;clear a aM L aY aK a4 ap a2;go_wp2_with fail;go_loopw [8,9,36] (fun _ _ aj wr=>∃b:Nat,b<=f/\aj=.int .i64 b/\∃W X Y v,LvInv e w3.heap.size w5.heap.size gl gk o a6 f rate am aw c b W X Y v wr/\∀i∈v,i=true) (fun _ _ aj _=>f -(intOf aj).toNat)
 case atStart=>exact ⟨0,by omega,rfl,_,_,_,_,g.out,fun i k=>by cases k⟩
 case round=>
  clear g;obtain ⟨b,bL,rfl,W,X,Y,v,a,aZ⟩:=hrel;have a5:=lhd aZ;clear aZ;by_cases Q:b < f
  · have af:b < c.length:=(by rw [ao.out];exact Q);obtain ⟨j,n⟩:∃j,c[b]?=some j:=⟨_,zAa af⟩;have bt:j < f:=(by have:=y.out.lt (zAd n);rw [aR,K,F.out] at this;exact this);have ac:c.getD b 0=j:=(by rw [zAb,n];rfl);have aV:=Rd.of_own a.row;obtain ⟨i,bS,bU,bf,aF,T,bm⟩:=aV.get Q;rw [zAf,n] at T;injection T with T;subst T bf;unfold sv at bm;have bF:=a.blk.cell 1;have bq:((j:Int)).tmod (rate:Int)=((j % rate:Nat):Int):=(by rw [Int.tmod_eq_emod_of_nonneg oM];simp);have bp:((j:Int))%(rate:Int)=((j % rate:Nat):Int):=(by simp);obtain ⟨b0,R⟩:=eqx (j % rate);rw [R] at bq bp;have q:=aEj c rate b;rw [ac,R] at q;obtain ⟨bD,b5,bE,g,b7⟩:=hqq5 ac n R a aF;clear ac n R a aV af aF;by_cases aT:b0=0
    · subst aT;rw [zBx rfl] at q;have x:=lhd q;clear q;go_wp2_with fail;have aB:=aDI w3.heap.size o a6 W X Y f f (List.range (cW c rate b).length) (cW c rate b) v b j wr g.out.perm (aCA (rK c rate b)) (fun s ad=>(oO (aCB (by simpa using ad))).1) (fun s ad m=>by
       have ax:=oO (aCB (C:=cW c rate b) (by simpa using ad));have bd:aI (cW c rate b) s=c.getD (aD (cW c rate b) s) 0:=ax.2;have bG:aD (cW c rate b) s < b:=ax.1;have af:b < c.length:=(by rw [ao.out];exact Q);have be:c[aD (cW c rate b) s]?=c[b]?:=(by rw [b5.out,<-m,bd,zAb,zAa (show aD (cW c rate b) s < c.length by omega)];rfl);have:=(List.getElem?_inj (show aD (cW c rate b) s < c.length by omega) y.out.nodup).1 be
       omega) Q bt g.out.len (by
        have:(cW c rate b).length<=b:=(by unfold cW;rw [zBc];exact zAk (zCu _ _) (by simp));omega) (by
        have:(cW c rate b).length<=b:=(by unfold cW;rw [zBc];exact zAk (zCu _ _) (by simp));simp;omega) (by have:=g.out.perm.blk.lt;have:=g.out.perm.lo.1;omega)
      refine aB.mono ?_;clear aB;rintro m bV ⟨rfl,ae,bx,bz,bA,bs,bn,bI,bJ⟩;go_wp2_with fail;go_roundw
      case rel=>
       have a:=g.out;refine ⟨b+1,by omega,by go_num,bx,bz,bA,v++ [true],⟨?_,?_,?_,?_,?_,?_⟩,fun i k=>by rcases zCp.1 k with a7 | a7;exact a5.out i a7;exact List.mem_singleton.1 a7⟩;rw [x.out];simpa [List.range_succ] using bs
       · rw [x.out];simp [a.len]
       exact a.apt.next2 bn (fun b9 a8=>by injection a8 with a8;subst a8;exact b7.out);refine aA a.row fun aq ba aC D=>ae.bk D (fun d=>?_);rcases d with d | d | d | d | d;subst d;exact Bk.ne D a.perm.blk dC rfl;subst d;exact Bk.ne D a.perm.ar dC rfl;exact bC a.perm.lrow D dC d.symm;have u:i=aq:=(by simpa [Value.ownBlock] using aC);subst u;exact a.apt _ rfl d;exact bC a.perm.trow D dC d.symm;refine ae.bk a.blk (fun d=>?_);have:=a.perm.foot d;have:=J.out.lt;omega;exact a.below.trans (ae.to_below a.below.size (fun aq aC d=>by have:=a.perm.foot d;omega))
      case measure=>simp [intOf];omega
    · rw [zBw aT] at q;have x:=lhd q;have bN:((b0:Int)==0)=false:=(by simp;omega);clear q;go_wp2_with fail;go_roundw
      case rel=>have a:=g.out;exact ⟨b+1,by omega,by go_num,W,X,Y,v,⟨by rw [x.out];exact a.perm,by rw [x.out];exact a.len,a.apt,a.row,a.blk,a.below⟩,a5.out⟩
      case measure=>simp [intOf];omega
  · obtain rfl:f=b:=oM;have g:=lhd a;clear a;go_wp2_with fail;go_ret2;have a:=g.out;have n:=a.perm;have aJ:=a.len;rw [<-F.out] at n aJ;obtain ⟨own',bh⟩:=aGE (w:=w) (w2s:=e.heap.size) bj y.out bu aN (b8.out.vis (kc a.below)) (fun i k=>(b4.out i k).2) I.out.symm b1.out a.blk n aJ a5.out H.out.size;exact ⟨gl,own',rfl,by have:=H.out.size;have:=I.out;omega,bh,H.out.trans (a.below.mono H.out.size)⟩
end
section
open Go.RowKit
def aBq {a:List Nat} {c b:Nat} (d:a[c]?=some b):(a.take c).count b < a.count b:=by
 have e:a.count b=(a.take (c+1)).count b+(a.drop (c+1)).count b:=by rw [<-zCc,zAu]
 have f:(a.take (c+1)).count b=(a.take c).count b+1:=by rw [zAv,d,zCc];simp
 omega
def aIE {t a} (m:IsSuf (aJ t) a) {d l c b} (o:a[d]?=some (c+1)) (p:a[l]?=some c) (g:t[c]?=some b):
 (aH (aJ t) a)[d]?=some (b.toNat+1)/\cL (aH (aJ t) a) (b.toNat+1) d=l:=by
 obtain ⟨i,j⟩:=zAc.1 o;obtain ⟨q,s⟩:=zAc.1 p;have k:=(zAc.1 g).1;have n:(aJ t).getD c 0=b.toNat+1:=by unfold aJ dI;rw [zAb,zAn (by simpa using k),zAf,g];rfl
 have e:=lf m (eP t) i q j s;have f:=sA (eP t) i j k;rw [n] at e f;exact ⟨zAc.2 ⟨_,f⟩,e⟩
def pX (B gk a f c b w) (j:WalkAt w B gk a) (e:a[f]?=some b) (p:cL a b f=c) (n:∀g∈a,g < 257) (u:a.length<=1000):
 Calls prog 60 #[gk,(c:Int)] w fun d w'=>d=.returned (.int .i64 (b:Int))/\Below w.heap.size w w':=by
 have F:b < 257:=n _ (zAd e);have o:=aBq e;have q:a.countP (fun g=>decide (g < b))+(a.take f).count b=c:=p;have s:c < a.length:=by have:=wI a b a.length;unfold cL at this;rw [List.take_length] at this;omega
 have m:=j;obtain ⟨H,C,k,D,l⟩:=j;have G:=k.cell 1;obtain ⟨v,x,i,y,z,A⟩:=hqq6 m l q o s u;clear m k D l q o p s n u e;go_enter func60,ntmps60;go_wp2_with fail;refine (yL B gk a c w v.out z.out).mono ?_;rintro d w1 ⟨rfl,rfl⟩;go_wp2_with fail;refine (yR C a c b _ x.out F (by have:=i.out;omega) (by have:=i.out;have:=y.out;omega) A.out).mono ?_;rintro d w' ⟨rfl,E⟩;go_wp2_with fail;go_ret;exact ⟨rfl,E⟩
def vC (b) (a:Nat) (g:a=b.toNat+1) (w):
 Calls prog 59 #[(a:Int)] w fun c w'=>c=.returned (.tuple #[bv b,true])/\Below w.heap.size w w':=by
 have f:=b.toNat_lt;have j:¬((a:Int)=0):=oM;have k:((a:Int)==0)=false:=by rw [zCb];omega
 have l:IntKind.i64.wrap ((a:Int) - 1)=(b.toNat:Int):=by rw [wI0];omega
 have m:IntKind.u8.wrap (b.toNat:Int)=(b.toNat:Int):=by rw [IntKind.wrap_u8];omega
 have d:¬a=0:=oM;have n:decide (a=0)=false:=zBy d;have i:a < 257:=oM;clear g f;go_enter func59,ntmps59;go_wp2_with fail;refine (fO a w i).mono ?_;rintro c w1 ⟨rfl,e⟩;go_wp2_with fail;go_ret2;exact ⟨rfl,e⟩
def qV (B gk d e i b w) (x:WalkAt w B gk d) (q:d[e]?=some b) (A:cL d b e=i) (o:∀C∈d,C < 257) (s:d.length<=1000) (I:TabW w) (z:1 < B):
 Calls prog 61 #[gk,(i:Int)] w fun n w'=>n=.returned (.int .i64 (e:Int))/\VB B w w':=by
 have a4:b < 257:=o _ (zAd q);have K:=pX B gk d e i b w x q A o s;obtain ⟨j,u⟩:∃j,d.countP (fun C=>decide (C < b))=j:=⟨_,rfl⟩;obtain ⟨l,p⟩:=eqx ((d.take e).count b);have L:j+l=i:=by rw [<-u,<-p];exact A
 have ah:j<=1000:=by rw [<-u];exact zAk zBh s
 have ai:l<=1000:=by rw [<-p];exact zAk zBv (by rw [zAj];omega)
 have H:=x;obtain ⟨v,ag,y,G,a2⟩:=x;have aj:=y.lt;obtain ⟨M,O,Q,W,T,F,Y,V,X⟩:=hqq9 H y G q o s u p L;have D:=lhd I;clear H y G a2 q o s u p A L I;have ak:decide ((b:Int) < 0)=false:=by simp
 go_enter func61,ntmps61;go_wp2_with fail;refine K.mono ?_;rintro n k ⟨rfl,J⟩;clear K;have g:VB B w k:=kd J;obtain ⟨U,P,R,E⟩:=hqq4 (M.out.vis g.1) (g.1.bk O.out dC dC) (Q.out.vis g.1) (D.out.vb g z D.out.pos);have al:=g.1.size;have Z:=lhd g;clear g J;go_wp2_with fail;refine wp_region_any kR ?_;refine aO [11,12,13,14,15,16,17,18,19,20,21,4] (VB B) (Vs [is gk,is gk,is gk,is v,is (i:Int),is gk,is (b:Int),is (j:Int),is (l:Int),is (b:Int),is (e:Int),is (e:Int)]) _ _ rfl kR vR (fun _ _=>VisK.trans) (cS tA1) ?_ ?_
 · refine aK ?_;refine pH 0 (.pointer (some gk)) ?_;refine pV 0 11 ?_;refine pV 1 12 ?_;refine pL 2 13 (fun f a=>have a:(VB B) k f:=bD a;(((a.1.bk P.out dC dC).cell 0).trans rfl:f.cell? gk=some (.pointer (some v)))) ?_;refine pH 1 (.int .i64 (i:Int)) ?_;refine pH 0 (.pointer (some gk)) ?_;refine pH 5 (.int .i64 (b:Int)) ?_;refine sC (fun _ f a _ _ _ c _ _ _ m=>?_) ?_
   · have ab:_=_:=c 5 16 kR rfl;have ac:_=_:=c 6 17 kR rfl;replace a:(VB B) k f:=bD a;go_simp;refine (jB B gk d b f (U.out.vis a.1) a4 F.out).mono ?_;rintro n a8 ⟨rfl,a3⟩;rw [Y.out];exact m _ _ (kd a3) rfl
   refine sC (fun _ _ _ _ _ _ c _ _ _ m=>?_) ?_
   · have aa:_=_:=c 4 15 kR rfl;have ad:_=_:=c 7 18 kR rfl;have am:IntKind.i64.wrap ((i:Int) -(j:Int))=(l:Int):=(by rw [wI0];have:=X.out;omega);go_simp;exact m _ _ vR rfl
   refine pH 5 (.int .i64 (b:Int)) ?_;refine sC (fun _ f a _ _ _ c _ _ _ m=>?_) ?_
   · have a9:_=_:=c 3 14 kR rfl;have ae:_=_:=c 8 19 kR rfl;have af:_=_:=c 9 20 kR rfl;replace a:(VB B) k f:=bD a;go_simp;refine (yH B v d e l b f (R.out.vis a.1) W.out V.out T.out F.out (E.out.vb a z E.out.pos) z).mono ?_;rintro n a8 ⟨rfl,a6⟩;exact m _ _ a6 rfl
   refine pV 10 21 ?_;exact aC
 · intro a1 a7 a c;replace a:(VB B) k a7:=bD a;have a0:a1 (.tmp 4)=.int .i64 (e:Int):=c 11 4 rfl;simp only [zqq];rw [a0];clear c;have a5:=Z.out.trans a;go_wp2_with fail;go_ret;exact ⟨rfl,a5⟩
end
section
open Go.RowKit
open Classical in
def VisF.split {d w w'} (f:VisF d w w'):∃w1,Keep d w w1/\Vis w1 w':=by
 let c:Array Obj:=Array.ofFn (n:=w'.heap.size) fun k=>if g:k.val < w.heap.size/\¬d k.val then w.heap[k.val]'g.1 else w'.heap[k.val]
 have y:c.size=w'.heap.size:=Array.size_ofFn;have q:∀a,a < w'.heap.size->c[a]?=if a < w.heap.size/\¬d a then w.heap[a]? else w'.heap[a]?:=fun a g=>by
  rw [zAq oM,Array.getElem_ofFn];by_cases b:a < w.heap.size/\¬d a
  · rw [zBx b,dif_pos b,zAq b.1]
  · rw [zBw b,dif_neg b,zAq g]
 refine ⟨{ w' with heap:=c },⟨f.os,f.tape,f.output,?_,fun j s x=>?_⟩,⟨rfl,rfl,rfl,?_,fun a g _=>?_⟩⟩;show w.heap.size<=c.size;rw [y];exact f.size
 · show c[j]?=w.heap[j]?;rw [q j (zAl s f.size),zBx ⟨s,x⟩]
 show c.size<=w'.heap.size;omega;have v:a < w'.heap.size:=(by have:a < c.size:=g;omega);have i:({ w' with heap:=c }:World).heap[a]?=if a < w.heap.size/\¬d a then w.heap[a]? else w'.heap[a]?:=q a v;by_cases b:a < w.heap.size/\¬d a;rw [zBx b] at i;have p:∀t e,Bk w a t e->Bk { w' with heap:=c } a t e:=fun t e j=>i.trans j;rcases f.block a b.1 b.2 with u |⟨e,o,l,m⟩|⟨e,o,l,m⟩;exact .inl (by rw [i];exact u);exact .inr (.inl ⟨e,o,p _ _ l,m⟩);exact .inr (.inr ⟨e,o,p _ _ l,m⟩);rw [zBw b] at i;exact .inl i.symm
def LiveE.visF {w w' B own gl t rate a} (c:LiveE w B own gl t rate) (g:VisF a w w') (f:∀b,a b->own b=0):LiveE w' B own gl t rate:=by
 obtain ⟨w1,d,e⟩:=g.split;exact (c.far0 d f).vis e
end
section
open Go.RowKit
structure StAt (w:World) (B:Nat) (own:Nat->Nat) (gs gl most rate:Nat) (t:List UInt8):Prop where
 blk:Bk w gs 52 #[gl,(most:Int)]
 low:B<=gs
 col:own gs=0
 live:LiveE w B own gl t rate
 n127:t.length<=127
 len:t.length<=most
 max:most<=2147483648
 r1:1<=rate
 r2:rate<=64
section
variable {w w' : World} {B gs gl most rate : Nat} {own own' : Nat -> Nat} {t : List UInt8}
def StAt.tp (a:StAt w B own gs gl most rate t):TpAt w B gl t rate:=a.live.tp a.n127
def StAt.vb (a:StAt w B own gs gl most rate t) (b:Vis w w'):StAt w' B own gs gl most rate t:=
 ⟨b.bk a.blk dC dC,a.low,a.col,a.live.vis b,a.n127,a.len,a.max,a.r1,a.r2⟩
def StAt.size (a:StAt w B own gs gl most rate t):B<=w.heap.size:=by have:=a.low;have:=a.blk.lt;omega
def StAt.fresh (b:StAt w B own gs gl most rate t) {a} (d:w.heap.size<=a):own a=0:=Nat.eq_zero_of_not_pos fun c=>by have:=(b.live.bnd a oM).2;omega
def StAt.llen {N} (b:StAt w B own gs gl most rate t) (c:t.length=N):Calls prog 26 #[gl] w fun a w'=>a=.returned (.int .i64 (N:Int))/\w=w':=by
 obtain ⟨l,gk,f,k,e,d,i,j,g⟩:=b.tp;exact cD B gl _ N w d.lvw (by rw [bW,e.len,aR,c]) oM
end
structure LFS (B gs:Nat) (w w':World) (own own':Nat->Nat):Prop where
 old:∀b,b < w.heap.size->own' b≠0->own b≠0
 vis:VisF (fun b=>own b≠0∨b=gs) w w'
 keep:Keep (fun b=>B<=b) w w'
section
variable {B gs : Nat} {w w1 w' : World} {own own1 own' : Nat -> Nat}
def LFS.refl (B gs w own):LFS B gs w w own own:=⟨fun _ _ a=>a,VisF.of_vis (Vis.refl w),kf _ _⟩
def LFS.size (a:LFS B gs w w' own own'):w.heap.size<=w'.heap.size:=a.keep.size
def LFS.trans (b:LFS B gs w w1 own own1) (e:LFS B gs w1 w' own1 own'):LFS B gs w w' own own':=by
 have f:=b.keep.size;refine ⟨fun c d a=>b.old c d (e.old c oM a),b.vis.trans' e.vis fun c d a=>?_,b.keep.trans e.keep⟩;rcases a with a | a;exact .inl (b.old c d a);exact .inr a
def LFS.of_lf (gs) (b:LF B w w' own own'):LFS B gs w w' own own':=⟨fun c d a=>by rw [<-b.old c d];exact a,b.vis.mono fun c _ a=>.inl a,b.keep⟩
def LFS.of_vb (gs own) (a:VB B w w'):LFS B gs w w' own own:=⟨fun _ _ b=>b,VisF.of_vis a.1,a.2⟩
def LFS.of_below (B gs own) (a:Below w.heap.size w w'):LFS B gs w w' own own:=LFS.of_vb gs own (kd a)
def LFS.below (d:LFS B gs w w' own own') (c:B<=w.heap.size):Below B w w':=d.keep.to_below c fun a f b=>by have e:B<=a:=b;omega
def LFS.zero (e:LFS B gs w w' own own') {a} (d:a < w.heap.size) (c:own a=0):own' a=0:=by
 by_cases b:own' a=0;exact b;exact absurd c (e.old a d b)
def LFS.bk (j:LFS B gs w w' own own') {a t c} (d:Bk w a t c) (e:own a=0) (i:a≠gs) (f:t≠226) (g:t≠180):Bk w' a t c:=
 j.vis.bk d f g fun b=>b.elim (fun b=>b e) i
structure Ap (own:Nat->Nat) (gs b:Nat):Prop where
 col:own b=0
 ne:b≠gs
def Ap.step {a} (b:Ap own gs a) (d:LFS B gs w w' own own') (c:a < w.heap.size):Ap own' gs a:=⟨d.zero c b.col,b.ne⟩
def MadeZ (w:World) (own:Nat->Nat) (gs:Nat) (d:TypeId) (b:Option Addr) (e c:Nat) (f:List Value):Prop:=Made w 0 d 1 b e c f/\∀a,b=some a->a.block < w.heap.size/\Ap own gs a.block
def MadeZ.step {a c e f i} (b:MadeZ w own gs a c e f i) (g:LFS B gs w w' own own') (n:a≠226) (o:a≠180):MadeZ w' own' gs a c e f i:=by
 have j:w'.ownsRow 0 a 1 (.slice c e f) e i:=aA b.1.own fun l s k q=>by
  rcases c with _ | d
  · cases k
  have m:d.block=l:=(by simpa [Value.ownBlock] using k);have:=(b.2 d rfl).2;rw [m] at this;exact g.bk q this.col this.ne n o
 refine ⟨⟨j,Rd.of_own j,b.1.cap,b.1.max⟩,fun d p=>?_⟩;have:=b.2 d p;exact ⟨zAl this.1 g.size,this.2.step g this.1⟩
def ArgZ (w:World) (B:Nat) (own:Nat->Nat) (gs:Nat) (b:Option Addr) (c:Nat) (d:List UInt8):Prop:=
 Rd w w.heap.size 1 b c (d.map bv)/\(0 < c->∀a,b=some a->a.block < B∨(Ap own gs a.block/\∃e f,w.heap[a.block]?=some (.cells e 5 f)))
def VisF.same {d b e t j} (n:VisF d w w') (c:w.heap[b]?=some (.cells e t j)) (m:¬d b) (k:t≠226) (l:t≠180):w'.heap[b]?=w.heap[b]?:=by
 rcases n.block b (lt_of_block c) m with g |⟨f,o,a,i⟩|⟨f,o,a,i⟩;exact g;exfalso;unfold Bk at a;rw [c] at a;injection a with a;injection a with _ a;exact k a;exfalso;unfold Bk at a;rw [c] at a;injection a with a;injection a with _ a;exact l a
def ArgZ.step {l k f} (c:ArgZ w B own gs l k f) (e:LFS B gs w w' own own'):ArgZ w' B own' gs l k f:=by
 have A:=e.size;rcases zBa k with d | d;subst d;have:f= []:=(by simpa using c.1.1);subst this;exact ⟨Rd.nil _ _ _ _,fun s=>absurd s oM⟩;obtain ⟨b,x,rfl,o,q⟩:=c.1.2 d;have p:w'.heap[b]?=w.heap[b]?:=(by rcases c.2 d _ rfl with a |⟨a,m,n,g⟩;exact e.keep.block b o (by have C:b < B:=a;omega);exact e.vis.same g (fun i=>i.elim (fun i=>i a.col) a.ne) dC dC);refine ⟨⟨c.1.1,fun _=>⟨b,x,rfl,by omega,fun v y u=>by rw [<-q v y u];exact World.cell?_of_block p⟩⟩,fun _ z j=>?_⟩;injection j with j;subst j;rcases c.2 d _ rfl with a |⟨a,m,n,g⟩;exact .inl a;exact .inr ⟨a.step e o,m,n,p.trans g⟩
def ArgZ.old {c b f d} (e:Rd w c 1 b f (d.map bv)) (m:c<=B) (l:B<=w.heap.size):ArgZ w B own gs b f d:=
 ⟨e.mono oM,fun j k a=>by
  obtain ⟨g,o,i,n,_⟩:=e.2 j;rw [i] at a;injection a with a;subst a;exact .inl (by show g < B;omega)⟩
def ArgZ.made {d f i e} (c:MadeZ w own gs 5 d f i (e.map bv)):ArgZ w B own gs d f e:=
 ⟨c.1.rd,fun p g a=>by
   have l:=(c.2 g a).2
   obtain ⟨o,n,j,b,_,k,_⟩:=c.1.own.2.resolve_left (fun m=>by
     have:=m.1;injection this with q1;rw [q1] at a;cases a)
   injection b with b;rw [b] at a;injection a with a;subst a;exact .inr ⟨l,j,_,k⟩⟩
def ArgZ.vis {a c b} (d:ArgZ w B own gs a c b) (e:Below w.heap.size w w'):ArgZ w' B own gs a c b:=d.step (LFS.of_below B gs own e)
def StAt.far {gl most rate t H} (a:StAt w B own gs gl most rate t) (e:Keep H w w') (d:∀b,H b->Ap own gs b):StAt w' B own gs gl most rate t:=
 ⟨e.bk a.blk fun c=>(d _ c).ne rfl,a.low,a.col,a.live.far0 e fun b c=>(d b c).col,a.n127,a.len,a.max,a.r1,a.r2⟩
def Two (own1:Nat->Nat) (b:Nat) (d:Nat->Nat) (c:Nat):Prop:=∀a,own1 a≠0∨a=b->Ap d c a
end
def StAt.other {w w' B p i d k l n own1 m f o} (a:StAt w B f d k l n o) (j:LFS p i w w' own1 m) (e:Two own1 i f d):StAt w' B f d k l n o/\Two m i f d:=by
 refine ⟨⟨j.vis.bk a.blk dC dC fun g=>(e _ g).ne rfl,a.low,a.col,a.live.visF j.vis fun b g=>(e b g).col,a.n127,a.len,a.max,a.r1,a.r2⟩,fun b c=>?_⟩;rcases c with c | c;by_cases q:b < w.heap.size;exact e b (.inl (j.old b q c));exact ⟨a.fresh oM,by have:=a.blk.lt;omega⟩;exact e b (.inr c)
def Two.symm {own1 e c d} (g:Two own1 c e d) (j:own1 c=0) (k:e d=0):Two e d own1 c:=fun b a=>by
 refine ⟨?_,fun i=>?_⟩;by_cases f:own1 b=0;exact f;have:=g b (.inl f);rcases a with a | a;exact absurd this.col a;exact absurd a this.ne;have:=g b (.inr i);rcases a with a | a;exact a this.col;exact this.ne a
def mG (B own gs gl most rate N t a b w) (d:StAt w B own gs gl most rate t) (n:t.length=N):
 Calls prog 53 #[gs,(a:Int),(b:Int)] w fun c w'=>c=.returned (.bool (dL N a b))/\w=w':=by
 have l:=d.llen n;have q:N<=127:=by have:=d.n127;omega
 have o:=d.blk.cell 0;have f:=lhd l;clear l d;unfold dL;by_cases e:0<=a
 · by_cases i:0<=b
   · by_cases k:a<=(N:Int)
     · have p:IntKind.i64.wrap ((N:Int) - a)=(N:Int) - a:=(by rw [wI0];omega);have g:decide (0<=a)=true:=zBz e;have j:decide (0<=b)=true:=zBz i;have m:decide (a<=(N:Int))=true:=zBz k;go_enter func53,ntmps53;go_wp2_with fail;refine f.out.mono ?_;rintro c w1 ⟨rfl,rfl⟩;go_wp2_with fail;refine f.out.mono ?_;rintro c w1 ⟨rfl,rfl⟩;go_wp2_with fail;go_ret;refine ⟨?_,rfl⟩
       first | rfl |(show Ending.returned (Value.bool (decide (b<=(N:Int) - a)))=_;congr 2;exact decide_eq_decide.2 oM)
     · have g:decide (0<=a)=true:=zBz e;have j:decide (0<=b)=true:=zBz i;have m:decide (a<=(N:Int))=false:=zBy k;go_enter func53,ntmps53;go_wp2_with fail;refine f.out.mono ?_;rintro c w1 ⟨rfl,rfl⟩;go_wp2_with fail;go_ret;refine ⟨?_,rfl⟩;show Ending.returned (Value.bool false)=_;rw [zBy oM]
   · have g:decide (0<=a)=true:=zBz e;have j:decide (0<=b)=false:=zBy i;go_enter func53,ntmps53;go_wp2_with fail;go_ret;exact ⟨rfl,rfl⟩
 · have g:decide (0<=a)=false:=zBy e;go_enter func53,ntmps53;go_wp2_with fail;go_ret;exact ⟨rfl,rfl⟩
def oN (a c:Int) (b:Nat):Int:=if a=1 then 0 else if a=3 then (b:Int) else c
def jY (B own gs gl most rate N t b g f j e m w) (q:StAt w B own gs gl most rate t) (u:t.length=N) (a:dL N g (oN b f e)=false):
 Calls prog 25 #[gs,.agg #[(b:Int),(g:Int),(f:Int),.slice j e m]] w fun i w'=>i=.returned (.int .i64 2)/\Below w.heap.size w w':=by
 have p:Below w.heap.size w (w.alloc (.cells #[(b:Int),(g:Int),(f:Int),.slice j e m] 44)):=bR.alloc nL _;have s:=fun v=>mG B own gs gl most rate N t g v _ (q.vb (kc p)) u;have l:=lhd p;have d:=ke w 44 #[(b:Int),(g:Int),(f:Int),.slice j e m];have y:=d.cell 0;have z:=d.cell 1;have A:=d.cell 2;have C:=d.cell 3;have k:=lhd s;clear q p d s;unfold oN at a;by_cases n:b=1
 · subst n;rw [zBx rfl] at a;have c:=lhd a;clear a;go_enter func25,ntmps25;go_wp2_with fail;refine (k.out 0).mono ?_;rintro i w1 ⟨rfl,rfl⟩;rw [c.out];go_wp2_with fail;go_ret;exact ⟨rfl,l.out⟩
 · rw [zBw n] at a;by_cases o:b=3
   · subst o;rw [zBx rfl] at a;have c:=lhd a;clear a;go_enter func25,ntmps25;go_wp2_with fail;refine (k.out (e:Int)).mono ?_;rintro i w1 ⟨rfl,rfl⟩;rw [c.out];go_wp2_with fail;go_ret;exact ⟨rfl,l.out⟩
   · rw [zBw o] at a;have c:=lhd a;have b1:(b==1)=false:=zCb.2 n;have x:(b==3)=false:=zCb.2 o;clear a;go_enter func25,ntmps25;go_wp2_with fail;refine (k.out f).mono ?_;rintro i w1 ⟨rfl,rfl⟩;rw [c.out];go_wp2_with fail;go_ret;exact ⟨rfl,l.out⟩
end
section
open Go.RowKit Go.Shelf
def aAn (B k b f a e w) (x:w.ownsRow B 3 1 (.slice k b f) b (e.map sv)) (Z:a < b) (a0:b<=1000000):
 Calls prog 215 #[.slice k b f,(a:Int),.int .i64 ((a+1:Nat):Int)] w fun o w'=>o=.returned (.slice k (b - 1) f)/\w'.ownsRow B 3 1 (.slice k (b - 1) f) (b - 1) ((aF e a).map sv)/\Keep (fun q=>(Value.slice k b f).ownBlock=some q) w w':=by
 have F:e.length=b:=by have:=x.1;simpa using this
 obtain ⟨i,a3,s,_,Y⟩:=kk x oM;injection s with s _ e3;subst s e3;obtain ⟨I,A,V,a1,G,J,M⟩:=tT x oM;obtain ⟨d,z⟩:∃d:List Int,e.map (fun U=>((U:Nat):Int))=d:=⟨_,rfl⟩;have y:d.length=b:=by rw [<-z,zBc,F]
 have T:e.map sv=d.map (Value.int .i64):=by rw [<-z,zCh];rfl
 have K:Sort.Holds (Value.int .i64) w i 0 d.toArray:=holds_of_blockI A (by
  refine iD (by simp) oM fun c v=>?_;rw [M c oM,T])
 have u:=Any.slices_Delete_int shDel i 0 f a (a+1) d w K oM (by unfold maxLen at G;omega) oM oM;rw [y] at u;have X:(aF e a).length+1=b:=by rw [dD _ oM,F]
 have W:(aF d a).length+1=b:=by rw [dD _ oM,y]
 obtain ⟨m,p⟩:=eqx (d.take a++d.drop (a+1)++List.replicate (a+1 - a) 0);have a2:m.length=b:=by rw [<-p];simp [y];omega
 have Q:∀c,c < b - 1->m[c]?=(aF d a)[c]?:=fun c v=>by rw [<-p];show ((aF d a)++List.replicate (a+1 - a) 0)[c]?=_;rw [zAn oM]
 rw [p] at u;clear p;refine u.mono ?_;rintro o w' ⟨rfl,H,rfl⟩;have j:=grownBy_sortedI (w:=w) (g:=i) (n:=H) (os:=#[]) m.toArray;have C:=heap_sortedI (w:=w) (g:=i) (n:=H) (os:=#[]) m.toArray A;rw [Go.Sort.grow_empty] at j C;refine ⟨by rw [show a+1 - a=1 by omega],⟨by rw [zBc,zBl];omega,.inr ⟨i,f,_,rfl,J,C,by omega,G,by simp [Go.Sort.putCells];omega,?_⟩⟩,⟨j.os,j.tape,j.output,j.size,fun q L P=>j.block q L fun o=>P o.symm⟩⟩;rw [zBl];refine iD (by rw [zBc];omega) (by simp [Go.Sort.putCells];omega) fun c v=>?_;have D:c < (aF e a).length:=oM;have R:(aF d a)[c]?=some (((aF e a)[c]:Nat):Int):=by rw [<-z,<-sJ,zAf,zAa D];rfl
 rw [zAf,zAa D];have l:=Q c v;rw [R] at l;have O:c < I.size:=oM;have E:c < m.length:=oM;rw [zAa E] at l;injection l with l;simp [Go.Sort.putCells,Array.getElem?_mapIdx,O,E,l,sv]
def tA (y f aa a9 l ak w) (R:PermE w y f aa a9 ak) (a0:l < ak.length):
 Calls prog 161 #[f,(l:Int)] w fun e w'=>e=.returned (.tuple #[])/\PermE w' (Gw y w.heap.size) f aa a9 (aF ak l)/\Keep y w w':=by
 obtain ⟨⟨i,b0,b1,q,o,u,O,J,Q,C,rfl⟩,aU,aJ⟩:=R;rw [zBc] at a0;have H:=C.at_;have bY:=iK C.nd H.lt;have bS:=C.sz;obtain ⟨b,T⟩:∃b,u[l]?=some b:=⟨_,zAa a0⟩;have ae:=zAd T;have aV:=(C.tkk b).2 ae;obtain ⟨j,E,a4,_,bt⟩:=kk H.orow oM;have a6:=H.orow;rw [a4] at a6;have bf:w.cell? f=some (.pointer (some i)):=(H.blk.cell 0).trans rfl;have Y:w.cell? ⟨f,2,none⟩=some (.slice (some j) u.length E):=(H.blk.cell 2).trans (by rw [a4];rfl);have ap:w.cell? ⟨j,l,none⟩=some (.int .i64 (b:Int)):=(ki a6 l oM).trans (by rw [zAf,T];rfl);have bu:=H.blk.lt;have bT:Q.length<=1000:=by have:=iK C.frn fun d D=>(zAc.1 ((C.frk d).1 D)).1;have:=C.tkl;omega
 obtain ⟨z,ag⟩:=eqx u.length;have c0:z<=1000:=oM;rw [ag] at Y a0 a6;have bX:(l:Int) < (z:Int):=oM;have bW:(0:Int)<=(l:Int):=oM;have bP:wrap64 ((l:Int)+1)=((l+1:Nat):Int):=by rw [dN oM oM];rfl
 obtain ⟨n,P,b7,a8,bb,b5,K,bH⟩:=hqq8 C ag T aV aU aJ a4 ae;clear C ag T aV aU aJ a4 a6 H ae;go_enter func161,ntmps161;go_wp2_with fail;refine wp_region_any kR ?_;refine aY [4,5,6,7,8,9,10,11,12,13,14,15,16] (AF i q o) 12 [12] (fun W=>PermX W y f i b0 b1 q o aa a9 u O J Q) (fun _ W=>ArenaE W (Gw (AF i q o) w.heap.size) i (J.set b false) (Q++ [b])) [is f,is f,is f,is i,is f,is f,is (.pointer (some ⟨f,2,none⟩)),is (.slice (some j) z E),is (l:Int),is (.pointer (some ⟨j,l,none⟩)),is (b:Int),nV (AF i q o) 3 #[(b:Int)] fun L=>.slice (some ⟨L,0,none⟩) 1 1,cJ] _ _ rfl kR kR (n.out.drewN 1) (fun W A R _ bs=> { R with at_:=R.at_.below bs }) (fun _ _ _ R b=>R.keep (G:=fun _=>False) (kF b) fun _ _ _ _ _ _ m=>m) tA3 ?_ ?_
 · refine aK ?_;refine pH3 0 (.pointer (some f)) ?_;refine pV3 0 4 ?_;refine pV3 1 5 ?_;refine pL3 2 6 (fun v g=>have g:Keep (AF i q o) w v:=kD g;(((g.bk n.out.at_.blk n.out.gp_af).cell 0).trans rfl:v.cell? f=some (.pointer (some i)))) ?_;refine pH3 0 (.pointer (some f)) ?_;refine pV3 4 8 ?_;refine pV3 5 9 ?_;refine pL3 6 10 (fun v g=>have g:Keep (AF i q o) w v:=kD g;((g.cell (p:=⟨f,2,none⟩) bu n.out.gp_af).trans Y:v.cell? ⟨f,2,none⟩=some (.slice (some j) z E))) ?_;refine pH3 1 (.int .i64 (l:Int)) ?_;refine pW3 7 11 8 12 ?_;refine pL3 9 13 (fun v g=>have g:Keep (AF i q o) w v:=kD g;((g.cell (p:=⟨j,l,none⟩) bt (n.out.ord_af (by rw [K.out];rfl))).trans ap:v.cell? ⟨j,l,none⟩=some (.int .i64 (b:Int)))) ?_;refine sC3 (fun _ v g _ _ _ _ V _ _ _ ab=>?_) ?_
   · replace g:Keep (AF i q o) w v:=kD g;have bL:_=_:=V 10 14 kR rfl;go_simp;exact ab _ _ (aE (bR.alloc nL _)) ⟨_,rfl,ke _ _ _,fun m=>by have au:=n.out.af_lt m;have av:=g.size;omega⟩
   refine sC3 (fun ar v g bn _ _ _ V _ _ _ ab=>?_) ?_
   · replace g:Keep (AF i q o) w v:=kD g;have bB:=bn rfl;have bN:_=_:=V 3 7 kR rfl;have bD:(nV (AF i q o) 3 #[(b:Int)] fun L=>.slice (some ⟨L,0,none⟩) 1 1) (ar (.tmp 15)) v:=V 11 15 kR rfl;obtain ⟨bg,bM,bo,bZ⟩:=bD;go_simp;refine (aDP (AF i q o) i bg b J Q v bB.arena a8.out bo oM).mono ?_;rintro e c2 ⟨rfl,bm,bv⟩
     exact ab _ _ (aT bv) (bm.mono fun a _ m=>by
        rcases m with m | m;exact .inl m
        · exact .inr (zAk g.size m))
   exact aC
 · intro ar al g V aH;replace g:Keep (AF i q o) w al:=kD g;obtain ⟨c1,aZ⟩:∃bE,(fun _ W=>ArenaE W (Gw (AF i q o) w.heap.size) i (J.set b false) (Q++ [b])) bE al:=aH 12 dC;simp only [zqq];clear V aH;obtain ⟨A,bC⟩:∃A,A=al:=⟨_,rfl⟩;subst bC;have a1:=g;have ay:=aZ;clear bf Y ap;have a5:=a1.bk n.out.at_.blk n.out.gp_af;have aW:=aA (w':=A) n.out.at_.lrow fun a x _ c=>a1.bk c (n.out.pair_af c);have a7:=aA (w':=A) n.out.at_.orow fun a x c T=>a1.bk T (n.out.ord_af c);rw [P.out,K.out,P.out] at a7;have Y:A.cell? ⟨f,2,none⟩=some (.slice (some j) z E):=(a5.cell 2).trans (by rw [K.out,P.out];rfl);have bU:=a5.lt;have aN:Keep y w A:=(kf y w).trans (a1.mono fun a _ m=>n.out.af m);have az:=ArenaE.mono ay (G:=fun a=>Gw (AF i q o) w.heap.size a/\a < A.heap.size) fun a c m=>⟨m,c⟩;have aL:=aAn 0 (some ⟨j,0,none⟩) z E l u A a7 a0 oM;obtain ⟨an,bc,be,b8,b3,am⟩:=hqq6 a5 aW a7 aN az aL;clear a5 aW a7 aN ay az aL a1 aZ g;go_wp2_with fail;refine am.out.mono ?_;rintro e X ⟨rfl,aR,U⟩;rw [show (Value.slice (some j) z E).ownBlock=some j from rfl] at U;have aj:∀a t x,t≠3->Bk A a t x->¬(some j=some a):=fun a t x a2 c e=>by obtain ⟨bJ,bp⟩:=fE be.out (show (Value.slice (some j) z E).ownBlock=some a from e);exact a2 (aP c bp).1
   have ad:¬(Gw (AF i q o) w.heap.size j/\j < A.heap.size):=fun m=>by have aq:b1.ownBlock=some j:=(by rw [K.out];rfl);rcases m.1 with m | m;exact n.out.ord_af aq m;have:=(n.out.at_.orow.lt j aq).2;omega
   have Z:=U.bk an.out (aj _ _ _ dC an.out);have aX:=aA (w':=X) bc.out fun a x _ c=>U.bk c (aj _ _ _ dC c);have aB:=b3.out.keep U fun a t x _ _ m e=>by injection e with e;subst e;exact ad m
   have br:y j:=n.out.fo j (by rw [K.out];rfl);have aO:Keep y w X:=b8.out.trans (U.mono fun a _ e=>by
    injection e with e;subst e;exact br)
   have Y:X.cell? ⟨f,2,none⟩=some (.slice (some j) z E):=(Z.cell 2).trans (by rw [K.out,P.out];rfl);have bO:=Z.frozen 2;have bV:=Z.lt;obtain ⟨ao,bd,b4,b9,ba,b6⟩:=hqq6 Z aX aB aO aR ad;clear Z aX aB aO aR ad aj U am;go_wp2_with fail;go_end0;have ah:Keep (fun a=>a=f) X (X.setCell ⟨f,2,none⟩ (.slice (some j) (z - 1) E)):=ka (F:=fun a=>a=f) (kf _ _) (p:=⟨f,2,none⟩) (.inl rfl) _;have ac:∀a t x,t≠120->Bk X a t x->¬(a=f):=fun a t x a2 c e=>by subst e;exact a2 (aP c ao.out).1
   obtain ⟨bQ,bG,bK,bF,bI,au,av,bh,bi,aw⟩:=b4.out.keep ah fun a t x a2 c _=>ac a t x (fun e=>by subst e;revert a2;decide) c;have s:=n.out;have aS:(b::aF u l).Perm u:=eV b7.out;have bA:=aS.nodup_iff.2 s.nd;obtain ⟨bx,bz⟩:=List.nodup_cons.1 bA;have aQ:∀d,d∈aF u l↔d∈u/\d≠b:=fun d=>by rw [<-aS.mem_iff,List.mem_cons];constructor;intro D;exact ⟨.inr D,fun e=>bx (by rw [<-e];exact D)⟩;rintro ⟨M | M,bj⟩;exact absurd M bj;exact M
   have bq:(aF u l).length=z - 1:=(by have:=dD u (k:=l) (by rw [P.out];exact a0);have:=P.out;omega);have aG:∀a,Gw (AF i q o) w.heap.size a/\a < A.heap.size->Gw y w.heap.size a:=fun a m=>by rcases m.1 with L | L;exact .inl (s.af L);exact .inr L
   have bw:b < J.length:=(zAc.1 a8.out).1;have aM:∀d,(J.set b false)[d]?=if d=b then some false else J[d]?:=fun d=>by
    rw [zBm];by_cases I:b=d
    · subst I;simp [bw]
    · rw [zBw I,zBw (fun e=>I e.symm)]
   refine ⟨rfl,⟨⟨i,b0,.slice (some j) (z - 1) E,_,_,aF u l,O,J.set b false,Q++ [b],⟨⟨ao.out.set 2 _,aA bd.out fun a x _ c=>ah.bk c (ac _ _ _ dC c),?_,au,av,bh,.inr fun e=>b6.out (aw j e.symm),fun d D=>s.at_.lt d ((aQ d).1 D).1,⟨zAp _,zAp _⟩⟩,.inl s.fp,.inl s.fa,fun a c=>.inl (s.fl a c),fun a c=>.inl (s.fo a (by rw [K.out];exact c)),fun a c=>aG a (bi a c),fun a c=>aG a (aw a c),bz,by rw [zAt];exact s.tkl,fun d=>?_,?_,fun d=>?_,s.sz⟩,(sJ _ _ _).symm⟩,?_,fun d D=>?_⟩,ka (F:=y) b9.out (p:=⟨f,2,none⟩) (.inl s.fp) _⟩;rw [bq];exact aA ba.out fun a x _ c=>ah.bk c (ac _ _ _ dC c)
   · rw [aM,aQ d,<-s.tkk d];by_cases I:d=b
     · simp [I]
     · simp [I]
   · rw [List.nodup_append];refine ⟨s.frn,by simp,fun d D b2 a3=>?_⟩;rw [List.mem_singleton] at a3;subst a3;intro e;subst e;have ax:=(s.frk d).1 D;have bl:=a8.out;rw [bl] at ax;cases ax
   · rw [aM,zCp,s.frk d,List.mem_singleton];by_cases I:d=b
     · simp [I]
     · simp [I]
   unfold aF;rw [List.pairwise_append];have ai:=bb.out;refine ⟨ai.sublist (List.take_sublist _ _),ai.sublist (List.drop_sublist _ _),fun d C b2 a3=>?_⟩;have:=List.pairwise_append.1 (show ((u.map fun b=>(aD O b,aI O b)).take l++(u.map fun b=>(aD O b,aI O b)).drop l).Pairwise (fun H a=>H.1 < a.1) by rw [zAu];exact ai);refine this.2.2 d C b2 ?_;rw [<-List.drop_drop] at a3;exact List.mem_of_mem_drop a3;refine b5.out d ?_;unfold aF at D;rcases zCp.1 D with M | M;exact List.mem_of_mem_take M;exact List.mem_of_mem_drop M
def aFT {a:List (Nat×Nat)} {b:Nat} (p:a.Pairwise (fun c d=>c.1 < d.1)) (o:b < a.length) (e:Nat×Nat):e∈aF a b↔e∈a/\e.1≠a[b].1:=by
 have i:(a[b]::aF a b).Perm a:=eV (zAa o);have q:(a[b]::aF a b).Pairwise (fun c d:Nat×Nat=>c.1≠d.1):=i.symm.pairwise (p.imp fun {c d} g=>Nat.ne_of_lt g) fun {c d} g f=>g f.symm;obtain ⟨k,s⟩:=List.pairwise_cons.1 q;constructor;intro j;exact ⟨i.subset (by simp [j]),fun f=>k e j f.symm⟩;rintro ⟨l,m⟩;rcases List.mem_cons.1 (i.symm.subset l) with rfl | n;exact absurd rfl m;exact n
def zJ (b:Nat->Prop) (i e d row:Nat) (j:List (Nat×Nat)) (w:World) (g:Ending) (w':World):Prop:=
 ∃(f:Int) (c:List (Nat×Nat)),g=.returned (.int .i64 f)/\(∀a,a∈c↔a∈j/\a.1≠row)/\PermE w' (Gw b w.heap.size) i e d c/\Keep b w w'
def aBY (z) (k p o row:Nat) (J w) (F:PermE w z k p o J):
 Calls prog 158 #[k,(row:Int)] w (zJ z k p o row J w):=by
 have s:=F;obtain ⟨⟨U,a0,a1,a2,Z,f,c,Y,T,b,rfl⟩,y,I⟩:=F;have E:=List.pairwise_map.1 y;have x:f.Pairwise (fun R C=>aD c R < aD c C):=E;have a5:=iK b.nd b.at_.lt;have a4:=b.sz;have d:=kW 0 k U a0 a1 a2 Z p o f c Y T row w b.at_ x oM;unfold zJ;by_cases j:∃a∈f,aD c a=row
 · rw [zBz j] at d;obtain ⟨a,v,n⟩:=(uB x row).2 j;obtain ⟨e,m⟩:∃e,(f.countP fun a=>decide (aD c a < row))=e:=⟨_,rfl⟩;rw [m] at d v;have D:=(zAc.1 v).1;obtain ⟨M,O,Q,A⟩:=hqq4 v n y s;clear b y I x E j s v n m;go_enter func158,ntmps158;go_wp2_with fail;refine d.mono ?_;rintro q w1 ⟨rfl,l⟩;have g:=lhd l;clear d l;go_wp2_with fail;have G:=A.out.below g.out;refine (tA z k p o e _ w1 G (by rw [zBc];exact D)).mono ?_;rintro q a6 ⟨rfl,H,n⟩;obtain ⟨K,P⟩:=hqq2 H n;clear G H n;go_wp2_with fail;go_ret;refine ⟨0,_,rfl,fun a3=>?_,K.out.mono fun C _ i=>?_,(kF g.out).trans P.out⟩
   · have X:e < (f.map fun a=>(aD c a,aI c a)).length:=(by rw [zBc];exact D);rw [aFT Q.out X];have V:((f.map fun a=>(aD c a,aI c a))[e]).1=row:=(by rw [List.getElem_map];have u:=M.out;rw [zAa D] at u;injection u with u;rw [u];exact O.out);rw [V]
   rcases i with i | i;exact .inl i;exact .inr (by have:=g.out.size;omega)
 · rw [zBy j] at d;obtain ⟨e,m⟩:∃e,(f.countP fun a=>decide (aD c a < row))=e:=⟨_,rfl⟩;rw [m] at d;obtain ⟨L,A⟩:=hqq2 j s;clear b y I x E j s m;go_enter func158,ntmps158;go_wp2_with fail;refine d.mono ?_;rintro q w1 ⟨rfl,l⟩;have g:=lhd l;clear d l;go_wp2_with fail;go_ret;refine ⟨7,_,rfl,fun a3=>?_,(A.out.below g.out).mono fun C _ i=>.inl i,kF g.out⟩;constructor;intro b;refine ⟨b,fun q=>?_⟩;obtain ⟨a,W,rfl⟩:=zAy.1 b;exact L.out ⟨a,W,q⟩;intro b;exact b.1
def aJ7 {b c a} (d:b < c) (e:b≠a) (f:c≠a):bB b a < bB c a:=by
 unfold bB;split <;> split <;> omega
def zD (g d s q b V w) (x:PermE w g d s q V) (a9:∀c,g c->c < w.heap.size) (aR:b < s) (aK:s<=100000) (b3:q<=100000):
 Calls prog 97 #[d,(b:Int)] w fun n w'=>n=.returned (.int .i64 0)/\(∃W:List (Nat×Nat),(∀i,i∈W↔i∈V/\i.1≠b)/\PermE w' (Gw g w.heap.size) d (s - 1) q (W.map fun i=>(bB i.1 b,i.2)))/\Keep g w w':=by
 obtain ⟨e,rfl⟩:∃e,s=e+1:=⟨s - 1,by omega⟩;rw [zBb];have aO:d < w.heap.size:=by obtain ⟨⟨E,z,L,M,K,v,k,J,D,o,_⟩,_⟩:=x;exact o.at_.blk.lt
 have O:w.cell? ⟨d,3,none⟩=some (.int .i64 ((e+1:Nat):Int)):=by obtain ⟨⟨E,z,L,M,K,v,k,J,D,o,_⟩,_⟩:=x;exact (o.at_.blk.cell 3).trans rfl
 have an:¬((b:Int)>=((e+1:Nat):Int)):=oM;have aS:¬e+1<=b:=oM;have aT:decide ((b:Int)>=((e+1:Nat):Int))=false:=zBy an;have b8:decide ((b:Int) < 0)=false:=by simp
 have aG:IntKind.i64.wrap (((e+1:Nat):Int) - 1)=(e:Int):=by rw [wI0];omega
 obtain ⟨C,P⟩:=eqx (e+1);rw [P] at O an aT aG x aK aR aS;obtain ⟨l,y⟩:=eqx (w.alloc (.cells #[(b:Int)] 3));have H:Below w.heap.size w l:=by rw [<-y];exact bR.alloc nL _
 have I:Bk l w.heap.size 3 #[(b:Int)]:=by rw [<-y];exact ke w _ _
 have aU:∀ao,(l.drewN ao).cell? w.heap.size=some (.int .i64 (b:Int)):=fun ao=>(I.cell 0).trans rfl;have aW:l.cell? w.heap.size=some (.int .i64 (b:Int)):=(I.cell 0).trans rfl;have aV:l.cell? ⟨d,3,none⟩=some (.int .i64 (C:Int)):=(H.cell (p:=⟨d,3,none⟩) aO).trans O;have ak:l.heap.size=w.heap.size+1:=by rw [<-y,sZ0]
 have b5:d < l.heap.size:=oM;have a6:=x.below H;obtain ⟨ar,ax,ay,az,av,aw,aE⟩:=hqq7 a6 y H I a9 P ak;clear x a6 y H I a9 P ak O;go_enter func97,ntmps97;go_wp2_with fail;rw [ax.out];go_quiet (fail)
 rename_i nq
 have b7:∀(a2:Fn) (first a1:Array Value) (w:World),(Instr.makeFunc a2 first a1).run prog w=.ok (.func a2 first a1) w:=fun _ _ _ _=>rfl;go_wp2_with fail;have a7:=ar.out.below (kn bR nq);have Q:=aBY g d C q b V (l.drewN nq) a7;unfold zJ at Q;refine Q.mono ?_;rintro n X ⟨aX,W,rfl,ai,aJ,T⟩;obtain ⟨⟨E,z,L,M,K,v,k,J,D,o,rfl⟩,aj,ac⟩:=aJ;have G:=o.at_;have aZ:X.cell? ⟨d,3,none⟩=some (.int .i64 (C:Int)):=(G.blk.cell 3).trans rfl;have b1:=G.blk.frozen 3;have b4:=G.blk.lt;have R:Bk X w.heap.size 3 #[(b:Int)]:=T.bk (az.out.drewN nq) fun n=>by have:=av.out _ n;omega
 have b9:X.cell? w.heap.size=some (.int .i64 (b:Int)):=(R.cell 0).trans rfl;obtain ⟨a,aC,Z,A,aA,a0⟩:=hqq6 o aj ac ai T R;clear o aj ac ai T R G Q a7 aU aW aV;go_wp2_with fail;have aa:=a.out.at_.set_rows e;have af:=a0.out.far (p:=⟨d,3,none⟩) (fun n=>by have b0:w.heap.size=d:=n;omega) (.int .i64 (e:Int));have al:∀c,z.ownBlock=some c->c≠w.heap.size:=fun c u n=>by subst n;obtain ⟨aY,aN⟩:=fE a.out.at_.lrow u;exact absurd (aP aN a0.out).1 dC
 have a5:∀j,j∈v->aD k j<=1000000000000/\aI k j<=1000000000000:=fun j aQ=>by have:=Z.out (aD k j,aI k j) (zAy.2 ⟨j,aQ,rfl⟩);have a4:aD k j < C:=this.1;have aH:aI k j < q:=this.2;omega
 have b6:=iK a.out.nd a.out.at_.lt;refine (zH 0 d E w.heap.size b z L M K e q v k J D _ aa a.out.nd (by have:=a.out.sz;omega) af al a5).mono ?_;rintro n ap ⟨rfl,ag,aq,U,ad,ab⟩;have ae:∀c,Gw g (l.drewN nq).heap.size c->Gw g w.heap.size c:=fun c m=>by rcases m with m | m;exact .inl m;exact .inr (by have:=aE.out;simp at m;omega)
 have ah:Keep g w ap:=((kF (kn ay.out nq)).trans aA.out).trans' ((ka (F:=Gw g (l.drewN nq).heap.size) (kf _ _) (p:=⟨d,3,none⟩) (.inl a.out.fp) _).trans (ag.mono fun c _ u=>a.out.fl c u)) fun c u m=>by rcases ae c m with a3 | a3;exact a3;omega
 have a8:PermE ap (Gw g w.heap.size) d e q ((v.map fun j=>(aD k j,aI k j)).map fun i=>(bB i.1 b,i.2)):=by
  refine PermE.mono (F:=Gw g (l.drewN nq).heap.size) ⟨⟨E,z,L,M,K,v,aq,J,D,⟨ab,a.out.fp,a.out.fa,a.out.fl,a.out.fo,a.out.ft,a.out.ff,a.out.nd,by rw [U];exact a.out.tkl,a.out.tkk,a.out.frn,a.out.frk,by rw [U];exact a.out.sz⟩,(aBa (f:=fun i=>(bB i.1 b,i.2)) ad).symm⟩,?_,fun i o=>?_⟩ fun c _ m=>ae c m;refine List.pairwise_map.2 (List.Pairwise.imp_of_mem (fun {aF c} aL u aM=>?_) aC.out);exact aJ7 aM ((A.out aF).1 aL).2 ((A.out c).1 u).2
  · obtain ⟨Y,am,rfl⟩:=zAy.1 o;have a4:=Z.out Y am;have aH:=((A.out Y).1 am).2;have b2:=aw.out;refine ⟨?_,a4.2⟩;show bB Y.1 b < e;unfold bB;split <;> omega
 obtain ⟨au,aB⟩:=hqq2 a8 ah;clear ah a8 ab ad ag U a5 al af aa;go_wp2_with fail;go_ret;exact ⟨rfl,⟨_,A.out,au.out⟩,aB.out⟩
def zE (k e E T c j w) (o:PermE w k e E T j) (ax:∀u,k u->u < w.heap.size) (bt:c < T) (bE:E<=100000) (ba:T<=100000) (az:∀b∈j,∀m∈j,b.2=m.2->b=m):
 Calls prog 98 #[e,(c:Int)] w fun d w'=>d=.returned (.int .i64 0)/\(∃Q:List (Nat×Nat),(∀b,b∈Q↔b∈j/\b.2≠c)/\PermE w' (Gw k w.heap.size) e E (T - 1) (Q.map fun b=>(b.1,bB b.2 c)))/\Keep k w w':=by
 obtain ⟨n,rfl⟩:∃n,T=n+1:=⟨T - 1,by omega⟩;rw [zBb];have bh:e < w.heap.size:=by obtain ⟨⟨y,v,C,D,A,q,i,z,x,a,_⟩,_⟩:=o;exact a.at_.blk.lt
 have a9:w.cell? ⟨e,4,none⟩=some (.int .i64 ((n+1:Nat):Int)):=by obtain ⟨⟨y,v,C,D,A,q,i,z,x,a,_⟩,_⟩:=o;exact (a.at_.blk.cell 4).trans rfl
 have aK:¬((c:Int)>=((n+1:Nat):Int)):=oM;have bu:¬n+1<=c:=oM;have bv:decide ((c:Int)>=((n+1:Nat):Int))=false:=zBy aK;have bI:decide ((c:Int) < 0)=false:=by simp
 have b6:IntKind.i64.wrap (((n+1:Nat):Int) - 1)=(n:Int):=by rw [wI0];omega
 obtain ⟨L,aa⟩:=eqx (n+1);rw [aa] at a9 aK bv b6 o ba bt bu;obtain ⟨H,Y⟩:=eqx (w.alloc (.cells #[(c:Int)] 3));have a4:Below w.heap.size w H:=by rw [<-Y];exact bR.alloc nL _
 have a5:Bk H w.heap.size 3 #[(c:Int)]:=by rw [<-Y];exact ke w _ _
 have aL:∀a6,(H.drewN a6).cell? w.heap.size=some (.int .i64 (c:Int)):=fun a6=>(a5.cell 0).trans rfl;have aN:H.cell? w.heap.size=some (.int .i64 (c:Int)):=(a5.cell 0).trans rfl;have aM:H.cell? ⟨e,4,none⟩=some (.int .i64 (L:Int)):=(a4.cell (p:=⟨e,4,none⟩) bh).trans a9;have aG:H.heap.size=w.heap.size+1:=by rw [<-Y,sZ0]
 have bF:e < H.heap.size:=oM;have au:=o.below a4;obtain ⟨aQ,aV,ai,aj,aT,aU,a8,aY⟩:=hqq8 au Y a4 a5 ax aa aG az;clear o au Y a4 a5 ax aa aG a9 az;go_enter func98,ntmps98;go_wp2_with fail;rw [aV.out];go_quiet (fail)
 rename_i nq
 have bH:∀(ao:Fn) (first an:Array Value) (w:World),(Instr.makeFunc ao first an).run prog w=.ok (.func ao first an) w:=fun _ _ _ _=>rfl;go_wp2_with fail;have W:=aQ.out.below (kn bR nq);have ad:Calls prog 85 #[e,(c:Int)] (H.drewN nq) fun d w'=>Below (H.drewN nq).heap.size (H.drewN nq) w'/\((d=.returned (.int .i64 (-1))/\∀b∈j,b.2≠c)∨∃M b,d=.returned (.int .i64 ((M:Nat):Int))/\j[M]?=some b/\b.2=c):=by
  obtain ⟨⟨y,v,C,D,A,q,i,z,x,a,rfl⟩,aE,ab⟩:=W;have bm:=iK a.nd a.at_.lt;have bD:=a.sz;refine (jO 0 e y v C D A E L q i z x c _ a.at_ oM).mono ?_;rintro d w' ⟨rfl,U⟩;refine ⟨U,?_⟩;by_cases ac:∃g∈q,aI i g=c
  · obtain ⟨a6,b,bn,bq,br⟩:=uS (p:=fun g=>decide (aI i g=c)) (l:=q) (by obtain ⟨g,bj,af⟩:=ac;exact ⟨g,bj,zBz af⟩) 0;rw [bn,zBi];exact .inr ⟨a6,_,rfl,by rw [zAf,bq];rfl,of_decide_eq_true br⟩
  rw [lG (p:=fun g=>decide (aI i g=c)) (l:=q) (fun g a1=>zBy fun d=>ac ⟨g,a1,d⟩) 0];refine .inl ⟨rfl,fun b a=>?_⟩;obtain ⟨g,a1,rfl⟩:=zAy.1 a;exact fun d=>ac ⟨g,a1,d⟩
 have aC:∀s (Q:List (Nat×Nat)),(∀b,b∈Q↔b∈j/\b.2≠c)->PermE s (Gw k w.heap.size) e E L Q->Keep k w s->Bk s w.heap.size 3 #[(c:Int)]->∃y v C D A q i z x,PermX s (Gw k w.heap.size) e y v C D A E L q i z x/\Calls prog 159 #[e,.func (.func 162) #[] #[w.heap.size]] (s.setCell ⟨e,4,none⟩ (.int .i64 (n:Int))) fun d w'=>d=.returned (.tuple #[])/\PermE w' (Gw k w.heap.size) e E n (Q.map fun b=>(b.1,bB b.2 c))/\Keep k w w':=by
  rintro s Q a3 ⟨⟨y,v,C,D,A,q,i,z,x,a,rfl⟩,aE,ab⟩ af K;refine ⟨y,v,C,D,A,q,i,z,x,a,?_⟩;have bc:=a.at_.set_places n;have a0:=K.far (p:=⟨e,4,none⟩) (fun d=>by have bA:w.heap.size=e:=d;omega) (.int .i64 (n:Int));have bp:∀u,v.ownBlock=some u->u≠w.heap.size:=fun u U d=>by subst d;obtain ⟨bz,be⟩:=fE a.at_.lrow U;exact absurd (aP be K).1 dC
  have b9:∀g,g∈q->aD i g<=1000000000000/\aI i g<=1000000000000:=fun g a1=>by have:=ab (aD i g,aI i g) (zAy.2 ⟨g,a1,rfl⟩);have aq:aD i g < E:=this.1;have b8:aI i g < L:=this.2;omega
  have bm:=iK a.nd a.at_.lt;refine (zI 0 e y w.heap.size c v C D A E n q i z x _ bc a.nd (by have:=a.sz;omega) a0 bp b9).mono ?_;rintro d R ⟨rfl,bl,aO,aB,bg,bd⟩;refine ⟨rfl,⟨⟨y,v,C,D,A,q,aO,z,x,⟨bd,a.fp,a.fa,a.fl,a.fo,a.ft,a.ff,a.nd,by rw [aB];exact a.tkl,a.tkk,a.frn,a.frk,by rw [aB];exact a.sz⟩,(aBa (f:=fun b=>(b.1,bB b.2 c)) bg).symm⟩,List.pairwise_map.2 (aE.imp fun {bx u} bb=>bb),fun b bs=>?_⟩,?_⟩
  · obtain ⟨m,P,rfl⟩:=zAy.1 bs;have aq:=ab m P;have b8:=((a3 m).1 P).2;have bC:=aU.out;refine ⟨aq.1,?_⟩;show bB m.2 c < n;unfold bB;split <;> omega
  · refine af.trans' ((ka (F:=Gw k w.heap.size) (kf _ _) (p:=⟨e,4,none⟩) (.inl a.fp) _).trans (bl.mono fun u _ U=>a.fl u U)) fun u U I=>by rcases I with ap | ap;exact ap;omega
 have al:=lhd aC;clear aC;refine ad.mono ?_;rintro d s ⟨J,⟨rfl,ag⟩|⟨M,b,rfl,ah,aJ⟩⟩
 · have K:Bk s w.heap.size 3 #[(c:Int)]:=(aj.out.drewN nq).below J (by have:=a8.out;simp;omega);have a2:Keep k w s:=(kF (kn ai.out nq)).trans (kF J);have O:=(W.below J).mono (G:=Gw k w.heap.size) fun u _ I=>.inl I;obtain ⟨y,v,C,D,A,q,i,z,x,a,Z⟩:=al.out s j (fun b=>⟨fun o=>⟨o,ag b o⟩,fun o=>o.1⟩) O a2 K;have b5:s.cell? ⟨e,4,none⟩=some (.int .i64 (L:Int)):=(a.at_.blk.cell 4).trans rfl;have b7:=a.at_.blk.frozen 4;have bi:=a.at_.blk.lt;have bw:s.cell? w.heap.size=some (.int .i64 (c:Int)):=(K.cell 0).trans rfl;obtain ⟨a7,b3⟩:=hqq2 Z ag;clear Z ag a O a2 K J W ad aL aN aM;go_wp2_with fail;refine a7.out.mono ?_;rintro d R ⟨rfl,X,V⟩;obtain ⟨aR,b0⟩:=hqq2 X V;clear X V;go_wp2_with fail;go_ret;exact ⟨rfl,⟨j,fun b=>⟨fun o=>⟨o,b3.out b o⟩,fun o=>o.1⟩,aR.out⟩,b0.out⟩
 · have K:Bk s w.heap.size 3 #[(c:Int)]:=(aj.out.drewN nq).below J (by have:=a8.out;simp;omega);have O:=W.below J;have ae:=(zAc.1 ah).1;have ay:=tA k e E L M j s O ae;have b4:=lhd O.2.1;have aZ:=lhd (fun m (P:m∈j) b (a:b∈j) (d:m.1=b.1)=>O.inj P a d);have bG:decide ((M:Int)>=0)=true:=(by simp);have bo:=J.size;obtain ⟨ak,am,aW,aX⟩:=hqq4 ah aJ J K;clear ah aJ K J O W ad aL aN aM;go_wp2_with fail;refine ay.mono ?_;rintro d R ⟨rfl,X,V⟩;have a0:Bk R w.heap.size 3 #[(c:Int)]:=V.bk aX.out fun d=>by have:=aT.out _ d;omega
   have a2:Keep k w R:=((kF (kn ai.out nq)).trans (kF aW.out)).trans V;have a3:∀m,m∈aF j M↔m∈j/\m.2≠c:=fun m=>by
    rw [aFT b4.out ae];have bf:j[M]=b:=(by have ar:=ak.out;rw [zAa ae] at ar;injection ar);rw [bf];have aH:b∈j:=zAd ak.out;refine and_congr_right fun P=>not_congr ⟨fun d=>?_,fun d=>?_⟩;rw [aZ.out m P b aH d];exact am.out
    · rw [aY.out m P b aH (by rw [d,am.out])]
   have av:=X.mono (G:=Gw k w.heap.size) fun u _ I=>by rcases I with I | I;exact .inl I;exact .inr (by have:=a8.out;simp at bo;omega)
   obtain ⟨y,v,C,D,A,q,i,z,x,a,Z⟩:=al.out R (aF j M) a3 av a2 a0;have b5:R.cell? ⟨e,4,none⟩=some (.int .i64 (L:Int)):=(a.at_.blk.cell 4).trans rfl;have b7:=a.at_.blk.frozen 4;have bi:=a.at_.blk.lt;have bw:R.cell? w.heap.size=some (.int .i64 (c:Int)):=(a0.cell 0).trans rfl;obtain ⟨a7,b2⟩:=hqq2 Z a3;clear Z a3 a av X a2 a0 V ay;go_wp2_with fail;refine a7.out.mono ?_;rintro d bJ ⟨rfl,aw,aA⟩;obtain ⟨aS,b1⟩:=hqq2 aw aA;clear aw aA;go_wp2_with fail;go_ret;exact ⟨rfl,⟨_,b2.out,aS.out⟩,b1.out⟩
def TabW.keepLF {w w' B own own'} (a:TabW w) (d:LF B w w' own own') (f:1 < B):TabW w':=
 a.below (B:=1+1) (d.keep.to_below (by have:=a.pos;omega) fun b g c=>by have e:B<=b:=c;omega) oM
def aI7 {b:List Nat} {d c a e:Nat} (l:b[c]?=some e) (m:b[d]?=some a) (n:d≠c):b.Perm (e::aF (b.set c a) d):=by
 have g:=wV (s:=a) l;have i:(b.set c a)[d]?=some a:=by rw [List.getElem?_set_ne (fun f=>n f.symm),m]
 have j:=eV i;have k:(a::b).Perm (e::a::aF (b.set c a) d):=g.symm.trans (j.symm.cons e);exact (k.trans (List.Perm.swap a e _)).cons_inv
def xJ {a b} (c:b≠a):bB b a=ush a b:=by
 unfold bB ush;split <;> split <;> omega
def aDN (w B own gl t rate at_) (d7:LiveE w B own gl t rate) (bI:TabW w) (bu:1 < B) (de:t.length<=127) (A:at_ < t.length) (ci:1<=rate) (dg:rate<=64):
 Calls prog 54 #[gl,(at_:Int)] w (aB2 w B own gl (aF t at_) rate):=by
 obtain ⟨gk,u,dp,a2,d,x,n,b0,aQ⟩:=d7;obtain ⟨N,a6⟩:∃N,t.length=N+1:=⟨t.length - 1,by omega⟩;have bD:=a6;rw [a6] at n aQ de A;have A:at_<=N:=oM;obtain ⟨a5,bJ,dh⟩:=n.len a6;have F:=eP t;rw [a6] at F;obtain ⟨S,E⟩:=eqx (aJ t);have bH:aJ (aF t at_)=aF S at_:=by rw [aHX t oM,E]
 have aM:=F.len;have aL:∀a∈S,a < 257:=by rw [<-E];exact fB t
 rw [E] at F a5 aM;have G:=n.suf;rw [E] at G;have X:∀i,i<=N+1->i∈d:=fun i dH=>G.mem oM;have aV:d.Nodup:=G.nodup;have ax:d.Perm (List.range (N+1+1)):=by have:=G.perm;rwa [aM] at this
 have aw:=aIL G F (at_:=at_) A;obtain ⟨cm,Y⟩:=aIi ax (at_:=at_) A;have D:=aGI ax F (at_:=at_) A;have aa:ro d at_≠ro d (at_+1):=fun b=>by have:=fC (X at_ oM) (X (at_+1) oM) b;omega
 have bR:=oE G F (show 0 < at_+1 by omega) (show at_+1<=N+1 by omega);rw [zBb] at bR;obtain ⟨W,M⟩:=bR;obtain ⟨c,a9⟩:=eqx (ro d at_);obtain ⟨s,ar⟩:=eqx (ro d (at_+1));have ab:d[c]?=some at_:=by rw [<-a9];exact cE (X at_ oM)
 have cj:d[s]?=some (at_+1):=by rw [<-ar];exact cE (X (at_+1) oM)
 have c5:c < N+2:=by have:=(zAc.1 ab).1;omega
 have bQ:s < N+2:=by have:=(zAc.1 cj).1;omega
 obtain ⟨q,bG⟩:=eqx ((aF d (ro d at_)).map (ush at_));rw [bG] at aw cm Y D;rw [a9] at Y D aa W;rw [ar] at D aa W M;obtain ⟨l,C⟩:=eqx (aH S d);rw [C] at D a5 W M;obtain ⟨y,b3⟩:=eqx (bM S at_);rw [b3] at D;obtain ⟨J,bS⟩:=eqx (S.getD at_ 0);rw [bS] at W M;have a4:l[c]?=some y:=by rw [<-C,<-b3];unfold aH;rw [zAf,ab];rfl
 have V:∀a∈l,a < 257:=by rw [<-C];exact dR aL
 have di:y < 257:=V y (zAd a4);have dc:J < 257:=V J (zAd M);have O:=n.live;rw [E,C] at O;have Z:=n.tal;rw [E,C] at Z;have cp:∀a∈l.set s y,a < 257:=fun a e=>by rcases List.mem_or_eq_of_mem_set e with j | j;exact V a j;omega
 have cq:(l.set s y)[c]?=some y:=by rw [List.getElem?_set_ne (fun b=>aa b.symm),a4]
 have cr:a2.Perm (J::aH (aF S at_) q):=by rw [D];exact Z.trans (aI7 M a4 aa)
 have au:∀a∈x,(a.1≠c↔a.2≠at_):=fun a e=>by have j:=n.right a e;constructor;intro T b;rw [b] at j;have:=gJ aV j;exact T (by rw [<-this,a9]);intro T b;rw [b,ab] at j;injection j with j;exact T j.symm
 have ck:=n.rinj;have ch:∀a∈x,a.1≠c->q[bB a.1 c]?=some (bB a.2 at_):=fun a e df=>by
  have j:=n.right a e;have T:=(au a e).1 df;have U:a.2<=N+1:=by have:=ax.mem_iff.1 (zAd j);rw [zCj] at this;omega
  have bt:ush at_ a.2<=N:=by unfold ush;split <;> omega
  have aq:=Y (ush at_ a.2) bt;rw [aEg T,gJ aV j] at aq;rw [xJ T,<-aq];exact cE (aw.mem.2 bt)
 have cf:∀p,Smp x p->p<=N+1:=fun p ⟨a,e,b⟩=>by have:=(O.perm.2.2 a e).2;omega
 have cd:=fun (S':Nat->Prop) (d9:∀i,S' i↔∃p,Smp x p/\p≠at_/\i=ush at_ p)=>aEs aQ b0 cf ci A d9;have bT:=O.bnd;obtain ⟨H,L⟩:∃H:Int,(if at_=0 then -1 else ((ro d (at_ - 1):Nat):Int))=H:=⟨_,rfl⟩;have bN:∀Q,LiveM Q B own gl gk u rate 0 (N+1+1) (N+1+1) l a2 x->Calls prog 92 #[gl,(at_:Int),(c:Int)] Q fun b w'=>b=.returned (.int .i64 H)/\VB B Q w':=fun Q aq=>by by_cases m:at_=0;rw [zBx m] at L;subst m L;refine (oH c Q gl).mono ?_;rintro b w' ⟨rfl,rfl⟩;exact ⟨rfl,VisK.refl _ _⟩;rw [zBw m] at L;obtain ⟨b1,b2⟩:=oE G F (show 0 < at_ by omega) oM;rw [C,a9] at b1 b2;have:=qY at_ c (S.getD (at_ - 1) 0) aq oM b2 V oM oM;rw [lX Z,b1,L] at this;exact this
 have bK:aBb H (c:Int)=aOf q at_:=by
  rw [<-L];unfold aOf;by_cases m:at_=0
  · rw [zBx m,zBx m,aCN]
  · rw [zBw m,zBw m,lV];have U:=Y (at_ - 1) oM;rw [show sh at_ (at_ - 1)=at_ - 1 by unfold sh;rw [zBx oM]] at U;rw [U]
 have bW:ro q at_=bB s c:=by have U:=Y at_ A;rw [show sh at_ at_=at_+1 by unfold sh;rw [zBw oM],ar] at U;exact U
 have da:-1000000<=H/\H<=1000000:=by rw [<-L];by_cases m:at_=0;rw [zBx m];omega;rw [zBw m];have dJ:ro d (at_ - 1) < d.length:=List.idxOf_lt_length_iff.2 (X (at_ - 1) oM);omega
 have cb:at_≠0->∃a∈x,a.1≠c:=fun d8=>by obtain ⟨a,e,b⟩:=b0;exact ⟨a,e,(au a e).2 oM⟩
 have aT:=cD B gl l (N+1) w (O.g Z).lvw a5 oM;have d4:IntKind.i64.wrap (((N+1:Nat):Int) - 1)=(N:Int):=by rw [wI0];omega
 obtain ⟨cX,d1,bg,bp,br,ag,cF,cG,z⟩:=hqq9 n.right n.suf O.blk O Z bD E bH a5;obtain ⟨cJ,af,cC,aB,cL,cW,cZ,d0,cB⟩:=hqq9 bJ V a4 M W ab cp cq D;obtain ⟨d2,cU,aE,cV,cS,cR,cK,cM,bf⟩:=hqq9 cr ch au ck cd aw bK bW bN;obtain ⟨cQ,cH,cA,dC,cI⟩:=hqq5 cb aL C bT bI;have db:(at_:Int)<=(N:Int):=oM;obtain ⟨dE,aK⟩:=eqx (N+1);rw [aK] at aT d4;have dA:=lhd aK;unfold aB2;clear n O Z a6 bD E bH a5 bJ V a4 ab cp cq D cr ch cd aw bK bN aL aQ b0 G X F ax aV bG b3 dh aM cf a9 L C bT bI au ck bW cb W M ar cj bS cm Y aa aK;go_enter func54,ntmps54;go_wp2_with fail;refine aT.mono ?_;clear aT;rintro b w1 ⟨rfl,rfl⟩;go_wp2_with fail;refine (aCb gl _ _ _ dp (at_:Int) (N:Int) w bg.out oM db).mono ?_;rintro b w1 ⟨rfl,rfl⟩;obtain ⟨c6,bX⟩:=bp.out.setMv 0;obtain ⟨ai,aC⟩:=hqq2 c6 bX;clear c6 bX bg bp;generalize w.setCell ⟨gl,3,none⟩ (.int .i64 0)=w1 at ai aC⊢;have cn:Calls prog 58 #[gl,(at_:Int)] w1 fun b w'=>b=.returned (.int .i64 (c:Int))/\VB B w1 w':=by have dd:=ai.out.g br.out;exact gG B gl gk u rate t d x c at_ w1 (by rw [ag.out,cF.out];rw [cA.out];exact dd) cX.out d1.out (by rw [ag.out];omega) cW.out
 go_wp2_with fail;refine cn.mono ?_;clear cn;rintro b dt ⟨rfl,b5⟩;have aj:=lhd (ai.out.vis b5.1);have aD:=lhd (aC.out.trans (LF.of_vb (own:=own) b5));clear b5 ai aC;have o:=aj.out.blk.cell 0;have cc:=qV B gk l s c J dt (aj.out.walk.at br.out) aB.out cL.out af.out (by rw [z.out];omega) (cI.out.keepLF aD.out bu) bu;go_wp2_with fail;refine cc.mono ?_;clear cc;rintro b du ⟨rfl,b6⟩;have aG:=lhd (aj.out.vis b6.1);have bh:=lhd (aD.out.trans (LF.of_vb (own:=own) b6));clear b6 o aj aD;have bL:=bf.out du aG.out;clear bf;go_wp2_with fail;refine bL.mono ?_;clear bL;rintro b Q ⟨rfl,b7⟩;have ak:=lhd (aG.out.vis b7.1);have bi:=lhd (bh.out.trans (LF.of_vb (own:=own) b7));clear b7 aG bh;obtain ⟨d5,dF,a8,ac⟩:=ak.out.gw;have o:=ak.out.blk.cell 0;have P:=a8.cell 0;have a7:=eI B d5 l s J Q ac (by rw [z.out];exact bQ) (by have a3:=aB.out;rw [zAa (by rw [z.out];exact bQ)] at a3;injection a3) af.out (by rw [z.out];omega);clear a8 ac;go_wp2_with fail;refine a7.mono ?_;clear a7;rintro b dv ⟨rfl,b8⟩;have al:=lhd (ak.out.vis b8.1);have ah:=lhd (bi.out.trans (LF.of_vb (own:=own) b8));clear b8 o P ak bi;obtain ⟨d6,dG,a8,ac⟩:=al.out.gw;have o:=al.out.blk.cell 0;have P:=a8.cell 0;have a7:=eI B d6 l c y dv ac (by rw [z.out];exact c5) (by have a3:=cC.out;rw [zAa (by rw [z.out];exact c5)] at a3;injection a3) af.out (by rw [z.out];omega);clear a8 ac;go_wp2_with fail;refine a7.mono ?_;clear a7;rintro b dw ⟨rfl,b9⟩;have am:=lhd (al.out.vis b9.1);have bj:=lhd (ah.out.trans (LF.of_vb (own:=own) b9));clear b9 o P al ah;have o:=am.out.blk.cell 0;have bU:=kU B gk own l a2 s J y dw am.out.walk aB.out di af.out (by rw [z.out];omega);go_wp2_with fail;refine bU.mono ?_;clear bU;rintro b dx ⟨rfl,own1,bv,bz⟩;obtain ⟨c7,bZ⟩:=am.out.walkOp bv bz;obtain ⟨an,bk⟩:=hqq2 c7 (bj.out.trans bZ);clear c7 bZ bv bz o am bj;have o:=an.out.blk.cell 0;have hcut:=iE B gk own1 (l.set s y) a2 c y dx an.out.walk d0.out cZ.out (by rw [zAt,z.out];omega);go_wp2_with fail;refine hcut.mono ?_;clear hcut;rintro b dy ⟨rfl,bb,bw,bA⟩;obtain ⟨c8,c0⟩:=an.out.walkOp bw bA;obtain ⟨ao,bl⟩:=hqq2 c8 (bk.out.trans c0);clear c8 c0 bw bA o an bk;have o:=ao.out.blk.cell 0;have bV:=mF B gk bb _ a2 (aH (aF S at_) q) J dy ao.out.walk d2.out dc (by rw [cJ.out];omega);go_wp2_with fail;refine bV.mono ?_;clear bV;rintro b be ⟨rfl,bx,bC⟩;obtain ⟨c9,c1⟩:=ao.out.walkOp bx bC;obtain ⟨a0,bm⟩:=hqq2 c9 (bl.out.trans c1);clear c9 c1 bx bC o ao bl;have P:be.cell? ⟨gl,1,none⟩=some (.pointer (some u)):=(a0.out.blk.cell 1).trans rfl;have bO:=a0.out.bnd;have cl:=zD (fun I=>bb I=1) u (N+1+1) (N+1+1) c x be a0.out.perm (fun I b=>(bO I oM).2) oM oM oM;clear bO;go_wp2_with fail;refine cl.mono ?_;clear cl;rintro b az ⟨rfl,⟨dK,ca,bE⟩,c3⟩;obtain ⟨aR,aN⟩:=a0.out.permOp bE c3;obtain ⟨cu,aY⟩:=eqx (dB bb be.heap.size az.heap.size 1);rw [aY,zBb] at aR;rw [aY] at aN;obtain ⟨a1,bn,ap⟩:=hqq3 aR (bm.out.trans aN) ca;clear aR aN bE c3 P a0 bm aY ca;have P:az.cell? ⟨gl,1,none⟩=some (.pointer (some u)):=(a1.out.blk.cell 1).trans rfl;have bP:=a1.out.bnd;have cg:=zE (fun I=>cu I=1) u (N+1) (N+1+1) at_ _ az a1.out.perm (fun I b=>(bP I oM).2) oM oM oM (fun a e cy dn b=>by
  obtain ⟨cx,dj,rfl⟩:=zAy.1 e;obtain ⟨cz,dl,rfl⟩:=zAy.1 dn;rw [cV.out cx ((ap.out cx).1 dj).1 cz ((ap.out cz).1 dl).1 b])
 clear bP;go_wp2_with fail;refine cg.mono ?_;clear cg;rintro b aA ⟨rfl,⟨bc,aU,bF⟩,c4⟩;obtain ⟨aS,aO⟩:=a1.out.permOp bF c4;obtain ⟨dq,aZ⟩:=eqx (dB cu az.heap.size aA.heap.size 1);rw [aZ,zBb] at aS;rw [aZ] at aO;have av:∀R,R∈bc.map (fun a=>(a.1,bB a.2 at_))↔∃a∈x,a.1≠c/\R=(bB a.1 c,bB a.2 at_):=fun R=>by
  constructor;intro ae;obtain ⟨cy,dk,rfl⟩:=zAy.1 ae;obtain ⟨dm,dI⟩:=(aU cy).1 dk;obtain ⟨a,e,rfl⟩:=zAy.1 dm;obtain ⟨f,v⟩:=(ap.out a).1 e;exact ⟨a,f,v,rfl⟩
  · rintro ⟨a,f,v,rfl⟩;refine zAy.2 ⟨(bB a.1 c,a.2),(aU _).2 ⟨zAy.2 ⟨a,(ap.out a).2 ⟨f,v⟩,rfl⟩,(aE.out a f).1 v⟩,rfl⟩
 have ce:∀i,Smp (bc.map (fun a=>(a.1,bB a.2 at_))) i↔∃p,Smp x p/\p≠at_/\i=ush at_ p:=fun i=>by constructor;rintro ⟨R,ae,rfl⟩;obtain ⟨a,f,v,rfl⟩:=(av R).1 ae;have ad:=(aE.out a f).1 v;exact ⟨a.2,⟨a,f,rfl⟩,ad,xJ ad⟩;rintro ⟨_,⟨a,f,rfl⟩,ad,rfl⟩;exact ⟨_,(av _).2 ⟨a,f,(aE.out a f).2 ad,rfl⟩,xJ ad⟩
 obtain ⟨cP,cN,bq,cT⟩:=hqq4 aS (bn.out.trans aO) av ce;clear aS aO bF c4 P a1 bn aZ av ce aU;have aW:=mI (s:Int) (c:Int) aA oM;rw [lV] at aW;have aX:=mI H (c:Int) aA da;rw [cK.out] at aX;go_wp2_with fail;refine aW.mono ?_;clear aW;rintro b dz ⟨rfl,rfl⟩;go_wp2_with fail;refine aX.mono ?_;clear aX;rintro b dz ⟨rfl,rfl⟩;have ay:=fA w aA B own dq gl gk u rate 0 (aF S at_) (aH (aF S at_) q) N at_ q (bc.map (fun a=>(a.1,bB a.2 at_))) _ ⟨cR.out,by have:=cP.out;rw [<-cB.out] at this;exact this,List.Perm.refl _,fun R ae=>by
  obtain ⟨a,f,v,rfl⟩:=(bq.out R).1 ae;exact cU.out a f v,fun i=>Iff.rfl,fun d8 b=>by
  obtain ⟨a,f,v⟩:=cQ.out oM;have:=(bq.out _).2 ⟨a,f,v,rfl⟩;rw [b] at this;exact absurd this List.not_mem_nil,cN.out⟩ A oM (pE cH.out)
 rw [cM.out] at ay;unfold jC at ay;go_wp2_with fail;refine ay.mono ?_;clear ay;rintro b cw ⟨rfl,cv,ba,aI,bd,K⟩;have b4:(aF t at_).length=N:=by have:=dD t (k:=at_) (by rw [ag.out];omega);have:=ag.out;omega
 have cs:TxM cw B cv gl gk u rate ba (aJ (aF t at_)) (aH (aF S at_) q) N aI bd:=by rw [cG.out];exact ⟨K.near.sorted,K.live,K.tal,K.right⟩
 have aP:=aDQ cw B cv gl gk u rate ba (aF t at_) (aH (aF S at_) q) N at_ aI bd cs b4 oM A ci dg (cS.out (Smp bd) fun i=>(K.plc i).trans (cT.out i));unfold tG at aP;obtain ⟨bo,bs⟩:=hqq2 K.lf b4;clear cs b4 K;go_wp2_with fail;refine aP.mono ?_;clear aP;rintro b dL ⟨rfl,dr,ds,ct,co,c2,bY⟩;obtain ⟨d3,cY,cO,ah⟩:=hqq4 ct co c2 (bo.out.trans bY);clear ct co c2 bY bo;go_wp2_with fail;go_ret;exact ⟨rfl,dr,⟨gk,u,ba,aH (aF S at_) q,aI,ds,by rw [bs.out];exact d3.out,cY.out,by rw [bs.out];exact cO.out⟩,ah.out⟩
def aGl {b:List Nat} {c a d:Nat} (e:b[c]?=some d):(b.set c a).Perm (a::aF b c):=by
 have f:=wV (s:=a) e;have g:=(eV e).symm.cons a;have i:(d::b.set c a).Perm (d::a::aF b c):=(f.trans g).trans (List.Perm.swap d a _);exact i.cons_inv
def aGT {c:List Nat} {b a f k l:Nat} (g:c[a]?=some k) (i:c[b]?=some l) (m:b≠a):(aF (c.set a f) b)[bB a b]?=some f:=by
 have j:=(zAc.1 i).1;have e:=(zAc.1 g).1;rw [eH _ (by rw [zAt];exact j)];unfold bB;by_cases d:a > b
 · rw [zBx d,zBw oM,show a - 1+1=a by omega,List.getElem?_set_self e]
 · rw [zBw d,zBx oM,List.getElem?_set_self e]
def aEC {c:List Nat} {d row at_:Nat} {n:List (Nat×Nat)} (i:c.Nodup) (g:c[d]?=some at_) (p:row < c.length) (o:∀b∈n,c[b.1]?=some b.2):∀b∈n.map (fun b=>(mvR d row b.1,b.2)),(aV (aF c d) row at_)[b.1]?=some b.2:=fun b q=>by
 obtain ⟨a,s,rfl⟩:=zAy.1 q;have m:=o a s;have j:ro c a.2=a.1:=gJ i m;have k:=zAd m;have l:=gJ i g;obtain ⟨v,x,y⟩:=vY i (t:=row) g p;show (aV (aF c d) row at_)[mvR d row a.1]?=some a.2;have u:mvR d row a.1=ro (aV (aF c d) row at_) a.2:=by
  unfold mvR;by_cases f:a.1=d
  · have e:a.2=at_:=fC k (zAd g) (by rw [j,f,l]);rw [zBx f,e,x]
  · have e:a.2≠at_:=fun e=>f (by rw [<-j,e,l]);rw [zBw f,y _ k e,j]
 rw [u];exact cE (v.mem_iff.2 k)
def aJA (w B own gl t rate at_ o) (dP:LiveE w B own gl t rate) (cY:TabW w) (cP:1 < B) (dW:t.length<=127) (bJ:at_ < t.length) (ed:1<=rate) (ee:rate<=64):
 Calls prog 55 #[gl,(at_:Int),.int .u8 (o.toNat:Int)] w (aB2 w B own gl (t.set at_ o) rate):=by
 obtain ⟨gk,v,e1,b6,J,E,d,ch,c7⟩:=dP;obtain ⟨N,bn⟩:∃N,t.length=N+1:=⟨t.length - 1,by omega⟩;have cW:=bn;rw [bn] at d c7 dW bJ;have bJ:at_<=N:=oM;obtain ⟨bl,cZ,dX⟩:=d.len bn;have aA:=eP t;rw [bn] at aA;obtain ⟨e,cg⟩:=eqx (o.toNat+1);have bN:e < 257:=by have:=o.toNat_lt;omega
 have dY:0 < e:=oM;obtain ⟨S,aq⟩:=eqx (aJ t);have c0:aJ (t.set at_ o)=S.set at_ e:=by rw [aHV t o oM,aq,cg]
 have c2:=aA.len;have c1:∀i∈S,i < 257:=by rw [<-aq];exact fB t
 rw [aq] at aA bl c2;have aL:=d.suf;rw [aq] at aL;have aS:∀j,j<=N+1->j∈J:=fun j ec=>aL.mem oM;have ca:J.Nodup:=aL.nodup;have dm:J.Perm (List.range (N+1+1)):=by have:=aL.perm;rwa [c2] at this
 have bq:ro J at_≠ro J (at_+1):=fun b=>by have:=fC (aS at_ oM) (aS (at_+1) oM) b;omega
 have d4:=oE aL aA (show 0 < at_+1 by omega) (show at_+1<=N+1 by omega);rw [zBb] at d4;obtain ⟨b9,ao⟩:=d4;have bc:=fun n row cL=>aJV (s:=e) (n0:=n) (row:=row) (a:=cL) aL aA bJ dY;have bm:=fun row=>aGG (S:=S) (s:=e) (row:=row) dm aA bJ;obtain ⟨f,bp⟩:=eqx (ro J at_);obtain ⟨l,bK⟩:=eqx (ro J (at_+1));have bb:J[f]?=some at_:=by rw [<-bp];exact cE (aS at_ oM)
 have dp:J[l]?=some (at_+1):=by rw [<-bK];exact cE (aS (at_+1) oM)
 have eb:f < N+2:=by have:=(zAc.1 bb).1;omega
 have d3:l < N+2:=by have:=(zAc.1 dp).1;omega
 rw [bp] at bq b9;rw [bK] at bq b9 ao;rw [bp,bK] at bc bm;obtain ⟨m,az⟩:=eqx (aH S J);rw [az] at bl b9 ao bc bm;obtain ⟨a4,ck⟩:=eqx (bM S at_);rw [ck] at bc bm;obtain ⟨a8,c5⟩:=eqx (S.getD at_ 0);rw [c5] at b9 ao bc;have bk:m[f]?=some a4:=by rw [<-az,<-ck];unfold aH;rw [zAf,bb];rfl
 have b7:∀i∈m,i < 257:=by rw [<-az];exact dR c1
 have cl:a4 < 257:=b7 a4 (zAd bk);have dU:a8 < 257:=b7 a8 (zAd ao);have ba:=d.live;rw [aq,az] at ba;have bd:=d.tal;rw [aq,az] at bd;have ci:∀i∈m.set l e,i < 257:=fun i bO=>by rcases List.mem_or_eq_of_mem_set bO with G | G;exact b7 i G;omega
 have d7:∀i∈aF (m.set l e) f,i < 257:=pE ci;have cj:(m.set l e)[f]?=some a4:=by rw [List.getElem?_set_ne (fun b=>bq b.symm),bk]
 have c6:=dD (m.set l e) (k:=f) (by rw [zAt];omega);rw [zAt] at c6;have d9:=dD m (k:=l) oM;have d8:(aF (m.set l e) f)[bB l f]?=some e:=aGT ao bk bq;have ds:b6.Perm (a8::aF m l):=bd.trans (eV ao).symm;obtain ⟨n,c9⟩:=eqx (rS (aF (m.set l e) f) (aF m l) e (bB l f));obtain ⟨aQ,aR⟩:∃aQ:Int,(if at_=0 then -1 else ((ro J (at_ - 1):Nat):Int))=aQ:=⟨_,rfl⟩;obtain ⟨L,bI⟩:∃L:Int,aBb aQ (f:Int)=L:=⟨_,rfl⟩;have c3:L=if at_=0 then -1 else ((bB (ro J (at_ - 1)) f:Nat):Int):=by
  rw [<-bI,<-aR];by_cases I:at_=0
  · rw [zBx I,zBx I,aCN]
  · rw [zBw I,zBw I,lV]
 obtain ⟨row,bL⟩:∃row,(if a4=e/\L<=(n:Int) then n+1 else n)=row:=⟨_,rfl⟩;have di:n+(if a8 < e then 1 else 0)=m.countP (fun i=>decide (i < e))+((aF (m.set l e) f).take (bB l f)).count e:=by rw [<-c9];unfold rS;rw [<-(eV ao).countP_eq,zBn];simp only [zCa];omega
 obtain ⟨ef,cb⟩:=bc n row L c3 di bL.symm;have bH:=bm row;obtain ⟨e0,dv,dw⟩:=vY ca (t:=row) bb oM;have ce:=aEC (row:=row) ca bb oM d.right;have cf:ro (aV (aF J f) row at_) at_=row:=dv;have c4:inI L (row:Int)=aOf (aV (aF J f) row at_) at_:=by
  rw [c3];unfold aOf;by_cases I:at_=0
  · rw [zBx I,zBx I,aFP]
  · rw [zBw I,zBw I,wJ];rw [dw (at_ - 1) (aS _ oM) oM]
 obtain ⟨aP,cX⟩:=eqx (aV (aF J f) row at_);rw [cX] at cb bH ce cf c4;have dt:(aF m l++ [e]).Perm (aH (S.set at_ e) aP):=by rw [bH];refine (List.perm_append_comm).trans ?_;refine (aGl ao).symm.trans ?_;exact (eV cj).symm.trans (fN _ _ _).symm
 have dn:E≠ []:=fun b=>by obtain ⟨i,bO,_⟩:=ch;rw [b] at bO;cases bO
 have d5:=ba.bnd;have d1:∀aT,LiveM aT B own gl gk v rate 0 (N+1+1) (N+1+1) m b6 E->Calls prog 92 #[gl,(at_:Int),(f:Int)] aT fun b w'=>b=.returned (.int .i64 aQ)/\VB B aT w':=fun aT dQ=>by by_cases I:at_=0;rw [zBx I] at aR;subst I aR;refine (oH f aT gl).mono ?_;rintro b w' ⟨rfl,rfl⟩;exact ⟨rfl,VisK.refl _ _⟩;rw [zBw I] at aR;obtain ⟨b1,b2⟩:=oE aL aA (show 0 < at_ by omega) oM;rw [az,bp] at b1 b2;have:=qY at_ f (S.getD (at_ - 1) 0) dQ oM b2 b7 oM oM;rw [lX bd,b1,aR] at this;exact this
 have dS:-1000000<=aQ/\aQ<=1000000:=by rw [<-aR];by_cases I:at_=0;rw [zBx I];omega;rw [zBw I];have eg:ro J (at_ - 1) < J.length:=List.idxOf_lt_length_iff.2 (aS (at_ - 1) oM);omega
 have b8:-1000000<=L/\L<=1000000:=by rw [<-bI];unfold aBb;split <;> omega
 have dj:n<=row/\row<=n+1:=by rw [<-bL];split <;> omega
 have c8:=cD B gl m (N+1) w (ba.g bd).lvw bl oM;have dM:IntKind.i64.wrap (((N+1:Nat):Int) - 1)=(N:Int):=by rw [wI0];omega
 have dr:a8=e->aJ (t.set at_ o)=aJ t:=fun b=>by
  rw [c0,aq];apply List.ext_getElem?;intro dZ;rw [zBm];by_cases I:at_=dZ;subst I;rw [zBx rfl,zBx oM,<-b,<-c5,zAb,zAa oM];rfl
  · rw [zBw I]
 obtain ⟨cH,cK,aO,aN,cG,cI,cw,cF,cJ⟩:=hqq9 dr d ch c7 d.right d.suf ba.blk ba bd;obtain ⟨an,cu,aW,M,dA,bQ,e6,bR,dE⟩:=hqq9 cW aq c0 bl cZ b7 bk ao b9;obtain ⟨dG,dI,bw,aM,bx,dF,dJ,aU,dK⟩:=hqq9 bb ci d7 c6 d9 d8 cj bH ds;obtain ⟨b5,b3,a7,b0,aY,b4,bE,bX,bF⟩:=hqq9 dt ce dn cb c4 cf c9 dj bL;obtain ⟨cv,aX,ct,e8,dz,dH,dC⟩:=hqq7 d1 c1 az d5 cY cg bI;have dT:(at_:Int)<=(N:Int):=oM;obtain ⟨e9,bZ⟩:=eqx (N+1);rw [bZ] at c8 dM;have e7:=lhd bZ;unfold aB2;clear d ba bd bn cW aq c0 bl cZ b7 bk bb ci cj bH ds ce cb c4 d1 c1 c7 ch aL aS aA dm ca cX ck dX c2 bp aR az d5 cY b9 ao bK dp c5 bq bZ dr bc bm d7 c6 d9 d8 dt dn cf c9 dj bL cg bI c3 di e0 dv dw;go_enter func55,ntmps55;go_wp2_with fail;refine c8.mono ?_;clear c8;rintro b w1 ⟨rfl,rfl⟩;go_wp2_with fail;refine (aCb gl _ _ _ e1 (at_:Int) (N:Int) w cw.out oM dT).mono ?_;rintro b w1 ⟨rfl,rfl⟩;obtain ⟨df,da⟩:=cF.out.setMv 0;obtain ⟨bz,bS⟩:=hqq2 df da;clear df da cw cF;generalize w.setCell ⟨gl,3,none⟩ (.int .i64 0)=w1 at bz bS⊢;have dq:Calls prog 58 #[gl,(at_:Int)] w1 fun b w'=>b=.returned (.int .i64 (f:Int))/\VB B w1 w':=by have dV:=bz.out.g cJ.out;exact gG B gl gk v rate t J E f at_ w1 (by rw [an.out,cu.out];rw [ct.out];exact dV) cG.out cI.out (by rw [an.out];omega) dG.out
 go_wp2_with fail;refine dq.mono ?_;clear dq;rintro b dx ⟨rfl,cn⟩;have cC:=lhd (bz.out.vis cn.1);have cx:=lhd (bS.out.trans (LF.of_vb (own:=own) cn));clear cn bz bS;go_wp2_with fail;refine (pN o dx).mono ?_;rintro b dy ⟨rfl,d2⟩;rw [dH.out];have co:VB B dx dy:=kd d2;have bA:=lhd (cC.out.vis co.1);have bT:=lhd (cx.out.trans (LF.of_vb (own:=own) co));clear co d2 cC cx;have F:=bA.out.blk.cell 0;have dl:=qV B gk m l f a8 dy (bA.out.walk.at cJ.out) bR.out dE.out bQ.out (by rw [M.out];omega) (dz.out.keepLF bT.out cP) cP;go_wp2_with fail;refine dl.mono ?_;clear dl;rintro b e2 ⟨rfl,cp⟩;have bV:=lhd (bA.out.vis cp.1);have cy:=lhd (bT.out.trans (LF.of_vb (own:=own) cp));clear cp F bA bT;have d0:=cv.out e2 bV.out;clear cv;go_wp2_with fail;refine d0.mono ?_;clear d0;rintro b aT ⟨rfl,cq⟩;have bC:=lhd (bV.out.vis cq.1);have cz:=lhd (cy.out.trans (LF.of_vb (own:=own) cq));clear cq bV cy;obtain ⟨dO,ea,de,du⟩:=bC.out.gw;have F:=bC.out.blk.cell 0;have Y:=de.cell 0;have dd:=eI B dO m l a8 aT du (by rw [M.out];exact d3) (by have ap:=bR.out;rw [zAa (by rw [M.out];exact d3)] at ap;injection ap) bQ.out (by rw [M.out];omega);clear de du;go_wp2_with fail;refine dd.mono ?_;clear dd;rintro b e3 ⟨rfl,cr⟩;have be:=lhd (bC.out.vis cr.1);have bU:=lhd (cz.out.trans (LF.of_vb (own:=own) cr));clear cr F Y bC cz;by_cases cN:a8=e
 · have dL:((a8:Int)==(e:Int))=true:=(by rw [cN];simp);go_wp2_with fail;go_ret;have H:(t.set at_ o).length=t.length:=zAt ..;refine ⟨rfl,own,⟨gk,v,0,b6,J,E,?_,aO.out,by rw [H,an.out];exact aN.out⟩,bU.out⟩;rw [cH.out cN,H,an.out];refine ⟨cI.out,?_,cK.out.tal,cG.out⟩;have:=be.out;rw [cu.out,ct.out];exact this
 have dL:((a8:Int)==(e:Int))=false:=by rw [zCb];omega
 clear cK cH;have F:=be.out.blk.cell 0;have d6:=kU B gk own m b6 l a8 e e3 be.out.walk bR.out bN bQ.out (by rw [M.out];omega);go_wp2_with fail;refine d6.mono ?_;clear d6;rintro b e4 ⟨rfl,own1,cQ,cT⟩;obtain ⟨dg,db⟩:=be.out.walkOp cQ cT;obtain ⟨bD,cA⟩:=hqq2 dg (bU.out.trans db);clear dg db cQ cT F be bU;have F:=bD.out.blk.cell 0;have hcut:=iE B gk own1 (m.set l e) b6 f a4 e4 bD.out.walk dJ.out dI.out (by rw [zAt,M.out];omega);go_wp2_with fail;refine hcut.mono ?_;clear hcut;rintro b a5 ⟨rfl,br,cR,cU⟩;obtain ⟨ah,ag⟩:=bD.out.walkOp cR cU;obtain ⟨D,Z⟩:=hqq2 ah (cA.out.trans ag);clear ah ag cR cU F bD cA;have F:=D.out.blk.cell 0;have af:=mF B gk br _ b6 (aF m l) a8 a5 D.out.walk dK.out dU (by rw [dA.out];omega);go_wp2_with fail;refine af.mono ?_;clear af;rintro b e5 ⟨rfl,cS,cV⟩;obtain ⟨dh,dc⟩:=D.out.walkOp cS cV;obtain ⟨bW,cB⟩:=hqq2 dh (Z.out.trans dc);clear dh dc cS cV F D Z;have cm:=wP (bB l f) e bW.out dF.out bw.out (by have:=aM.out;have:=M.out;omega) (by have:=bx.out;have:=M.out;omega);rw [bE.out] at cm;have cc:=mI (l:Int) (f:Int) e5 oM;rw [lV] at cc;go_wp2_with fail;refine cc.mono ?_;clear cc;rintro b K ⟨rfl,rfl⟩;go_wp2_with fail;refine cm.mono ?_;clear cm;rintro b bP ⟨rfl,cs⟩;have a6:=lhd (bW.out.vis cs.1);have aZ:=lhd (cB.out.trans (LF.of_vb (own:=br) cs));clear cs bW cB;have cd:=mI aQ (f:Int) bP dS;rw [dC.out] at cd;go_wp2_with fail;refine cd.mono ?_;clear cd;rintro b K ⟨rfl,rfl⟩;by_cases au:a4=e/\L<=(n:Int)
 · have ap:=bF.out;rw [zBx au] at ap;clear bF;have F:=a6.out.blk.cell 0;have aG:=eY B gk br (aF (m.set l e) f) (aF m l) row a4 bP a6.out.walk cl (by have:=aM.out;have:=M.out;omega) bw.out (by have:=aM.out;have:=M.out;omega);have bf:((a4:Int)==(e:Int))=true:=(by rw [au.1];simp);have bY:decide ((n:Int)>=L)=true:=zBz au.2;have cO:wrap64 ((n:Int)+1)=(row:Int):=(by rw [<-ap,dN oM oM];omega);clear ap au;go_wp2_with fail;rw [cO];clear cO bf bY bE bX;refine aG.mono ?_;clear aG;rintro b bt ⟨rfl,W,av,ax⟩;obtain ⟨aD,aB⟩:=a6.out.walkOp av ax;obtain ⟨a1,ar⟩:=hqq2 aD (aZ.out.trans aB);clear aD aB av ax F a6 aZ;have F:=a1.out.blk.cell 0;have af:=gT B gk W _ (aF m l) e bt a1.out.walk bN (by have:=bx.out;have:=M.out;omega);go_wp2_with fail;refine af.mono ?_;clear af;rintro b K ⟨rfl,aw,ay⟩;obtain ⟨aE,aC⟩:=a1.out.walkOp aw ay;obtain ⟨p,a0⟩:=hqq2 aE (ar.out.trans aC);clear aE aC aw ay F a1 ar;have bs:K.cell? ⟨gl,3,none⟩=some (.int .i64 0):=(p.out.blk.cell 3).trans rfl;have bi:=p.out.blk.frozen 3;have bo:=p.out.blk.lt;have Y:K.cell? ⟨gl,1,none⟩=some (.pointer (some v)):=(p.out.blk.cell 1).trans rfl;have aI:row < N+1+1:=oM;have aK:f < N+1+1:=oM;have a3:N+1+1<=100000:=oM;by_cases a2:row=f
   · have bg:((row:Int)==(f:Int))=true:=(by rw [a2];simp);have bh:((row:Int)!=(f:Int))=false:=(by rw [a2];simp);clear a2;have T:=cM (fun o=>W o=1) v (N+1+1) (N+1+1) f row E K p.out.perm aK aI a3 a3 a7.out;go_wp2_with fail;refine T.mono ?_;clear T;rintro b C ⟨rfl,⟨A,R,O⟩,P⟩;obtain ⟨z,x⟩:=p.out.permOp (O.mono fun o _ ae=>.inl ae) P;obtain ⟨ak,Q⟩:=eqx (dB W K.heap.size C.heap.size 1);rw [Q] at z x;obtain ⟨ab,aa,q⟩:=hqq3 z (a0.out.trans x) R;clear z x O P R Q Y p a0;have y:=jZ L (row:Int) C b8;rw [aY.out] at y;go_wp2_with fail;refine y.mono ?_;clear y;rintro b bu ⟨rfl,rfl⟩;have V:∀j,Smp A j↔Smp E j:=fun j=>by constructor;rintro ⟨i,d,rfl⟩;obtain ⟨am,ai,b⟩:=zAy.1 (q.out.subset d);exact ⟨am,ai,by rw [<-b]⟩;rintro ⟨i,d,rfl⟩;exact ⟨_,q.out.symm.subset (zAy.2 ⟨i,d,rfl⟩),rfl⟩
     have u:=fA w C B own ak gl gk v rate 0 (S.set at_ e) (aF m l++ [e]) (N+1) at_ aP A A ⟨b0.out,by rw [aU.out];exact ab.out,b5.out,fun i d=>b3.out i (q.out.subset d),fun j=>Iff.rfl,fun bj b=>by
        subst b;have:=q.out.length_eq;simp at this;exact a7.out (zBk this.symm),aa.out⟩ oM oM (fun i d=>by
        rcases List.mem_or_eq_of_mem_set d with G | G;exact aX.out i G
        · omega)
     rw [b4.out] at u;unfold jC at u;have ac:=lhd V;clear V;go_wp2_with fail;refine u.mono ?_;clear u;rintro b bv ⟨rfl,al,aj,ad,X,c⟩;have a9:=lhd c;clear c;go_wp2_with fail;go_ret;have c:=a9.out;have H:(t.set at_ o).length=N+1:=(by rw [zAt,an.out]);have U:Smp X=Smp E:=funext fun j=>propext ((c.plc j).trans (ac.out j));refine ⟨rfl,al,⟨gk,v,aj,aF m l++ [e],ad,X,?_,by rw [U];exact aO.out,by rw [U,H];exact aN.out⟩,c.lf⟩;rw [aW.out,H];exact ⟨c.near.sorted,c.live,c.tal,c.right⟩
   · have bg:((row:Int)==(f:Int))=false:=(by rw [zCb];omega);have bh:((row:Int)!=(f:Int))=true:=(by rw [bne_iff_ne];omega);clear a2;go_wp2_with fail;obtain ⟨ah,ag⟩:=p.out.setMv 1;obtain ⟨D,Z⟩:=hqq2 ah (a0.out.trans ag);clear ah ag bs bi bo Y p a0;generalize K.setCell ⟨gl,3,none⟩ (.int .i64 1)=a5 at D Z⊢;have Y:a5.cell? ⟨gl,1,none⟩=some (.pointer (some v)):=(D.out.blk.cell 1).trans rfl;have T:=cM (fun o=>W o=1) v (N+1+1) (N+1+1) f row E a5 D.out.perm aK aI a3 a3 a7.out;refine T.mono ?_;clear T;rintro b C ⟨rfl,⟨A,R,O⟩,P⟩;obtain ⟨z,x⟩:=D.out.permOp (O.mono fun o _ ae=>.inl ae) P;obtain ⟨ak,Q⟩:=eqx (dB W a5.heap.size C.heap.size 1);rw [Q] at z x;obtain ⟨ab,aa,q⟩:=hqq3 z (Z.out.trans x) R;clear z x O P R Q Y D Z;have y:=jZ L (row:Int) C b8;rw [aY.out] at y;go_wp2_with fail;refine y.mono ?_;clear y;rintro b bu ⟨rfl,rfl⟩;have V:∀j,Smp A j↔Smp E j:=fun j=>by constructor;rintro ⟨i,d,rfl⟩;obtain ⟨am,ai,b⟩:=zAy.1 (q.out.subset d);exact ⟨am,ai,by rw [<-b]⟩;rintro ⟨i,d,rfl⟩;exact ⟨_,q.out.symm.subset (zAy.2 ⟨i,d,rfl⟩),rfl⟩
     have u:=fA w C B own ak gl gk v rate 1 (S.set at_ e) (aF m l++ [e]) (N+1) at_ aP A A ⟨b0.out,by rw [aU.out];exact ab.out,b5.out,fun i d=>b3.out i (q.out.subset d),fun j=>Iff.rfl,fun bj b=>by
        subst b;have:=q.out.length_eq;simp at this;exact a7.out (zBk this.symm),aa.out⟩ oM oM (fun i d=>by
        rcases List.mem_or_eq_of_mem_set d with G | G;exact aX.out i G
        · omega)
     rw [b4.out] at u;unfold jC at u;have ac:=lhd V;clear V;go_wp2_with fail;refine u.mono ?_;clear u;rintro b bv ⟨rfl,al,aj,ad,X,c⟩;have a9:=lhd c;clear c;go_wp2_with fail;go_ret;have c:=a9.out;have H:(t.set at_ o).length=N+1:=(by rw [zAt,an.out]);have U:Smp X=Smp E:=funext fun j=>propext ((c.plc j).trans (ac.out j));refine ⟨rfl,al,⟨gk,v,aj,aF m l++ [e],ad,X,?_,by rw [U];exact aO.out,by rw [U,H];exact aN.out⟩,c.lf⟩;rw [aW.out,H];exact ⟨c.near.sorted,c.live,c.tal,c.right⟩
 · have ap:=bF.out;rw [zBw au] at ap;subst ap;clear bF;by_cases bG:a4=e
   · have dk:¬L<=(n:Int):=fun b=>au ⟨bG,b⟩;have F:=a6.out.blk.cell 0;have aG:=eY B gk br (aF (m.set l e) f) (aF m l) n a4 bP a6.out.walk cl (by have:=aM.out;have:=M.out;omega) bw.out (by have:=aM.out;have:=M.out;omega);have bf:((a4:Int)==(e:Int))=true:=(by rw [bG];simp);have bY:decide ((n:Int)>=L)=false:=zBy dk;clear bG au dk;go_wp2_with fail;clear bf bY bE bX;refine aG.mono ?_;clear aG;rintro b bt ⟨rfl,W,av,ax⟩;obtain ⟨aD,aB⟩:=a6.out.walkOp av ax;obtain ⟨a1,ar⟩:=hqq2 aD (aZ.out.trans aB);clear aD aB av ax F a6 aZ;have F:=a1.out.blk.cell 0;have af:=gT B gk W _ (aF m l) e bt a1.out.walk bN (by have:=bx.out;have:=M.out;omega);go_wp2_with fail;refine af.mono ?_;clear af;rintro b K ⟨rfl,aw,ay⟩;obtain ⟨aE,aC⟩:=a1.out.walkOp aw ay;obtain ⟨p,a0⟩:=hqq2 aE (ar.out.trans aC);clear aE aC aw ay F a1 ar;have bs:K.cell? ⟨gl,3,none⟩=some (.int .i64 0):=(p.out.blk.cell 3).trans rfl;have bi:=p.out.blk.frozen 3;have bo:=p.out.blk.lt;have Y:K.cell? ⟨gl,1,none⟩=some (.pointer (some v)):=(p.out.blk.cell 1).trans rfl;have aI:n < N+1+1:=oM;have aK:f < N+1+1:=oM;have a3:N+1+1<=100000:=oM;by_cases a2:n=f
     · have bg:((n:Int)==(f:Int))=true:=(by rw [a2];simp);have bh:((n:Int)!=(f:Int))=false:=(by rw [a2];simp);clear a2;have T:=cM (fun o=>W o=1) v (N+1+1) (N+1+1) f n E K p.out.perm aK aI a3 a3 a7.out;go_wp2_with fail;refine T.mono ?_;clear T;rintro b C ⟨rfl,⟨A,R,O⟩,P⟩;obtain ⟨z,x⟩:=p.out.permOp (O.mono fun o _ ae=>.inl ae) P;obtain ⟨ak,Q⟩:=eqx (dB W K.heap.size C.heap.size 1);rw [Q] at z x;obtain ⟨ab,aa,q⟩:=hqq3 z (a0.out.trans x) R;clear z x O P R Q Y p a0;have y:=jZ L (n:Int) C b8;rw [aY.out] at y;go_wp2_with fail;refine y.mono ?_;clear y;rintro b bu ⟨rfl,rfl⟩;have V:∀j,Smp A j↔Smp E j:=fun j=>by constructor;rintro ⟨i,d,rfl⟩;obtain ⟨am,ai,b⟩:=zAy.1 (q.out.subset d);exact ⟨am,ai,by rw [<-b]⟩;rintro ⟨i,d,rfl⟩;exact ⟨_,q.out.symm.subset (zAy.2 ⟨i,d,rfl⟩),rfl⟩
       have u:=fA w C B own ak gl gk v rate 0 (S.set at_ e) (aF m l++ [e]) (N+1) at_ aP A A ⟨b0.out,by rw [aU.out];exact ab.out,b5.out,fun i d=>b3.out i (q.out.subset d),fun j=>Iff.rfl,fun bj b=>by
        subst b;have:=q.out.length_eq;simp at this;exact a7.out (zBk this.symm),aa.out⟩ oM oM (fun i d=>by
        rcases List.mem_or_eq_of_mem_set d with G | G;exact aX.out i G
        · omega)
       rw [b4.out] at u;unfold jC at u;have ac:=lhd V;clear V;go_wp2_with fail;refine u.mono ?_;clear u;rintro b bv ⟨rfl,al,aj,ad,X,c⟩;have a9:=lhd c;clear c;go_wp2_with fail;go_ret;have c:=a9.out;have H:(t.set at_ o).length=N+1:=(by rw [zAt,an.out]);have U:Smp X=Smp E:=funext fun j=>propext ((c.plc j).trans (ac.out j));refine ⟨rfl,al,⟨gk,v,aj,aF m l++ [e],ad,X,?_,by rw [U];exact aO.out,by rw [U,H];exact aN.out⟩,c.lf⟩;rw [aW.out,H];exact ⟨c.near.sorted,c.live,c.tal,c.right⟩
     · have bg:((n:Int)==(f:Int))=false:=(by rw [zCb];omega);have bh:((n:Int)!=(f:Int))=true:=(by rw [bne_iff_ne];omega);clear a2;go_wp2_with fail;obtain ⟨ah,ag⟩:=p.out.setMv 1;obtain ⟨D,Z⟩:=hqq2 ah (a0.out.trans ag);clear ah ag bs bi bo Y p a0;generalize K.setCell ⟨gl,3,none⟩ (.int .i64 1)=a5 at D Z⊢;have Y:a5.cell? ⟨gl,1,none⟩=some (.pointer (some v)):=(D.out.blk.cell 1).trans rfl;have T:=cM (fun o=>W o=1) v (N+1+1) (N+1+1) f n E a5 D.out.perm aK aI a3 a3 a7.out;refine T.mono ?_;clear T;rintro b C ⟨rfl,⟨A,R,O⟩,P⟩;obtain ⟨z,x⟩:=D.out.permOp (O.mono fun o _ ae=>.inl ae) P;obtain ⟨ak,Q⟩:=eqx (dB W a5.heap.size C.heap.size 1);rw [Q] at z x;obtain ⟨ab,aa,q⟩:=hqq3 z (Z.out.trans x) R;clear z x O P R Q Y D Z;have y:=jZ L (n:Int) C b8;rw [aY.out] at y;go_wp2_with fail;refine y.mono ?_;clear y;rintro b bu ⟨rfl,rfl⟩;have V:∀j,Smp A j↔Smp E j:=fun j=>by constructor;rintro ⟨i,d,rfl⟩;obtain ⟨am,ai,b⟩:=zAy.1 (q.out.subset d);exact ⟨am,ai,by rw [<-b]⟩;rintro ⟨i,d,rfl⟩;exact ⟨_,q.out.symm.subset (zAy.2 ⟨i,d,rfl⟩),rfl⟩
       have u:=fA w C B own ak gl gk v rate 1 (S.set at_ e) (aF m l++ [e]) (N+1) at_ aP A A ⟨b0.out,by rw [aU.out];exact ab.out,b5.out,fun i d=>b3.out i (q.out.subset d),fun j=>Iff.rfl,fun bj b=>by
        subst b;have:=q.out.length_eq;simp at this;exact a7.out (zBk this.symm),aa.out⟩ oM oM (fun i d=>by
        rcases List.mem_or_eq_of_mem_set d with G | G;exact aX.out i G
        · omega)
       rw [b4.out] at u;unfold jC at u;have ac:=lhd V;clear V;go_wp2_with fail;refine u.mono ?_;clear u;rintro b bv ⟨rfl,al,aj,ad,X,c⟩;have a9:=lhd c;clear c;go_wp2_with fail;go_ret;have c:=a9.out;have H:(t.set at_ o).length=N+1:=(by rw [zAt,an.out]);have U:Smp X=Smp E:=funext fun j=>propext ((c.plc j).trans (ac.out j));refine ⟨rfl,al,⟨gk,v,aj,aF m l++ [e],ad,X,?_,by rw [U];exact aO.out,by rw [U,H];exact aN.out⟩,c.lf⟩;rw [aW.out,H];exact ⟨c.near.sorted,c.live,c.tal,c.right⟩
   · skip
     have F:=a6.out.blk.cell 0;have aG:=eY B gk br (aF (m.set l e) f) (aF m l) n a4 bP a6.out.walk cl (by have:=aM.out;have:=M.out;omega) bw.out (by have:=aM.out;have:=M.out;omega);have bf:((a4:Int)==(e:Int))=false:=(by rw [zCb];omega);clear bG au;go_wp2_with fail;clear bf bE bX;refine aG.mono ?_;clear aG;rintro b bt ⟨rfl,W,av,ax⟩;obtain ⟨aD,aB⟩:=a6.out.walkOp av ax;obtain ⟨a1,ar⟩:=hqq2 aD (aZ.out.trans aB);clear aD aB av ax F a6 aZ;have F:=a1.out.blk.cell 0;have af:=gT B gk W _ (aF m l) e bt a1.out.walk bN (by have:=bx.out;have:=M.out;omega);go_wp2_with fail;refine af.mono ?_;clear af;rintro b K ⟨rfl,aw,ay⟩;obtain ⟨aE,aC⟩:=a1.out.walkOp aw ay;obtain ⟨p,a0⟩:=hqq2 aE (ar.out.trans aC);clear aE aC aw ay F a1 ar;have bs:K.cell? ⟨gl,3,none⟩=some (.int .i64 0):=(p.out.blk.cell 3).trans rfl;have bi:=p.out.blk.frozen 3;have bo:=p.out.blk.lt;have Y:K.cell? ⟨gl,1,none⟩=some (.pointer (some v)):=(p.out.blk.cell 1).trans rfl;have aI:n < N+1+1:=oM;have aK:f < N+1+1:=oM;have a3:N+1+1<=100000:=oM;by_cases a2:n=f
     · have bg:((n:Int)==(f:Int))=true:=(by rw [a2];simp);have bh:((n:Int)!=(f:Int))=false:=(by rw [a2];simp);clear a2;have T:=cM (fun o=>W o=1) v (N+1+1) (N+1+1) f n E K p.out.perm aK aI a3 a3 a7.out;go_wp2_with fail;refine T.mono ?_;clear T;rintro b C ⟨rfl,⟨A,R,O⟩,P⟩;obtain ⟨z,x⟩:=p.out.permOp (O.mono fun o _ ae=>.inl ae) P;obtain ⟨ak,Q⟩:=eqx (dB W K.heap.size C.heap.size 1);rw [Q] at z x;obtain ⟨ab,aa,q⟩:=hqq3 z (a0.out.trans x) R;clear z x O P R Q Y p a0;have y:=jZ L (n:Int) C b8;rw [aY.out] at y;go_wp2_with fail;refine y.mono ?_;clear y;rintro b bu ⟨rfl,rfl⟩;have V:∀j,Smp A j↔Smp E j:=fun j=>by constructor;rintro ⟨i,d,rfl⟩;obtain ⟨am,ai,b⟩:=zAy.1 (q.out.subset d);exact ⟨am,ai,by rw [<-b]⟩;rintro ⟨i,d,rfl⟩;exact ⟨_,q.out.symm.subset (zAy.2 ⟨i,d,rfl⟩),rfl⟩
       have u:=fA w C B own ak gl gk v rate 0 (S.set at_ e) (aF m l++ [e]) (N+1) at_ aP A A ⟨b0.out,by rw [aU.out];exact ab.out,b5.out,fun i d=>b3.out i (q.out.subset d),fun j=>Iff.rfl,fun bj b=>by
        subst b;have:=q.out.length_eq;simp at this;exact a7.out (zBk this.symm),aa.out⟩ oM oM (fun i d=>by
        rcases List.mem_or_eq_of_mem_set d with G | G;exact aX.out i G
        · omega)
       rw [b4.out] at u;unfold jC at u;have ac:=lhd V;clear V;go_wp2_with fail;refine u.mono ?_;clear u;rintro b bv ⟨rfl,al,aj,ad,X,c⟩;have a9:=lhd c;clear c;go_wp2_with fail;go_ret;have c:=a9.out;have H:(t.set at_ o).length=N+1:=(by rw [zAt,an.out]);have U:Smp X=Smp E:=funext fun j=>propext ((c.plc j).trans (ac.out j));refine ⟨rfl,al,⟨gk,v,aj,aF m l++ [e],ad,X,?_,by rw [U];exact aO.out,by rw [U,H];exact aN.out⟩,c.lf⟩;rw [aW.out,H];exact ⟨c.near.sorted,c.live,c.tal,c.right⟩
     · have bg:((n:Int)==(f:Int))=false:=(by rw [zCb];omega);have bh:((n:Int)!=(f:Int))=true:=(by rw [bne_iff_ne];omega);clear a2;go_wp2_with fail;obtain ⟨ah,ag⟩:=p.out.setMv 1;obtain ⟨D,Z⟩:=hqq2 ah (a0.out.trans ag);clear ah ag bs bi bo Y p a0;generalize K.setCell ⟨gl,3,none⟩ (.int .i64 1)=a5 at D Z⊢;have Y:a5.cell? ⟨gl,1,none⟩=some (.pointer (some v)):=(D.out.blk.cell 1).trans rfl;have T:=cM (fun o=>W o=1) v (N+1+1) (N+1+1) f n E a5 D.out.perm aK aI a3 a3 a7.out;refine T.mono ?_;clear T;rintro b C ⟨rfl,⟨A,R,O⟩,P⟩;obtain ⟨z,x⟩:=D.out.permOp (O.mono fun o _ ae=>.inl ae) P;obtain ⟨ak,Q⟩:=eqx (dB W a5.heap.size C.heap.size 1);rw [Q] at z x;obtain ⟨ab,aa,q⟩:=hqq3 z (Z.out.trans x) R;clear z x O P R Q Y D Z;have y:=jZ L (n:Int) C b8;rw [aY.out] at y;go_wp2_with fail;refine y.mono ?_;clear y;rintro b bu ⟨rfl,rfl⟩;have V:∀j,Smp A j↔Smp E j:=fun j=>by constructor;rintro ⟨i,d,rfl⟩;obtain ⟨am,ai,b⟩:=zAy.1 (q.out.subset d);exact ⟨am,ai,by rw [<-b]⟩;rintro ⟨i,d,rfl⟩;exact ⟨_,q.out.symm.subset (zAy.2 ⟨i,d,rfl⟩),rfl⟩
       have u:=fA w C B own ak gl gk v rate 1 (S.set at_ e) (aF m l++ [e]) (N+1) at_ aP A A ⟨b0.out,by rw [aU.out];exact ab.out,b5.out,fun i d=>b3.out i (q.out.subset d),fun j=>Iff.rfl,fun bj b=>by
        subst b;have:=q.out.length_eq;simp at this;exact a7.out (zBk this.symm),aa.out⟩ oM oM (fun i d=>by
        rcases List.mem_or_eq_of_mem_set d with G | G;exact aX.out i G
        · omega)
       rw [b4.out] at u;unfold jC at u;have ac:=lhd V;clear V;go_wp2_with fail;refine u.mono ?_;clear u;rintro b bv ⟨rfl,al,aj,ad,X,c⟩;have a9:=lhd c;clear c;go_wp2_with fail;go_ret;have c:=a9.out;have H:(t.set at_ o).length=N+1:=(by rw [zAt,an.out]);have U:Smp X=Smp E:=funext fun j=>propext ((c.plc j).trans (ac.out j));refine ⟨rfl,al,⟨gk,v,aj,aF m l++ [e],ad,X,?_,by rw [U];exact aO.out,by rw [U,H];exact aN.out⟩,c.lf⟩;rw [aW.out,H];exact ⟨c.near.sorted,c.live,c.tal,c.right⟩
end
section
open Go.RowKit
def aFt (w:World) (B:Nat) (own:Nat->Nat) (gs gl most rate:Nat) (a:List UInt8) (b:Ending) (w':World):Prop:=
 b=.returned (.int .i64 0)/\∃own',StAt w' B own' gs gl most rate a/\LFS B gs w w' own own'
def StAt.edited {w w' B gs gl most rate own own' t b} (a:StAt w B own gs gl most rate t) (f:LiveE w' B own' gl b rate) (c:LF B w w' own own') (e:b.length<=127) (g:b.length<=most):StAt w' B own' gs gl most rate b/\LFS B gs w w' own own':=
 ⟨⟨c.vis.bk a.blk dC dC (fun d=>d a.col),a.low,(c.old _ a.blk.lt).trans a.col,f,e,g,a.max,a.r1,a.r2⟩,LFS.of_lf gs c⟩
structure EdW (w W:World) (B:Nat) (own:Nat->Nat) (gs gl most rate:Nat) (t:List UInt8) (kind p n:Int) (A:Option Addr) (m c:Nat):Prop where
 low:Below w.heap.size w W
 box:Bk W w.heap.size 44 #[(kind:Int),(p:Int),(n:Int),.slice A m c]
 st:StAt W B own gs gl most rate t
 ap:Ap own gs w.heap.size
def EdW.mk' {w B own gs gl most rate t} (d g f a e b) (c:StAt w B own gs gl most rate t):
 EdW w (w.alloc (.cells #[(d:Int),(g:Int),(f:Int),.slice a e b] 44)) B own gs gl most rate t d g f a e b:=by
 have i:Below w.heap.size w (w.alloc (.cells #[(d:Int),(g:Int),(f:Int),.slice a e b] 44)):=bR.alloc nL _;exact ⟨i,ke w _ _,c.vb (kc i),⟨c.fresh nL,by have:=c.blk.lt;omega⟩⟩
def zW (B own gs gl most rate N t k g a4 v j E w) (y:StAt w B own gs gl most rate t) (T:t.length=N) (R:ArgZ w B own gs v j k) (aT:g<=N) (aU:N+j<=most) (bd:N+j<=127):
 Calls prog 25 #[gs,.agg #[(1:Int),(g:Int),(a4:Int),.slice v j E]] w (aFt w B own gs gl most rate (vL t g k)):=by
 have ah:k.length=j:=by simpa using R.1.1
 have m:=EdW.mk' 1 (g:Int) a4 v j E y;have ag:=R.vis m.low;have al:=LFS.of_below B gs own m.low;have X:=mG B own gs gl most rate N t g 0 _ m.st T;have ak:dL N (g:Int) 0=true:=zBz oM;rw [ak] at X;have F:=m.box.cell 0;have aM:=m.box.cell 1;have aN:=m.box.cell 2;have Q:=m.box.cell 3;have aI:=lhd aU;have aS:=y.max;have ae:IntKind.i64.wrap ((most:Int) -(N:Int))=(most:Int) -(N:Int):=by rw [wI0];omega
 have af:decide ((j:Int) > (most:Int) -(N:Int))=false:=zBy oM;obtain ⟨o,aA,aF,a6,a5,M,D,L,ay⟩:=hqq9 m.st ag al m.ap X m.box T ah ae;have az:=lhd af;clear y R m ag al X ak T ah aS ae af;go_enter func25,ntmps25;go_wp2_with fail;refine a5.out.mono ?_;rintro ab w1 ⟨rfl,rfl⟩;clear a5;go_wp2_with fail;generalize w.alloc (.cells #[(1:Int),(g:Int),(a4:Int),.slice v j E] 44)=w1 at*
 clear F aM aN Q;have a9:=lhd (fun e (a3:VB B w1 e)=>(o.out.vb a3.1).llen D.out);refine wp_region_any kR ?_;refine aO [27,28,29,30,31,32,33,34,35,36,37,38,39,40,41,42,43,44,45,26] (VB B) (Vs [is w.heap.size,is (.int .i64 1),is (.bool true),is (.bool true),is (.pointer (some ⟨w.heap.size,3,none⟩)),is (.slice v j E),is (j:Int),is gs,is gs,is (.pointer (some ⟨gs,1,none⟩)),is (most:Int),is gs,is gs,is gs,is gl,is (N:Int),is (.int .i64 ((most:Int) -(N:Int))),is (.bool false),is (.bool false),is (.bool false)]) _ _ rfl kR vR (fun _ _=>VisK.trans) (cS tA1) ?_ ?_
 · refine aK ?_;refine pH 3 (.pointer (some w.heap.size)) ?_;refine sC (fun _ e a _ _ _ b _ _ _ d=>?_) ?_
   · have b0:_=_:=b 0 27 kR rfl;replace a:(VB B) w1 e:=bD a;have A:=a.1.bk M.out dC dC;have x:=A.cell 0;go_simp;exact d _ _ vR rfl
   refine pV 1 28 ?_;refine pV 2 29 ?_;refine gH 30 true 3 (.pointer (some w.heap.size)) ?_;refine sG 30 true (fun _ e a _ _ _ b _ _ _ d=>?_) ?_
   · have b1:_=_:=b 4 31 kR rfl;replace a:(VB B) w1 e:=bD a;have A:=a.1.bk M.out dC dC;have x:=A.cell 3;go_simp;exact d _ _ vR rfl
   refine gV 30 true 5 32 ?_;refine gH 30 true 0 (.pointer (some gs)) ?_;refine gV 30 true 7 34 ?_;refine gV 30 true 8 35 ?_;refine sG 30 true (fun _ e a _ _ _ b _ _ _ d=>?_) ?_
   · have b3:_=_:=b 9 36 kR rfl;replace a:(VB B) w1 e:=bD a;have z:=a.1.bk o.out.blk dC dC;have x:=z.cell 1;go_simp;exact d _ _ vR rfl
   refine gH 30 true 0 (.pointer (some gs)) ?_;refine gV 30 true 11 38 ?_;refine gV 30 true 12 39 ?_;refine sG 30 true (fun _ e a _ _ _ b _ _ _ d=>?_) ?_
   · have b5:_=_:=b 13 40 kR rfl;replace a:(VB B) w1 e:=bD a;have z:=a.1.bk o.out.blk dC dC;have x:=z.cell 0;go_simp;exact d _ _ vR rfl
   refine sG 30 true (fun _ e a _ _ _ b _ _ _ d=>?_) ?_
   · have b6:_=_:=b 14 41 kR rfl;replace a:(VB B) w1 e:=bD a;go_simp;refine (a9.out e a).mono ?_;rintro ab bh ⟨rfl,rfl⟩;exact d _ _ vR rfl
   refine sG 30 true (fun _ _ _ _ _ _ b _ _ _ d=>?_) ?_
   · have b4:_=_:=b 10 37 kR rfl;have b7:_=_:=b 15 42 kR rfl;go_simp;exact d _ _ vR (by first | rfl | exact congrArg (Value.int .i64) ay.out)
   refine sG 30 true (fun _ _ _ _ _ _ b _ _ _ d=>?_) ?_
   · have b2:_=_:=b 6 33 kR rfl;have b8:_=_:=b 16 43 kR rfl;go_simp;exact d _ _ vR (by first | rfl | exact congrArg Value.bool az.out)
   refine pW 3 30 17 44 ?_;refine pV 18 45 ?_;exact aC
 · intro s q a b;replace a:(VB B) w1 q:=bD a;have ad:s (.tmp 26)=.bool false:=b 19 26 rfl;simp only [zqq];rw [ad];clear b;have ar:=o.out.vb a.1;have Z:=LFS.of_vb gs own a;have G:=a.1.bk M.out dC dC;have F:=G.cell 0;have Q:=G.cell 3;obtain ⟨aJ,aH,aB,aE⟩:=hqq4 ar (aF.out.trans Z) (aA.out.step Z) G;clear ar Z G a a9 ad;go_wp2_with fail;clear F Q;go_loopw [6,7,65] (fun _ _ K wr=>∃(c:Nat) (own':Nat->Nat),c<=j/\K=.int .i64 (c:Int)/\StAt wr B own' gs gl most rate (vL t g (k.take c))/\LFS B gs q wr own own') (fun _ _ K _=>j -(intOf K).toNat)
   case atStart=>exact ⟨0,own,by omega,rfl,by rw [List.take_zero,aIO];exact aJ.out,LFS.refl _ _ _ _⟩
   case round=>
    obtain ⟨c,own',bf,rfl,p,u⟩:=hrel;have I:g<=t.length:=(by rw [D.out];exact aT);by_cases aq:c < j
    · obtain ⟨n,U⟩:∃n,k[c]?=some n:=⟨_,zAa (by rw [L.out];exact aq)⟩;have aR:c < k.length:=(by rw [L.out];exact aq);have a1:(k.take c).length=c:=(by rw [zAj];omega);have Y:(vL t g (k.take c)).length=N+c:=(by rw [xN t _ I,a1,D.out]);have H:=fun e (a3:VB B wr e)=>aDM e B own' gl (vL t g (k.take c)) rate (g+c) n (p.vb a3.1).live (by rw [Y];omega) (by rw [Y];omega) p.r1 p.r2;have a0:=aIP t (k.take c) n I;rw [a1] at a0;have au:k.take (c+1)=k.take c++ [n]:=(by rw [zAv,U];rfl);unfold aB2 at H;rw [a0,<-au] at H;obtain ⟨aL,aV,rfl,be,aj⟩:=((aB.out.step u).1).2 oM;have aZ:wr.cell? ⟨aL,aV+c,none⟩=some (.int .u8 (n.toNat:Int)):=aj c _ (by rw [zAf,U];rfl);have V:=u.bk aE.out a6.out.col a6.out.ne dC dC;have aD:=lhd V;have F:=V.cell 0;have ac:IntKind.i64.wrap ((g:Int)+(c:Int))=((g+c:Nat):Int):=(by rw [wI0];omega);have am:(vL t g (k.take (c+1))).length=N+(c+1):=(by rw [xN t _ I,zAj,D.out];omega);obtain ⟨o,aa,a7,a8,ax⟩:=hqq5 p u H am ac;clear ac p u H a0 au Y a1 U aR aj V am I;go_wp2_with fail;refine wp_region_any kR ?_;refine cB B 9 [83,84,85,86,87,88,89,90,91] (fun _=>False) 3 [] (fun _=>True) (fun C _=>C=.pointer (some gl)) [is gs,is gs,is gs,cJ,is (.pointer (some ⟨w.heap.size,1,none⟩)),is (g:Int),is (c:Int),is (.int .i64 ((g+c:Nat):Int)),is (.int .u8 (n.toNat:Int))] _ _ rfl dC kR kR kR (trivial) (fun _ _ _ _ _=>trivial) (fun _ _ _ y _=>y) tA1 ?_ ?_
      · refine bJ ?_;refine pH3 0 (.pointer (some gs)) ?_;refine pV3 0 83 ?_;refine pV3 1 84 ?_;refine sC3 (fun _ e a _ _ _ _ b _ _ _ d=>?_) ?_
        · replace a:VFB B (fun _=>False) wr e:=fD a;have b9:_=_:=b 2 85 kR rfl;have a2:=a.to_vb (fun _ _ l=>l);have z:=a2.1.bk o.out.blk dC dC;have x:=z.cell 0;go_simp;exact d _ _ (kK (VFB.of_vb vR)) rfl
        refine pH3 3 (.pointer (some w.heap.size)) ?_;refine sC3 (fun _ e a _ _ _ _ b _ _ _ d=>?_) ?_
        · replace a:VFB B (fun _=>False) wr e:=fD a;have ba:_=_:=b 4 87 kR rfl;have a2:=a.to_vb (fun _ _ l=>l);have A:=a2.1.bk aD.out dC dC;have x:=A.cell 1;go_simp;exact d _ _ (aG vR) rfl
        refine pH3 6 (.int .i64 (c:Int)) ?_;refine sC3 (fun _ _ _ _ _ _ _ b _ _ _ d=>?_) ?_
        · have bb:_=_:=b 5 88 kR rfl;have bc:_=_:=b 6 89 kR rfl;go_simp;exact d _ _ (aG vR) (by first | rfl | exact congrArg (Value.int .i64) ax.out)
        refine pH3 7 (.int .u8 (n.toNat:Int)) ?_;exact aC
      · intro s q l a b ai;replace a:VFB B (fun _=>False) wr q:=fD a;have av:(fun C _=>C=.pointer (some gl)) (s (.tmp 86)) q:=b 3 86 dC rfl;have aP:s (.tmp 90)=.int .i64 ((g+c:Nat):Int):=b 7 90 dC rfl;have aQ:s (.tmp 91)=.int .u8 (n.toNat:Int):=b 8 91 dC rfl;obtain ⟨aY,aw⟩:=ai 3 dC;have aX:(fun C _=>C=.pointer (some gl)) aY q:=aw;clear aw ai;simp only [zqq];rw [aP];rw [aQ];clear b;have J:=a.to_vb (fun _ _ l=>l);rw [show s (.tmp 86)=_ from av];clear aX a av;change wpAny prog Region.Mode.any _ _ (1+l) (bX 9 10) _ q;rw [zCs 1 l];refine bQ (f:=l) (i:=9) kR ?_;refine bY rfl rfl ?_;generalize d:wpAny prog _ _ _ l _=K5;go_simp;refine (a7.out q J).mono ?_;rintro ab bg ⟨rfl,aW,an,ao⟩;subst d;refine bV kR ?_;have W:=(o.out.vb J.1).edited an ao (by rw [a8.out];omega) (by rw [a8.out];have:=aI.out;omega);obtain ⟨P,O⟩:=hqq2 W.1 (aa.out.trans ((LFS.of_vb gs own' J).trans W.2));clear W an ao J o aa a7;go_wp2_with fail;go_roundw
        case rel=>exact ⟨c+1,aW,by omega,by go_num,P.out,O.out⟩
        case measure=>simp [intOf];omega
    · obtain rfl:c=j:=oM;rw [zAg (by rw [L.out];exact zAs _)] at p;obtain ⟨P,O⟩:=hqq2 p (aH.out.trans u);clear p u;go_wp2_with fail;go_ret;exact ⟨rfl,own',P.out,O.out⟩
def yT (B own gs gl most rate N t g u i f j w) (k:StAt w B own gs gl most rate t) (o:t.length=N) (a4:g<=N) (R:most < N+f):
 Calls prog 25 #[gs,.agg #[(1:Int),(g:Int),(u:Int),.slice i f j]] w fun n w'=>n=.returned (.int .i64 3)/\VB B w w':=by
 have e:=EdW.mk' 1 (g:Int) u i f j k;have s:=mG B own gs gl most rate N t g 0 _ e.st o;have C:dL N (g:Int) 0=true:=zBz oM;rw [C] at s;have J:=e.box.cell 0;have K:=e.box.cell 1;have L:=e.box.cell 2;have M:=e.box.cell 3;have P:=k.max;have Q:N<=most:=by have:=k.len;omega
 have z:IntKind.i64.wrap ((most:Int) -(N:Int))=(most:Int) -(N:Int):=by rw [wI0];omega
 have A:decide ((f:Int) > (most:Int) -(N:Int))=true:=zBz oM;obtain ⟨l,I,v,x,F,D,E⟩:=hqq7 e.st e.low s e.box o z A;clear k e s C o P z A Q R;go_enter func25,ntmps25;go_wp2_with fail;refine v.out.mono ?_;rintro n w1 ⟨rfl,rfl⟩;clear v;go_wp2_with fail;generalize w.alloc (.cells #[(1:Int),(g:Int),(u:Int),.slice i f j] 44)=w1 at*
 clear J K L M;have H:=lhd (fun d (T:VB B w1 d)=>(l.out.vb T.1).llen F.out);refine wp_region_any kR ?_;refine aO [27,28,29,30,31,32,33,34,35,36,37,38,39,40,41,42,43,44,45,26] (VB B) (Vs [is w.heap.size,is (.int .i64 1),is (.bool true),is (.bool true),is (.pointer (some ⟨w.heap.size,3,none⟩)),is (.slice i f j),is (f:Int),is gs,is gs,is (.pointer (some ⟨gs,1,none⟩)),is (most:Int),is gs,is gs,is gs,is gl,is (N:Int),is (.int .i64 ((most:Int) -(N:Int))),is (.bool true),is (.bool true),is (.bool true)]) _ _ rfl kR vR (fun _ _=>VisK.trans) (cS tA1) ?_ ?_
 · refine aK ?_;refine pH 3 (.pointer (some w.heap.size)) ?_;refine sC (fun _ d a _ _ _ b _ _ _ c=>?_) ?_
   · have V:_=_:=b 0 27 kR rfl;replace a:(VB B) w1 d:=bD a;have q:=a.1.bk x.out dC dC;have m:=q.cell 0;go_simp;exact c _ _ vR rfl
   refine pV 1 28 ?_;refine pV 2 29 ?_;refine gH 30 true 3 (.pointer (some w.heap.size)) ?_;refine sG 30 true (fun _ d a _ _ _ b _ _ _ c=>?_) ?_
   · have W:_=_:=b 4 31 kR rfl;replace a:(VB B) w1 d:=bD a;have q:=a.1.bk x.out dC dC;have m:=q.cell 3;go_simp;exact c _ _ vR rfl
   refine gV 30 true 5 32 ?_;refine gH 30 true 0 (.pointer (some gs)) ?_;refine gV 30 true 7 34 ?_;refine gV 30 true 8 35 ?_;refine sG 30 true (fun _ d a _ _ _ b _ _ _ c=>?_) ?_
   · have Y:_=_:=b 9 36 kR rfl;replace a:(VB B) w1 d:=bD a;have p:=a.1.bk l.out.blk dC dC;have m:=p.cell 1;go_simp;exact c _ _ vR rfl
   refine gH 30 true 0 (.pointer (some gs)) ?_;refine gV 30 true 11 38 ?_;refine gV 30 true 12 39 ?_;refine sG 30 true (fun _ d a _ _ _ b _ _ _ c=>?_) ?_
   · have a0:_=_:=b 13 40 kR rfl;replace a:(VB B) w1 d:=bD a;have p:=a.1.bk l.out.blk dC dC;have m:=p.cell 0;go_simp;exact c _ _ vR rfl
   refine sG 30 true (fun _ d a _ _ _ b _ _ _ c=>?_) ?_
   · have a1:_=_:=b 14 41 kR rfl;replace a:(VB B) w1 d:=bD a;go_simp;refine (H.out d a).mono ?_;rintro n a5 ⟨rfl,rfl⟩;exact c _ _ vR rfl
   refine sG 30 true (fun _ _ _ _ _ _ b _ _ _ c=>?_) ?_
   · have Z:_=_:=b 10 37 kR rfl;have a2:_=_:=b 15 42 kR rfl;go_simp;exact c _ _ vR (by first | rfl | exact congrArg (Value.int .i64) D.out)
   refine sG 30 true (fun _ _ _ _ _ _ b _ _ _ c=>?_) ?_
   · have X:_=_:=b 6 33 kR rfl;have a3:_=_:=b 16 43 kR rfl;go_simp;exact c _ _ vR (by first | rfl | exact congrArg Value.bool E.out)
   refine pW 3 30 17 44 ?_;refine pV 18 45 ?_;exact aC
 · intro O U a b;replace a:(VB B) w1 U:=bD a;have y:O (.tmp 26)=.bool true:=b 19 26 rfl;simp only [zqq];rw [y];clear b;clear y;have G:=lhd (VisK.trans (kd I.out) a);clear a;go_wp2_with fail;go_ret;exact ⟨rfl,G.out⟩
def zX (B own gs gl most rate N t b c G V J w) (q:StAt w B own gs gl most rate t) (M:TabW w) (y:1 < B) (z:t.length=N) (aJ:b+c<=N):
 Calls prog 25 #[gs,.agg #[(2:Int),(b:Int),(c:Int),.slice G V J]] w (aFt w B own gs gl most rate (t.take b++t.drop (b+c))):=by
 have k:=EdW.mk' 2 (b:Int) (c:Int) G V J q;have ab:=LFS.of_below B gs own k.low;have Q:=mG B own gs gl most rate N t b c _ k.st z;have aa:dL N (b:Int) (c:Int)=true:=zBz oM;rw [aa] at Q;have K:=k.box.cell 0;have aq:=k.box.cell 1;have L:=k.box.cell 2;have ar:=k.box.cell 3;have ax:=q.n127;have T:=q.len;rw [z] at ax T;have a7:=M.below k.low M.pos;obtain ⟨u,am,Z,W,a0,X,Y,ao⟩:=hqq8 k.st ab k.ap Q k.box z a7 T;clear q k ab Q aa z M a7 T;go_enter func25,ntmps25;go_wp2_with fail;refine W.out.mono ?_;rintro au w1 ⟨rfl,rfl⟩;clear W;go_wp2_with fail;generalize w.alloc (.cells #[(2:Int),(b:Int),(c:Int),.slice G V J] 44)=w1 at*
 clear K aq L ar;refine wp_region_any kR ?_;refine aO [27,28,29,30,31,32,33,34,35,36,37,38,39,40,41,42,43,44,45,26] (VB B) (Vs [is w.heap.size,is (.int .i64 2),is (.bool false),is (.bool false),is undef,is undef,is undef,is undef,is undef,is undef,is undef,is undef,is undef,is undef,is undef,is undef,is undef,is undef,is (.bool false),is (.bool false)]) _ _ rfl kR vR (fun _ _=>VisK.trans) (cS tA1) ?_ ?_
 · refine aK ?_;refine pH 3 (.pointer (some w.heap.size)) ?_;refine sC (fun _ m a _ _ _ e _ _ _ o=>?_) ?_
   · have aD:_=_:=e 0 27 kR rfl;replace a:(VB B) w1 m:=bD a;have O:=a.1.bk a0.out dC dC;have a5:=O.cell 0;go_simp;exact o _ _ vR rfl
   refine pV 1 28 ?_;refine pV 2 29 ?_;refine aB ?_ ?_;exact sK 30 false fun _=>vR;refine aB ?_ ?_;exact sK 30 false fun _=>vR;refine aB ?_ ?_;exact sK 30 false fun _=>vR;refine aB ?_ ?_;exact sK 30 false fun _=>vR;refine aB ?_ ?_;exact sK 30 false fun _=>vR;refine aB ?_ ?_;exact sK 30 false fun _=>vR;refine aB ?_ ?_;exact sK 30 false fun _=>vR;refine aB ?_ ?_;exact sK 30 false fun _=>vR;refine aB ?_ ?_;exact sK 30 false fun _=>vR;refine aB ?_ ?_;exact sK 30 false fun _=>vR;refine aB ?_ ?_;exact sK 30 false fun _=>vR;refine aB ?_ ?_;exact sK 30 false fun _=>vR;refine aB ?_ ?_;exact sK 30 false fun _=>vR;refine aB ?_ ?_;exact sK 30 false fun _=>vR;refine pW 3 30 17 44 ?_;refine pV 18 45 ?_;exact aC
 · intro v n a e;replace a:(VB B) w1 n:=bD a;have a6:v (.tmp 26)=.bool false:=e 19 26 rfl;simp only [zqq];rw [a6];clear e;have ag:=u.out.vb a.1;have ae:=LFS.of_vb gs own a;have A:=a.1.bk a0.out dC dC;have K:=A.cell 0;have L:=A.cell 2;obtain ⟨a4,an,aj,al⟩:=hqq4 ag (am.out.trans ae) (Y.out.vb a y Y.out.pos) A;clear ag ae A a a6;go_wp2_with fail;clear K L;go_loopw [52] (fun F wr=>∃(d:Nat) (own':Nat->Nat),d<=c/\F=.int .i64 (d:Int)/\StAt wr B own' gs gl most rate (t.take b++t.drop (b+d))/\LFS B gs n wr own own') (fun F _=>c -(intOf F).toNat)
   case atStart=>exact ⟨0,own,by omega,rfl,by rw [zBq,zAu];exact a4.out,LFS.refl _ _ _ _⟩
   case round=>
    obtain ⟨d,own',aH,rfl,l,s⟩:=hrel;by_cases aI:d < c
    · have af:b+d < t.length:=(by rw [X.out];omega);have D:=aFU t (p:=b) (j:=d) oM;have R:=aFU t (p:=b) (j:=d+1) oM;rw [X.out] at D R;have C:=fun m (c:VB B wr m)=>aDN m B own' gl (t.take b++t.drop (b+d)) rate b (l.vb c.1).live ((aj.out.below (s.below a4.out.size) y).vb c y (by have:=l.size;omega)) y (by rw [D];omega) (by rw [D];omega) l.r1 l.r2;unfold aB2 at C;rw [aI8 t af] at C;have a9:=s.bk al.out Z.out.col Z.out.ne dC dC;obtain ⟨ak,u,a3,a1,a2⟩:=hqq5 a9 l s C R;clear l s C D R a9 af;go_wp2_with fail;refine wp_region_any kR ?_;refine cB B 6 [54,55,56,57,58,59] (fun _=>False) 3 [] (fun _=>True) (fun x _=>x=.pointer (some gl)) [is gs,is gs,is gs,cJ,is (.pointer (some ⟨w.heap.size,1,none⟩)),is (b:Int)] _ _ rfl dC kR kR kR (trivial) (fun _ _ _ _ _=>trivial) (fun _ _ _ q _=>q) tA1 ?_ ?_
      · refine bJ ?_;refine pH3 0 (.pointer (some gs)) ?_;refine pV3 0 54 ?_;refine pV3 1 55 ?_;refine sC3 (fun _ m a _ _ _ _ e _ _ _ o=>?_) ?_
        · replace a:VFB B (fun _=>False) wr m:=fD a;have aE:_=_:=e 2 56 kR rfl;have U:=a.to_vb (fun _ _ g=>g);have aw:=U.1.bk u.out.blk dC dC;have a5:=aw.cell 0;go_simp;exact o _ _ (kK (VFB.of_vb vR)) rfl
        refine pH3 3 (.pointer (some w.heap.size)) ?_;refine sC3 (fun _ m a _ _ _ _ e _ _ _ o=>?_) ?_
        · replace a:VFB B (fun _=>False) wr m:=fD a;have aF:_=_:=e 4 58 kR rfl;have U:=a.to_vb (fun _ _ g=>g);have O:=U.1.bk ak.out dC dC;have a5:=O.cell 1;go_simp;exact o _ _ (aG vR) rfl
        exact aC
      · intro v n g a e a8;replace a:VFB B (fun _=>False) wr n:=fD a;have ah:(fun x _=>x=.pointer (some gl)) (v (.tmp 57)) n:=e 3 57 dC rfl;have av:v (.tmp 59)=.int .i64 (b:Int):=e 5 59 dC rfl;obtain ⟨aA,ai⟩:=a8 3 dC;have az:(fun x _=>x=.pointer (some gl)) aA n:=ai;clear ai a8;simp only [zqq];rw [av];clear e;have E:=a.to_vb (fun _ _ g=>g);rw [show v (.tmp 57)=_ from ah];clear az a ah;change wpAny prog Region.Mode.any _ _ (1+g) (bX 6 7) _ n;rw [zCs 1 g];refine bQ (f:=g) (i:=6) kR ?_;refine bY rfl rfl ?_;generalize o:wpAny prog _ _ _ g _=K5;go_simp;refine (a1.out n E).mono ?_;rintro au aL ⟨rfl,ay,ac,ad⟩;subst o;refine bV kR ?_;have P:=(u.out.vb E.1).edited ac ad (by rw [a2.out];omega) (by rw [a2.out];have:=ao.out;omega);obtain ⟨I,H⟩:=hqq2 P.1 (a3.out.trans ((LFS.of_vb gs own' E).trans P.2));clear P ac ad E u a3 a1;go_wp2_with fail;go_roundw
        case rel=>exact ⟨d+1,ay,by omega,by go_num,I.out,H.out⟩
        case measure=>simp [intOf];omega
    · obtain rfl:d=c:=oM;obtain ⟨I,H⟩:=hqq2 l (an.out.trans s);clear l s;go_wp2_with fail;go_ret;exact ⟨rfl,own',I.out,H.out⟩
def zV (B own gs gl most rate N t e c a3 A k O w) (x:StAt w B own gs gl most rate t) (T:TabW w) (E:1 < B) (F:t.length=N) (Q:ArgZ w B own gs A k e) (b6:c+k<=N):
 Calls prog 25 #[gs,.agg #[(3:Int),(c:Int),(a3:Int),.slice A k O]] w (aFt w B own gs gl most rate (t.take c++(e++t.drop (c+e.length)))):=by
 have R:e.length=k:=by simpa using Q.1.1
 rw [R];have g:=EdW.mk' 3 (c:Int) a3 A k O x;have ag:=Q.vis g.low;have al:=LFS.of_below B gs own g.low;have Y:=mG B own gs gl most rate N t c k _ g.st F;have ak:dL N (c:Int) (k:Int)=true:=zBz oM;rw [ak] at Y;have D:=g.box.cell 0;have aL:=g.box.cell 1;have aM:=g.box.cell 2;have P:=g.box.cell 3;have aT:=x.n127;have a1:=x.len;rw [F] at aT a1;have ah:=T.below g.low T.pos;obtain ⟨y,ay,aF,a7,a4,a8,a5,C,a6⟩:=hqq9 g.st ag al g.ap Y g.box F R ah;have aI:=lhd a1;clear x Q g ag al Y ak F R T ah a1;go_enter func25,ntmps25;go_wp2_with fail;refine a4.out.mono ?_;rintro aN w1 ⟨rfl,rfl⟩;clear a4;go_wp2_with fail;generalize w.alloc (.cells #[(3:Int),(c:Int),(a3:Int),.slice A k O] 44)=w1 at*
 clear D aL aM P;refine wp_region_any kR ?_;refine aO [27,28,29,30,31,32,33,34,35,36,37,38,39,40,41,42,43,44,45,26] (VB B) (Vs [is w.heap.size,is (.int .i64 3),is (.bool false),is (.bool false),is undef,is undef,is undef,is undef,is undef,is undef,is undef,is undef,is undef,is undef,is undef,is undef,is undef,is undef,is (.bool false),is (.bool false)]) _ _ rfl kR vR (fun _ _=>VisK.trans) (cS tA1) ?_ ?_
 · refine aK ?_;refine pH 3 (.pointer (some w.heap.size)) ?_;refine sC (fun _ o b _ _ _ d _ _ _ m=>?_) ?_
   · have aZ:_=_:=d 0 27 kR rfl;replace b:(VB B) w1 o:=bD b;have W:=b.1.bk a8.out dC dC;have ad:=W.cell 0;go_simp;exact m _ _ vR rfl
   refine pV 1 28 ?_;refine pV 2 29 ?_;refine aB ?_ ?_;exact sK 30 false fun _=>vR;refine aB ?_ ?_;exact sK 30 false fun _=>vR;refine aB ?_ ?_;exact sK 30 false fun _=>vR;refine aB ?_ ?_;exact sK 30 false fun _=>vR;refine aB ?_ ?_;exact sK 30 false fun _=>vR;refine aB ?_ ?_;exact sK 30 false fun _=>vR;refine aB ?_ ?_;exact sK 30 false fun _=>vR;refine aB ?_ ?_;exact sK 30 false fun _=>vR;refine aB ?_ ?_;exact sK 30 false fun _=>vR;refine aB ?_ ?_;exact sK 30 false fun _=>vR;refine aB ?_ ?_;exact sK 30 false fun _=>vR;refine aB ?_ ?_;exact sK 30 false fun _=>vR;refine aB ?_ ?_;exact sK 30 false fun _=>vR;refine aB ?_ ?_;exact sK 30 false fun _=>vR;refine pW 3 30 17 44 ?_;refine pV 18 45 ?_;exact aC
 · intro v q b d;replace b:(VB B) w1 q:=bD b;have af:v (.tmp 26)=.bool false:=d 19 26 rfl;simp only [zqq];rw [af];clear d;have aq:=y.out.vb b.1;have a0:=LFS.of_vb gs own b;have G:=b.1.bk a8.out dC dC;have D:=G.cell 0;have P:=G.cell 3;obtain ⟨ac,aH,az,aA,aE⟩:=hqq5 aq (aF.out.trans a0) (ay.out.step a0) (a6.out.vb b E a6.out.pos) G;clear aq a0 G b af;go_wp2_with fail;clear D P;go_loopw [6,7,65] (fun _ _ K wr=>∃(a:Nat) (own':Nat->Nat),a<=k/\K=.int .i64 (a:Int)/\StAt wr B own' gs gl most rate (t.take c++(e.take a++t.drop (c+a)))/\LFS B gs q wr own own') (fun _ _ K _=>k -(intOf K).toNat)
   case atStart=>exact ⟨0,own,by omega,rfl,by rw [List.take_zero,List.nil_append,zBq,zAu];exact ac.out,LFS.refl _ _ _ _⟩
   case round=>
    obtain ⟨a,own',b5,rfl,n,u⟩:=hrel;by_cases aS:a < k
    · obtain ⟨s,U⟩:∃s,e[a]?=some s:=⟨_,zAa (by rw [C.out];exact aS)⟩;have ao:c+a < t.length:=(by rw [a5.out];omega);have H:=aFB t e (p:=c) (j:=a) (by rw [C.out];omega) oM;have Z:=aFB t e (p:=c) (j:=a+1) (by rw [C.out];omega) oM;rw [a5.out] at H Z;have I:=fun o (au:VB B wr o)=>aJA o B own' gl (t.take c++(e.take a++t.drop (c+a))) rate (c+a) s (n.vb au.1).live ((aA.out.below (u.below ac.out.size) E).vb au E (by have:=n.size;omega)) E (by rw [H];omega) (by rw [H];omega) n.r1 n.r2;unfold aB2 at I;rw [aH7 t e U ao] at I;obtain ⟨aJ,aU,rfl,b4,aj⟩:=((az.out.step u).1).2 oM;have aY:wr.cell? ⟨aJ,aU+a,none⟩=some (.int .u8 (s.toNat:Int)):=aj a _ (by rw [zAf,U];rfl);have V:=u.bk aE.out a7.out.col a7.out.ne dC dC;have aD:=lhd V;have D:=V.cell 0;have ae:IntKind.i64.wrap ((c:Int)+(a:Int))=((c+a:Nat):Int):=(by rw [wI0];omega);obtain ⟨y,aa,ab,a9,ax⟩:=hqq5 n u I Z ae;clear ae n u I H Z U aj V ao;go_wp2_with fail;refine wp_region_any kR ?_;refine cB B 9 [73,74,75,76,77,78,79,80,81] (fun _=>False) 3 [] (fun _=>True) (fun z _=>z=.pointer (some gl)) [is gs,is gs,is gs,cJ,is (.pointer (some ⟨w.heap.size,1,none⟩)),is (c:Int),is (a:Int),is (.int .i64 ((c+a:Nat):Int)),is (.int .u8 (s.toNat:Int))] _ _ rfl dC kR kR kR (trivial) (fun _ _ _ _ _=>trivial) (fun _ _ _ x _=>x) tA1 ?_ ?_
      · refine bJ ?_;refine pH3 0 (.pointer (some gs)) ?_;refine pV3 0 73 ?_;refine pV3 1 74 ?_;refine sC3 (fun _ o b _ _ _ _ d _ _ _ m=>?_) ?_
        · replace b:VFB B (fun _=>False) wr o:=fD b;have b0:_=_:=d 2 75 kR rfl;have a2:=b.to_vb (fun _ _ l=>l);have aR:=a2.1.bk y.out.blk dC dC;have ad:=aR.cell 0;go_simp;exact m _ _ (kK (VFB.of_vb vR)) rfl
        refine pH3 3 (.pointer (some w.heap.size)) ?_;refine sC3 (fun _ o b _ _ _ _ d _ _ _ m=>?_) ?_
        · replace b:VFB B (fun _=>False) wr o:=fD b;have b1:_=_:=d 4 77 kR rfl;have a2:=b.to_vb (fun _ _ l=>l);have W:=a2.1.bk aD.out dC dC;have ad:=W.cell 1;go_simp;exact m _ _ (aG vR) rfl
        refine pH3 6 (.int .i64 (a:Int)) ?_;refine sC3 (fun _ _ _ _ _ _ _ d _ _ _ m=>?_) ?_
        · have b2:_=_:=d 5 78 kR rfl;have b3:_=_:=d 6 79 kR rfl;go_simp;exact m _ _ (aG vR) (by first | rfl | exact congrArg (Value.int .i64) ax.out)
        refine pH3 7 (.int .u8 (s.toNat:Int)) ?_;exact aC
      · intro v q l b d ai;replace b:VFB B (fun _=>False) wr q:=fD b;have av:(fun z _=>z=.pointer (some gl)) (v (.tmp 76)) q:=d 3 76 dC rfl;have aP:v (.tmp 80)=.int .i64 ((c+a:Nat):Int):=d 7 80 dC rfl;have aQ:v (.tmp 81)=.int .u8 (s.toNat:Int):=d 8 81 dC rfl;obtain ⟨aX,aw⟩:=ai 3 dC;have aW:(fun z _=>z=.pointer (some gl)) aX q:=aw;clear aw ai;simp only [zqq];rw [aP];rw [aQ];clear d;have J:=b.to_vb (fun _ _ l=>l);rw [show v (.tmp 76)=_ from av];clear aW b av;change wpAny prog Region.Mode.any _ _ (1+l) (bX 9 10) _ q;rw [zCs 1 l];refine bQ (f:=l) (i:=9) kR ?_;refine bY rfl rfl ?_;generalize m:wpAny prog _ _ _ l _=K5;go_simp;refine (ab.out q J).mono ?_;rintro aN b7 ⟨rfl,aV,am,an⟩;subst m;refine bV kR ?_;have X:=(y.out.vb J.1).edited am an (by rw [a9.out];omega) (by rw [a9.out];have:=aI.out;omega);obtain ⟨M,L⟩:=hqq2 X.1 (aa.out.trans ((LFS.of_vb gs own' J).trans X.2));clear X am an J y aa ab;go_wp2_with fail;go_roundw
        case rel=>exact ⟨a+1,aV,by omega,by go_num,M.out,L.out⟩
        case measure=>simp [intOf];omega
    · obtain rfl:a=k:=oM;have ar:e.take a=e:=zAg (by rw [C.out];exact zAs _);rw [ar] at n;clear ar;obtain ⟨M,L⟩:=hqq2 n (aH.out.trans u);clear n u;go_wp2_with fail;go_ret;exact ⟨rfl,own',M.out,L.out⟩
end
end Go.Proofs.YtecdldbdednahaaGreatDoor
