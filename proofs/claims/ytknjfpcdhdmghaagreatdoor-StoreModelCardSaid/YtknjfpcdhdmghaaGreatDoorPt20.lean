/- Lemmas of the walk. Conditions: each its own. -/
import Derived.Test.YtknjfpcdhdmghaaGreatDoorPt18
import Derived.Test.YtknjfpcdhdmghaaGreatDoorPt19
set_option linter.all false
set_option maxRecDepth 100000
set_option maxHeartbeats 4000000
open Go.Proofs.Tryz
namespace Go.Proofs.YtknjfpcdhdmghaaGreatDoor
section
open Go.RowKit Go.Shelf
def ShelfRow.same {o w' e n f lv l} (q:ShelfRow o e n f lv l) (k:∀a d b,Bk o a d b->Bk w' a d b):ShelfRow w' e n f lv l:=by
 obtain ⟨p,r,g⟩:=q;exact ⟨p,aC r λa b _ c=>k _ _ _ c,λm j=>⟨(g m j).1,(g m j).2.same λa d b _ c=>k _ _ _ c⟩⟩
def WalkAt.same {g w' b gk c} (l:WalkAt g b gk c) (a:∀d f e,Bk g d f e->Bk w' d f e):WalkAt w' b gk c:=by
 obtain ⟨k,j,n,⟨m,S,s,o,p⟩,q⟩:=l;exact ⟨k,j,a _ _ _ n,⟨m,S,s,a _ _ _ o,λlv r=>(p lv r).same a⟩,a _ _ _ q⟩
def LvW (a:World) (b d:Nat) (c:List Nat):Prop:=∃gk e f g,Bk a d 104 #[.pointer (some ⟨gk,0,none⟩),e,f,g]/\WalkAt a b gk c
def LvW.b {e w' a c b} (f:LvW e a c b) (d:Vis e w'):LvW w' a c b:=by
 obtain ⟨gk,k,l,m,g,j⟩:=f;exact ⟨gk,k,l,m,d.d g dC dC,j.b d⟩
def LvW.same {j w' a e b} (k:LvW j a e b) (f:∀c g d,Bk j c g d->Bk w' c g d):LvW w' a e b:=by
 obtain ⟨gk,n,o,p,l,m⟩:=k;exact ⟨gk,n,o,p,f _ _ _ l,m.same f⟩
def LvW.lt {b c a d} (e:LvW b c a d):a < b.heap.size:=by
 obtain ⟨gk,j,k,l,f,g⟩:=e;exact f.lt
def ShelfRow.bh {o p e n f lv l} (r:ShelfRow o e n f lv l) (k:∀a c b,c≠3->Bk o a c b->Bk p a c b):ShelfRow p e n f lv l:=by
 obtain ⟨q,s,g⟩:=r;exact ⟨q,aC s λa b _ d=>k _ _ _ dC d,λm j=>⟨(g m j).1,(g m j).2.same λa c b ht d=>k _ _ _ (by rintro rfl;revert ht;decide) d⟩⟩
def LvW.bh {j k c g d} (n:LvW j c g d) (a:∀e b f,b≠3->Bk j e b f->Bk k e b f):LvW k c g d:=by
 obtain ⟨gk,u,v,w,o,m,l,p,⟨hB,S,x,q,r⟩,s⟩:=n;exact ⟨gk,u,v,w,a _ _ _ dC o,m,l,a _ _ _ dC p,⟨hB,S,x,a _ _ _ dC q,λlv t=>(r lv t).bh a⟩,a _ _ _ dC s⟩
def LvW.cz {l d o q b e z p} (t:LvW l o q p) (g:VisF (λa=>a=b) l d) (u:Bk l b 3 #[e]) (v:Bk d b 3 #[z]):LvW d o q p:=by
 have s:Bk (d.setCell b e) b 3 #[e]:=v.set 0 e;have k:∀a,a≠b->(d.setCell b e).heap[a]?=d.heap[a]?:=λa x=>heap_setCell_other d ⟨b,0,none⟩ a e x;have y:Vis l (d.setCell b e):=by refine ⟨g.os,g.tape,g.output,by simpa [World.setCell] using g.size,λa w _=>?_⟩;by_cases c:a=b;subst c;exact .inl (s.trans u.symm);rcases g.block a w c with f |⟨j,n,f,m⟩|⟨j,n,f,m⟩;exact .inl ((k a c).trans f);exact .inr (.inl ⟨j,n,f,(k a c).trans m⟩);exact .inr (.inr ⟨j,n,f,(k a c).trans m⟩)
 refine (t.b y).bh λa A j ht r=>?_;have c:a≠b:=λc=>by subst c;exact ht (aU r s).1
 exact (k a c).symm.trans r
def LiveAt.ai {e a c gk k j o p q f l m b g n} (d:LiveAt e a c gk k j o p q f l m b g n):LvW e a c b:=⟨gk,_,_,_,d.a,d.walk⟩
def cD {B gl a n w} (e:LvW w B gl a) (g:a.length=n+1) (l:n<=1000000):
 Calls prog 24 #[gl] w λb d=>b=.returned (.int .i64 n)/\w=d:=by
 obtain ⟨gk,m,o,p,c,f⟩:=e;have j:=c.cell 0;have k:IntKind.i64.wrap ((n+1:Nat) - 1)=(n:Int):=zu
 clear c;go_enter func24,ntmps24;go_wp2_with fail;refine (mH f).mono ?_;rintro b d ⟨rfl,rfl⟩;rw [g];go_wp2_with fail;go_ret;exact ⟨fM oM,rfl⟩
def aIV (a b) {c d} (e:c<=d):cR a b c<=cR a b d:=by
 unfold cR;have:=(List.take_sublist_take_left (l:=a) e).count_le b;omega
def zG (b a e):cR b a e<=b.length:=by
 unfold cR;have k:=(zEY e b).count_le a;have l:b.countP (λc=>decide (c < a))+b.count a<=b.length:=by
  induction b with
  | nil=>simp
  | cons c j g=>
   have:=g ((zEY e j).count_le a);rw [zBn,zDg];by_cases d:c < a;have:¬c=a:=oM;simp [d,this];omega;by_cases f:c=a;simp [d,f];omega;simp [d,f];omega
 omega
end
section
open Go.RowKit
noncomputable def ltP (a:List Nat) (b c:Nat):Bool:=@decide (sufLt a c b) (Classical.propDecidable _)
def uQ (a b c):ltP a b c=true↔sufLt a c b:=by
 unfold ltP;exact @decide_eq_true_iff _ (Classical.propDecidable _)
def aCm {b a} (g:IsSuf b a) {i} (k:i < a.length):a.countP (ltP b a[i])=i:=by
 have n:(a.take i).countP (ltP b a[i])=i:=by rw [zDJ.2 λm f=>?_];rw [zAj];omega;obtain ⟨d,e,rfl⟩:=zBo.1 f;rw [zAj] at e;rw [zEC,uQ];exact zAr.1 g.B d i oM k oM
 have o:(a.drop i).countP (ltP b a[i])=0:=zDU.2 λm f c=>by obtain ⟨d,e,rfl⟩:=zBo.1 f;rw [zAw] at e;rw [zED,uQ] at c;rcases zBa d with j | j;subst j;exact sufLt.asymm c c;exact sufLt.asymm c (zAr.1 g.B i (i+d) k oM oM)
 have l:a.countP (ltP b a[i])=(a.take i++a.drop i).countP (ltP b a[i]):=congrArg (List.countP _) (zAu i a).symm;rw [l,zFj];omega
def aEf {a d} (e:IsSuf a d) (b:Nat->Bool) (k:∀g j,sufLt a g j->b j=true->b g=true) (f):((aH a d).take (d.countP b)).count f=(List.range a.length).countP (λc=>decide (bS a c=f)&&b c):=by
 rw [aH,<-zDw,wH e.B k,<-e.count,zEU,zEr,List.countP_filter];refine zDy λc _=>?_;simp [Function.comp,and_comm]
def lf {a e g} (f:IsSuf a e) (n:EndOk a g) {i o b} (q:i < e.length) (y:o < e.length) (x:e[i]=b+1) (z:e[o]=b):cR (aH a e) (a.getD b 0) i=o:=by
 have j:=n.len;have A:b < g:=zj (f.lt (zBj q))
 have B:=n.pos b A;obtain ⟨d,r⟩:=eqx (a.getD b 0);rw [r] at B⊢;have p:=aCm f q;have m:=aCm f y;rw [x] at p;rw [z] at m;have s:=aEf f (ltP a (b+1)) (λc F C u=>by rw [uQ] at u⊢;exact C.trans u) d;rw [p] at s;rw [f.count] at m;unfold cR;rw [s];have v:(aH a e).countP (λc=>decide (c < d))=(List.range (g+1)).countP (λb=>decide (a.getD b 0 < d)):=by
  rw [aH,zEr,f.count,j];refine iE _ _ ?_ λb D=>?_
  .show decide (bS a 0 < d)=_;rw [bV oM,j,zBb]
  .show decide (bS a (b+1) < d)=_;rw [bL oM]
 have w:(List.range a.length).countP (λc=>decide (bS a c=d)&&ltP a (b+1) c)=(List.range (g+1)).countP (λc=>decide (a.getD c 0=d)&&ltP a (b+1) (c+1)):=by
  rw [j];refine iE _ _ ?_ λc t=>?_;show (decide (bS a 0=d)&&_)=(decide (a.getD g 0=d)&&_);rw [bV oM,j,zBb,n.last];have:decide (0=d)=false:=zt;rw [this];rfl
  .show (decide (bS a (c+1)=d)&&_)=_;rw [bL oM]
 rw [v,w,<-wW,<-m,j];refine zDy λc t=>?_;have E:c < g+1:=(by simpa using t);rw [uQ,jF,fN (by omega:c < a.length),fN (by omega:b < a.length),r];simp only [zEX,zBd,zCa,uQ];constructor;rintro (k |⟨k,l⟩);exact .inl oM;exact .inr ⟨by omega,l⟩;rintro (k |⟨k,l⟩);exact .inl oM;exact .inr ⟨by omega,l⟩;intro c _;simp only [zBd,zCa];rintro ⟨k,l,_⟩;omega
def uT {a c d} (e:EndOk a d) {i b} (f:i < c.length) (g:c[i]=b+1) (k:b < d):(aH a c)[i]'(by rw [bY];exact f)=a.getD b 0:=by
 have j:=e.len;unfold aH;rw [zGr,g,bL oM]
def IsSuf.row {d b} (f:IsSuf d b) {p} (g:p < d.length):∃a,∃c:a < b.length,b[a]=p:=by
 obtain ⟨a,c,e⟩:=zBo.1 (f.mem g);exact ⟨a,c,e⟩
def aDq {L k} (lv) (b:k < L.length):(aM L lv (bF L[k] lv))[gO L k L[k] lv]?=some (iF L[k] lv):=by
 unfold aM gO;have a:L=L.take k++L[k]::L.drop (k+1):=by rw [<-zAx b,zAu]
 generalize c:L[k]=s at a⊢;generalize L.take k=A at a⊢;rw [a,zEe,zEu,zBx zs,zAz,zFk,zAo zs];simp
def eW (b c lv a):aM (b++c) lv a=aM b lv a++aM c lv a:=by
 unfold aM;rw [zEe,zAz]
def mF (b c lv a):aM (b::c) lv a=if bF b lv=a then iF b lv::aM c lv a else aM c lv a:=by
 unfold aM;rw [zEu];by_cases d:bF b lv=a
 .simp [d]
 .simp [d]
def vB (a c lv b):aM a lv b=aM (a.take c) lv b++aM (a.drop c) lv b:=by
 rw [<-eW,zAu]
def aCt (a b c lv):(aM (a.take b) lv (bF c lv)).length=gO a b c lv:=by
 rw [iX];rfl
def aHd (b c a lv):aM (aT b c a) lv (bF a lv)=aT (aM b lv (bF a lv)) (gO b c a lv) (iF a lv):=by
 have d:=aCt b c a lv;unfold aT;rw [eW,mF,zBx rfl]
 conv=>rhs;rw [vB b c lv (bF a lv)]
 rw [<-d,List.take_left,zFV]
def aBD (b e c lv a) (d:bF c lv≠a):aM (aT b e c) lv a=aM b lv a:=by
 unfold aT;rw [eW,mF,zBw d,<-vB]
def aLO {a} {b c:Nat} (d:a[b]?=some c):a=a.take b++c::a.drop (b+1):=by
 obtain ⟨e,f⟩:=zAc.1 d;rw [<-f,<-zAx e,zAu]
def aHe {b c a} (lv) (f:b[c]?=some a):aM (aK b c) lv (bF a lv)=aK (aM b lv (bF a lv)) (gO b c a lv):=by
 have d:=aCt b c a lv;have e:aM b lv (bF a lv)=aM (b.take c) lv (bF a lv)++iF a lv::aM (b.drop (c+1)) lv (bF a lv):=by
  conv=>lhs;rw [aLO f]
  rw [eW,mF,zBx rfl]
 unfold aK;rw [eW,e];generalize aM (b.take c) lv (bF a lv)=A at d⊢;generalize aM (b.drop (c+1)) lv (bF a lv)=C;rw [<-d,List.take_left,zFE,zFh oM,show A.length+1 - A.length=1 by omega];rfl
def aBE {a c d} (lv b) (e:a[c]?=some d) (f:bF d lv≠b):aM (aK a c) lv b=aM a lv b:=by
 conv=>rhs;rw [aLO e]
 unfold aK;rw [eW,eW,mF,zBw f]
def aIk {α:Type} {b:List α} {a} (d:α) (e:a<=b.length):(aT b a d).take a=b.take a:=by
 unfold aT;have c:(b.take a).length=a:=by rw [zAj];omega
 rw [zEI,c,zDK,zDN,zEa,zEy,Nat.min_self]
def aNc {b} {e d c:Nat} (f:∀a∈b,a < c) (j:d < c):∀a∈aT b e d,a < c:=λa k=>by
 rcases zDf.1 ((fU b e d).mem_iff.1 k) with rfl | g;exact j;exact f a g
def rS {c} {g d:Nat} (e:∀a∈c,a < d):∀a∈aK c g,a < d:=λa f=>by
 unfold aK at f;rcases zCp.1 f with b | b;exact e a (zFy b);exact e a (zFz b)
def TC (lv a:Nat):Nat:=16+512*lv+a
def aOU {lv a c b} (e:a < 512) (f:b < 512) (d:TC lv a=TC c b):lv=c/\a=b:=by
 unfold TC at d;omega
def aN7 {lv a} (c:lv < 9) (d:a < 2 ^ lv):a < 512:=by
 have:2 ^ lv<=2 ^ 9:=zBp dC oM;have b:(2:Nat)^ 9=512:=dC;omega
def eD (own:Nat->Nat) (d c b a:Nat):Nat:=if a < d then own a else if a < c then b else 0
structure WaveS (w:World) (B:Nat) (own:Nat->Nat) (gv:Nat) (S:Nat->Value) (Ls:Nat->List Nat) (n v:Int):Prop where
 a:Bk w gv 191 (wcells S n v)
 base:B<=gv/\own gv=2
 rows:∀lv,lv < 9->∃G:Nat->Nat,w.ownsRow B 194 3 (S lv) (2 ^ lv) (eG G lv (2 ^ lv))/\(∀b,(S lv).ownBlock=some b->own b=2)/\∀p,p < 2 ^ lv->TreeE w (λb=>own b=TC lv p) (G p) (aM (Ls lv) lv p)
 q:∀b,own b≠0->B<=b/\b < w.heap.size
def WaveE (e:World) (b:Nat) (own:Nat->Nat) (c:Nat) (a:List Nat):Prop:=∃S d,WaveS e b own c S (λ_=>a) (a.length:Int) d
def WaveS.b {l w' d own g} {S:Nat->Value} {e:Nat->List Nat} {k u} (a:WaveS l d own g S e k u) (b:Vis l w'):∃c,WaveS w' d own g S e k c:=by
 obtain ⟨c,q⟩:=b.Q a.a;refine ⟨c,q,a.base,λlv r=>?_,λf j=>⟨(a.q f j).1,zAl (a.q f j).2 b.size⟩⟩;obtain ⟨m,n,o,p⟩:=a.rows lv r;exact ⟨m,b.own n dC dC,o,λt s=>(p t s).b b⟩
def WaveE.b {e w' b own d c} (a:WaveE e b own d c) (g:Vis e w'):WaveE w' b own d c:=by
 obtain ⟨S,k,a⟩:=a;obtain ⟨j,f⟩:=a.b g;exact ⟨S,j,f⟩
def WaveE.at {k d own g e} (a:WaveE k d own g e):WaveAt k d g e:=by
 obtain ⟨S,o,a⟩:=a;refine ⟨a.base.1,S,o,a.a,λlv n=>?_⟩;obtain ⟨c,l,p,f⟩:=a.rows lv n;refine ⟨c,l,λb j=>⟨?_,(f b j).at⟩⟩;have m:own (c b)=TC lv b:=(f b j).W;exact (a.q (c b) (by rw [m];unfold TC;omega)).1
def WaveS.K {f m u own y} {S:Nat->Value} {r:Nat->List Nat} {F a9 Q} (g:WaveS f u own y S r F a9) {lv p gx} (a5:lv < 9) (a7:p < 2 ^ lv) {q} (Z:f.ownsRow u 194 3 (S lv) (2 ^ lv) (eG q lv (2 ^ lv))) (L:own gx < 16) (a3:∀w,¬Bk f gx 194 w) {I} (ht:TreeE m (Gw (λa=>own a=TC lv p) f.heap.size) (q p) I) (E:Keep (λG=>own G=TC lv p∨G=y∨G=gx) f m) (D:Bk m y 191 (wcells S F Q)) {L'} (a1:aM L' lv p=I) (a2:∀c,c≠p->aM L' lv c=aM (r lv) lv c):
 WaveS m u (eD own f.heap.size m.heap.size (TC lv p)) y S (λb=>if b=lv then L' else r b) F Q:=by
 have hB:u<=f.heap.size:=zAk g.base.1 (zCm g.a.lt);have B:∀a,a < f.heap.size->eD own f.heap.size m.heap.size (TC lv p) a=own a:=λa D=>by unfold eD;rw [zBx D]
 refine ⟨D,⟨g.base.1,by rw [B _ g.a.lt];exact g.base.2⟩,λb P=>?_,λa l=>?_⟩
 .obtain ⟨o,x,J,K⟩:=g.rows b P;refine ⟨o,aC x λa w A s=>E.d s λd=>?_,λa A=>?_,λc t=>?_⟩;rcases d with d | d | d;rw [J a A] at d;unfold TC at d;omega;subst d;exact absurd (aU s g.a).1 dC;subst d;exact a3 w s;rw [B _ (x.lt a A).2];exact J a A
  .have O:(b≠lv∨c≠p)->TreeE m (λa=>eD own f.heap.size m.heap.size (TC lv p) a=TC b c) (o c) (aM (r b) b c):=λa6=>by
    have a8:=(K c t).keep E λa an w M s j d=>by rcases d with d | d | d;rw [j] at d;obtain ⟨e,n⟩:=aOU (aN7 P t) (aN7 a5 a7) d;rcases a6 with z | z;exact z e;exact z n;subst d;rw [(aU s g.a).1] at M;exact absurd M dC;subst d;rw [j] at L;unfold TC at L;omega
    have am:TreeE f (λa=>own a=TC b c) (o c) (aM (r b) b c):=K c t;refine a8.mono λa l j=>?_;have a4:a < f.heap.size:=(g.q a (by rw [j];unfold TC;omega)).2;rw [B a a4];exact j
   by_cases e:b=lv
   .subst e;rw [zBx rfl];by_cases n:c=p
    .subst n;rw [a1]
     have a0:o c=q c:=by
      have z:=x.1;have e:=(gF o b (2 ^ b) c t).1;have n:=(gF q b (2 ^ b) c t).1
      have Y:eG o b (2 ^ b)=eG q b (2 ^ b):=by
       rcases x.2 with ⟨H,T⟩|⟨ak,ag,ai,H,T,U,aa,ab,ac,V⟩;have:=zFn b;omega
       .rcases Z.2 with ⟨k,v⟩|⟨al,ah,aj,k,v,W,ad,ae,af,X⟩;have:=zFn b;omega
        .rw [H] at k;injection k with k _ _;injection k with k;injection k with k _;subst k;obtain ⟨_,rfl⟩:=aU U W;rw [<-V,<-X]
      rw [Y,n] at e;injection e with e;injection e with e;injection e with e;injection e with e _;exact e.symm
     rw [a0];refine ht.mono λa l j=>?_;rcases j with j | j;rw [B a (g.q a (by rw [j];unfold TC;omega)).2];exact j
     .unfold eD;rw [zBw oM,zBx l]
    rw [a2 c n];exact O (.inr n)
   rw [zBw e];exact O (.inl e)
 unfold eD at l;by_cases C:a < f.heap.size;rw [zBx C] at l;exact ⟨(g.q a l).1,zAl C E.size⟩;rw [zBw C] at l;by_cases v:a < m.heap.size;exact ⟨by omega,v⟩;rw [zBw v] at l;exact absurd rfl l
def aJX (S:Nat->Value) (c a b):(wcells S c b).setIfInBounds 9 (.int .i64 a)=wcells S a b:=by
 unfold wcells;rfl
def WaveS.b8 {f j own b} {S:Nat->Value} {k:Nat->List Nat} {z o} (c:WaveS f j own b S k z o) (e):WaveS (f.setCell ⟨b,9,none⟩ (.int .i64 e)) j own b S k e o:=by
 have g:Keep (λa=>a=b) f (f.setCell ⟨b,9,none⟩ (.int .i64 e)):=ka (F:=λa=>a=b) (ke _ _) (p:=⟨b,9,none⟩) (.inl rfl) _;refine ⟨by have:=c.a.set 9 (.int .i64 e);rw [aJX] at this;exact this,c.base,λlv x=>?_,λa l=>⟨(c.q a l).1,zAl (c.q a l).2 g.size⟩⟩;obtain ⟨q,u,v,w⟩:=c.rows lv x;exact ⟨q,aC u λa r _ d=>g.d d (Bk.ne d c.a dC),v,λn y=>(w n y).keep g λa A r m d _ s=>by
  have t:a=b:=s;subst t;rw [(aU d c.a).1] at m;exact absurd m dC⟩
def WaveS.m {p w' f own k} {S:Nat->Value} {g:Nat->List Nat} {n o} (b:WaveS p f own k S g n o) {H} (d:Keep H p w') (e:∀a,H a->own a≠2/\own a < 16):WaveS w' f own k S g n o:=by
 refine ⟨d.d b.a (λc=>by have:=e _ c;have:=b.base.2;omega),b.base,λlv w=>?_,λa l=>⟨(b.q a l).1,zAl (b.q a l).2 d.size⟩⟩;obtain ⟨q,s,j,t⟩:=b.rows lv w;exact ⟨q,aC s λa r u m=>d.d m (λc=>by have:=e _ c;have:=j a u;omega),j,λy x=>(t y x).keep d λa A r z m v c=>by
  have:=e a c;rw [v] at this;unfold TC at this;omega⟩
def WaveE.m {f w' c own e d} (b:WaveE f c own e d) {H} (j:Keep H f w') (g:∀a,H a->own a≠2/\own a < 16):WaveE w' c own e d:=by
 obtain ⟨S,k,b⟩:=b;exact ⟨S,k,b.m j g⟩
def WaveS.aq {c d own own' e} {S:Nat->Value} {j:Nat->List Nat} {n o} (b:WaveS c d own e S j n o) (f:∀a,a < c.heap.size->2<=own a->own' a=own a) (r:∀a,own' a≠0->d<=a/\a < c.heap.size):WaveS c d own' e S j n o:=by
 refine ⟨b.a,⟨b.base.1,by rw [f e b.a.lt (by rw [b.base.2];omega)];exact b.base.2⟩,λlv t=>?_,r⟩;obtain ⟨p,k,l,q⟩:=b.rows lv t;refine ⟨p,k,λa g=>?_,λv u=>(q v u).mono λa s m=>?_⟩;rw [f a (k.lt a g).2 (by rw [l a g];omega)];exact l a g;rw [f a s (by rw [m];unfold TC;omega)];exact m
def WaveE.aq {b c own own' f e} (d:WaveE b c own f e) (g:∀a,a < b.heap.size->2<=own a->own' a=own a) (j:∀a,own' a≠0->c<=a/\a < b.heap.size):WaveE b c own' f e:=by
 obtain ⟨S,k,d⟩:=d;exact ⟨S,k,d.aq g j⟩
def aLW (N:Nat) (c:TypeId) (b:Array Value):Value->World->Prop:=λd e=>∃a,d=.pointer (some ⟨a,0,none⟩)/\Bk e a c b/\N<=a
def aLV {d b} (N a k) (l:a≠233) (m:a≠191) (n:∀j,¬b j):aJB (VFB d b) (aLW N a k):=λ_ _ _ ⟨c,e,f,g⟩ o=>⟨c,e,o.1.d f l m (n c),g⟩
def WaveS.cells {d f own a} {S:Nat->Value} {g:Nat->List Nat} {b c} (e:WaveS d f own a S g b c):(∀i,i < 9->d.cell? ⟨a,i,none⟩=some (S i))/\d.cell? ⟨a,9,none⟩=some (.int .i64 b)/\d.cell? ⟨a,10,none⟩=some (.int .i64 c):=by
 obtain ⟨m,n,o,p,q,r,s,t,u,k,j⟩:=cK S b c;exact ⟨λi l=>(e.a.cell i).trans (vZ S b c l),(e.a.cell 9).trans k,(e.a.cell 10).trans j⟩
def aPh (f:World) (c:Nat) (own:Nat->Nat) (e:Nat) (b:List Nat) (d:Nat):Prop:=∃S a,WaveS f c own e S (λ_=>b) (b.length:Int) a/\0<=a/\a<=(d:Int)
def aF1 {S:Nat->Value} {b c d} (e:wcells S b c=wcells S b d):c=d:=by
 have a:=(cK S b c).2.2.2.2.2.2.2.2.2.2;rw [e,(cK S b d).2.2.2.2.2.2.2.2.2.2] at a;injection a with a;injection a with _ a;exact a.symm
def WaveS.bg {g c d own a} {S:Nat->Value} {e:Nat->List Nat} {b n v'} (k:WaveS g d own a S e b n) (m:Vis g c) (l:Bk c a 191 (wcells S b v')):WaveS c d own a S e b v':=by
 obtain ⟨o,f⟩:=k.b m;have j:=aF1 (aU f.a l).2;subst j;exact f
def WaveS.below {b j B own d} {S:Nat->Value} {c:Nat->List Nat} {f g} (a:WaveS b B own d S c f g) (e:Below b.heap.size b j):WaveS j B own d S c f g:=a.bg (kb e) (a.a.below e a.a.lt)
def aO7 {v d C q:Nat} (a:v<=q) (b:d<=C) (e:q<=100000) (c:C<=100000):IntKind.i64.wrap (v+d)=((v+d:Nat):Int):=by rw [wI0];omega
def aDw {ad j x:Nat} {own m} (r:Nat) {o:Nat} {l} (A:WaveE l ad own j m) (ao:o < 257) (aD:r<=m.length) (aS:∀Z∈m,Z < 257) (cd:m.length<=895) (de:HtB x (m.length+1)) (eb:x<=1100):
 Calls prog 175 #[j,(r:Int),(o:Int)] l λu bj=>u=.returned (.int .i64 0)/\∃bh,aPh bj ad bh j (aT m r o) (9*(6*x+3))/\(∀a,a < l.heap.size->bh a=own a)/\(∀a,l.heap.size<=a->bh a≠1)/\Keep (λa=>a=j∨16<=own a) l bj:=by
 have bO:=nG (L:=m) (k:=r) (s0:=o) aD aS ao;obtain ⟨S,bi,A⟩:=A;obtain ⟨z,aH⟩:=eqx m.length;rw [aH] at A aD cd;have c7:(aT m r o).length=z+1:=by rw [cM _ _ oM,aH]
 obtain ⟨d5,d4,cW⟩:=A.cells;have d7:=A.a.frozen 10;have dn:=A.a.lt;have hB:ad<=l.heap.size:=zAk A.base.1 (zCm dn);have aj:=A.bg (v':=0) ((VisK.alloc (VB.N A.a A.base.1 0) (.cells #[(r:Int)] 3)).1) (by have:=(A.a.set 10 (.int .i64 0)).alloc (.cells #[(r:Int)] 3);rw [eS] at this;exact this);have di:j≠l.heap.size:=oM;have a8:=kd (l.setCell ⟨j,10,none⟩ (.int .i64 0)) 3 #[(r:Int)];rw [show (l.setCell ⟨j,10,none⟩ (.int .i64 0)).heap.size=l.heap.size by simp [World.setCell]] at a8;have b7:Keep (λa=>a=j∨16<=own a) l ((l.setCell ⟨j,10,none⟩ (.int .i64 0)).alloc (.cells #[(r:Int)] 3)):=(ka (F:=λa=>a=j∨16<=own a) (ke _ _) (p:=⟨j,10,none⟩) (.inl (.inl rfl)) _).alloc _;obtain ⟨M,aV⟩:=eqx ((l.setCell ⟨j,10,none⟩ (.int .i64 0)).alloc (.cells #[(r:Int)] 3));rw [aV] at aj a8 b7;obtain ⟨U,bC,cX⟩:=aj.cells;have cV:∀c,(M.drewN c).cell? j=some (S 0):=λc=>U 0 oM;have a1:∀c,(M.drewN c).cell? ⟨j,1,none⟩=some (S 1):=λc=>U 1 oM;have av:∀c,(M.drewN c).cell? ⟨j,2,none⟩=some (S 2):=λc=>U 2 oM;have cY:∀c,(M.drewN c).cell? ⟨j,3,none⟩=some (S 3):=λc=>U 3 oM;have cZ:∀c,(M.drewN c).cell? ⟨j,4,none⟩=some (S 4):=λc=>U 4 oM;have d0:∀c,(M.drewN c).cell? ⟨j,5,none⟩=some (S 5):=λc=>U 5 oM;have d1:∀c,(M.drewN c).cell? ⟨j,6,none⟩=some (S 6):=λc=>U 6 oM;have d2:∀c,(M.drewN c).cell? ⟨j,7,none⟩=some (S 7):=λc=>U 7 oM;have d3:∀c,(M.drewN c).cell? ⟨j,8,none⟩=some (S 8):=λc=>U 8 oM;have bD:M.cell? ⟨j,9,none⟩=some (.int .i64 z):=bC;have bE:M.cell? l.heap.size=some (.int .i64 r):=(a8.cell 0).trans rfl;have dk:decide ((r:Int) < 0)=false:=zs
 have em:¬z < r:=oM;have en:¬((r:Int) > z):=oM;have bV:=aj.a.lt;have aW:=a8.lt;obtain ⟨bm,br,bv,cq,dN,aN,cG,bn,dP⟩:=hqq9 aj a8 b7 bO aS aH c7 aV aD;obtain ⟨dO,c0⟩:=hqq2 A.base A.q;clear A aj a8 b7 bO aS aH c7 aV d5 U bC cX aD;go_enter func175,ntmps175;go_wp2_with fail;rw [bn.out];clear cW d7 d4;refine (fW (s:=o) _ ao).mono ?_;rintro u w1 ⟨rfl,a6⟩;have a4:w1.cell? ⟨j,9,none⟩=some (.int .i64 z):=(a6.cell (p:=⟨j,9,none⟩) bV).trans bD;have bH:w1.cell? l.heap.size=some (.int .i64 r):=(a6.cell (p:=l.heap.size) aW).trans bE;have G:=bm.below a6;have b6:=br.below a6 aW;have c8:Keep (λa=>a=j∨16<=own a) l w1:=bv.trans (kF a6);have dW:∀c,(w1.drewN c).cell? j=some (S 0):=λc=>G.cells.1 0 oM;have d6:∀c,(w1.drewN c).cell? ⟨j,1,none⟩=some (S 1):=λc=>G.cells.1 1 oM;have dX:∀c,(w1.drewN c).cell? ⟨j,2,none⟩=some (S 2):=λc=>G.cells.1 2 oM;have dY:∀c,(w1.drewN c).cell? ⟨j,3,none⟩=some (S 3):=λc=>G.cells.1 3 oM;have dZ:∀c,(w1.drewN c).cell? ⟨j,4,none⟩=some (S 4):=λc=>G.cells.1 4 oM;have e5:∀c,(w1.drewN c).cell? ⟨j,5,none⟩=some (S 5):=λc=>G.cells.1 5 oM;have e6:∀c,(w1.drewN c).cell? ⟨j,6,none⟩=some (S 6):=λc=>G.cells.1 6 oM;have e7:∀c,(w1.drewN c).cell? ⟨j,7,none⟩=some (S 7):=λc=>G.cells.1 7 oM;have e8:∀c,(w1.drewN c).cell? ⟨j,8,none⟩=some (S 8):=λc=>G.cells.1 8 oM;have ek:=G.a.lt;have ef:=b6.lt;have dU:∀c,(w1.drewN c).cell? ⟨j,9,none⟩=some (.int .i64 z):=λc=>a4;have dV:∀c,(w1.drewN c).cell? l.heap.size=some (.int .i64 r):=λc=>bH;obtain ⟨cs,cE,cH⟩:=hqq3 G b6 c8;clear G b6 c8 a6 bm br bv cV a1 av cY cZ d0 d1 d2 d3 bD bE bV aW bn;go_wp2_with fail;go_quiet (fail);clear a4 bH dk;go_wp2_with fail;go_loopw [35] (λi wr=>∃(lv:Nat) (E:Nat->Nat) (Q:Nat),lv<=9/\i=.int .i64 lv/\WaveS wr ad E j S (λP=>if P < lv then aT m r o else m) (z:Int) (Q:Int)/\Bk wr l.heap.size 3 #[.int .i64 (gO m r o lv:Nat)]/\(∀a,a < l.heap.size->E a=own a)/\(∀a,l.heap.size<=a->E a≠1)/\E l.heap.size=0/\Keep (λa=>a=j∨16<=own a) l wr/\Q<=lv*(6*x+3)) (λi _=>9 -(intOf i).toNat)
 case atStart=>refine ⟨0,own,0,by omega,rfl,?_,?_,λ_ _=>rfl,λa X u=>?_,?_,?_,by omega⟩;have ax:=λc=>cs.below (km (kg w1.heap.size w1) c);simpa using ax _;rw [cq.out];exact cE.drewN _;have:=(c0 a oM).2;omega;rcases zBa (own l.heap.size) with u | u;exact u;have:=(c0 l.heap.size oM).2;omega;exact cH.drewN _
 case round=>
  obtain ⟨lv,E,Q,eo,rfl,a2,az,aJ,aK,b8,aE,ci⟩:=hrel;by_cases aa:lv < 9
  .have dj:=ix9 (lv:=lv) S aa;obtain ⟨K,ab,dq,bd⟩:=a2.rows lv aa;obtain ⟨aq,aF⟩:=eqx (2 ^ lv);obtain ⟨e,Y⟩:=eqx (bF o lv);have b9:e < aq:=(by rw [<-aF,<-Y];exact nY (s:=o) lv ao oM);have dr:e < 2 ^ lv:=(by rw [aF];exact b9);have dd:=lhd ab;rw [aF] at ab bd;obtain ⟨a5,ah,bU,ep,ej⟩:=kj ab oM;rw [bU] at dj ab;obtain ⟨Z,ap⟩:=eqx (gO m r o lv);obtain ⟨J,ac⟩:=eqx (gO m r o (lv+1));obtain ⟨a,ay⟩:=eqx (iF o lv);have bf:=nH (lv:=lv) m r o aa;have be:=aId m r o lv;have b0:=aHd m r o lv;have b4:=aBD m r o lv;have b3:(aM m lv (bF o lv)).length<=895:=(by rw [iX];exact zAk zBh (by rw [aN.out];exact cd));rw [Y,ap,ay,ac] at bf;rw [Y,ap] at be;rw [Y,ap,ay] at b0;rw [Y] at b3 b4;rw [ap] at az;have ch:TreeE wr (λa=>E a=TC lv e) (K e) (aM m lv e):=(by have:=bd e b9;rw [zBw oM] at this;exact this);have eq:(e:Int) < aq:=oM;obtain ⟨cL,bz,cT,ag,cw,cz,cy,cN,cv⟩:=hqq9 ab ch bf be b0 b4 b3 Y ay;obtain ⟨cU,au,aO,af,aQ,bx,bw⟩:=hqq7 ac a2 az aJ aK b8 aE;clear ab bd bU aF Y ap ac ay bf be b0 b4 b3 a2 az aJ aK b8 aE ch dq;go_wp2_with fail;refine wp_region_any kR<|cC (pre:=(λ_=>True)) (pJ:=(is (.bool a))) wr.heap.size 11 [39,40,41,42,43,44,45,46,47,9,10] (λ_=>False) 8 [] [is (.slice (some a5) aq ah),is (o:Int),is (lv:Int),is (e:Int),is (.pointer (some ⟨a5,e*3,none⟩)),is (.agg #[.pointer (some ⟨K e,0,none⟩),(lv:Int),(e:Int)]),is (o:Int),is (lv:Int),cO,aLW wr.heap.size 194 #[.pointer none,o0,o0],aLW wr.heap.size 4 #[false]] _ rfl dC kR kR kR (trivial) (λ_ _ _ _ _=>trivial) (jN _ _) (by repeat' (first | exact jN _ _ | exact lE _ | exact aLV _ _ _ dC dC (λ_ g=>g)|(refine zAe.2 ⟨?_,?_⟩)|(intro e Y;cases Y))) ?_ ?_
   .refine bB<|pH3 8 (.slice (some a5) aq ah)<|pH3 2 (.int .i64 o)<|pH3 7 (.int .i64 lv)<|sC3 (λ_ I _ _ _ _ _ D _ _ _ B=>?_) ?_
    .have e0:_=_:=D 1 40 kR rfl;have e1:_=_:=D 2 41 kR rfl;go_simp;refine (mI (s:=o) lv I ao oM).mono ?_;rintro u dB ⟨rfl,aZ⟩;rw [cN.out];exact B _ _ (aI (kc aZ)) rfl
    refine pW3 0 39 3 42<|sC3 (λ_ I y _ _ _ _ D _ _ _ B=>?_) ?_
    .replace y:VFB wr.heap.size (λ_=>False) wr I:=fD y;have e2:_=_:=D 4 43 kR rfl;have dt:=y.1.ak (λ_ _ g=>g);have bb:=dt.own cL dC dC;obtain ⟨dx,dy,dz⟩:=gF K lv aq e b9;have dQ:I.cell? ⟨a5,e*3,none⟩=_:=(kh bb (e*3) oM).trans dx;have dR:I.cell? ⟨a5,e*3+1,none⟩=_:=(kh bb (e*3+1) oM).trans dy;have dS:I.cell? ⟨a5,e*3+2,none⟩=_:=(kh bb (e*3+2) oM).trans dz;go_simp;exact B _ _ (aI vR) rfl
    refine pH3 2 (.int .i64 o)<|pH3 7 (.int .i64 lv)<|sC3 (λ_ I _ _ _ _ _ D _ _ _ B=>?_) ?_
    .have e3:_=_:=D 6 45 kR rfl;have e4:_=_:=D 7 46 kR rfl;go_simp;refine (oQ (s:=o) (lv:=lv) I ao oM).mono ?_;rintro u dB ⟨rfl,aZ⟩;rw [cv.out];exact B _ _ (aI (kc aZ)) rfl
    refine sC3 (λ_ I y _ _ _ _ _ _ _ _ B=>?_) ?_
    .replace y:VFB wr.heap.size (λ_=>False) wr I:=fD y;go_simp;exact B _ _ (aI (kc (bR.alloc nL _))) ⟨_,rfl,kd _ _ _,y.1.size⟩
    refine sC3 (λ_ I y _ _ _ _ _ _ _ _ B=>?_) ?_
    .replace y:VFB wr.heap.size (λ_=>False) wr I:=fD y;go_simp;exact B _ _ (aI (kc (bR.alloc nL _))) ⟨_,rfl,kd _ _ _,y.1.size⟩
    exact aB
   .intro aw T g y D bW;replace y:VFB wr.heap.size (λ_=>False) wr T:=fD y;have bI:aw (.tmp 44)=.agg #[.pointer (some ⟨K e,0,none⟩),(lv:Int),(e:Int)]:=D 5 44 dC rfl;have bK:aw (.tmp 47)=.bool a:=D 8 47 dC rfl;have dw:(aLW wr.heap.size 194 #[.pointer none,o0,o0]) (aw (.tmp 9)) T:=D 9 9 dC rfl;have dv:(aLW wr.heap.size 4 #[false]) (aw (.tmp 10)) T:=D 10 10 dC rfl;obtain ⟨dA,cn⟩:=bW 8 dC;have cm:(is (.bool a)) dA T:=cn;clear cn bW;simp only [zqq];rw [bI];rw [bK];clear D;obtain ⟨t,cp,V,aA⟩:=dw;obtain ⟨W,co,a7,c3⟩:=dv;rw [cp,co];have cj:Below wr.heap.size wr T:=y.2.e nL (λa X g=>by rcases g with g | g;exact g;omega);have dK:T.cell? t=some (.pointer none):=(V.cell 0).trans rfl;have dL:T.cell? ⟨t,1,none⟩=some (.int .i64 0):=(V.cell 1).trans rfl;have dM:T.cell? ⟨t,2,none⟩=some (.int .i64 0):=(V.cell 2).trans rfl;have d9:=V.frozen 0;have da:=V.frozen 1;have db:=V.frozen 2;have bl:T.cell? W=some (.bool false):=(a7.cell 0).trans rfl;have d8:=a7.frozen 0;have aG:t≠W:=Bk.ne V a7 dC;have aa:=V.lt;have dl:=a7.lt;obtain ⟨bq,bo,bA⟩:=hqq3 V a7 cj;clear V a7 cj y cm bI bK cp co;change wpAny prog Region.Mode.any _ _ (2+g) (bT 11 13) _ T;rw [show 2+g=g+1+1 by omega];refine aY (f:=g+1) (i:=11) kR ?_;refine bJ rfl rfl ?_;generalize B:wpAny prog _ _ _ (g+1) _=K5;go_simp;subst B;refine aY (f:=g) (i:=12) kR ?_;refine bJ rfl rfl ?_;generalize B:wpAny prog _ _ _ g _=K5;go_simp;subst B;refine bG kR ?_;obtain ⟨O,al⟩:=eqx (((((T.setCell t (.pointer (some ⟨K e,0,none⟩))).setCell ⟨t,1,none⟩ (.int .i64 lv)).setCell ⟨t,2,none⟩ (.int .i64 e)).setCell W (.bool a)));have bY:Bk O t 194 #[.pointer (some ⟨K e,0,none⟩),(lv:Int),(e:Int)]:=(by rw [<-al];exact (((bq.set 0 _).set 1 _).set 2 _).m (p:=W) aG _);have bX:Bk O W 4 #[.bool a]:=(by rw [<-al];exact (((bo.m (p:=t) (λu=>aG u.symm) _).m (p:=⟨t,1,none⟩) (λu=>aG u.symm) _).m (p:=⟨t,2,none⟩) (λu=>aG u.symm) _).set 0 _);have c9:Keep (λ_=>False) wr O:=(by rw [<-al];exact ka (F:=λ_=>False) (ka (F:=λ_=>False) (ka (F:=λ_=>False) (ka (F:=λ_=>False) (kF bA) (p:=t) (.inr aA) _) (p:=⟨t,1,none⟩) (.inr aA) _) (p:=⟨t,2,none⟩) (.inr aA) _) (p:=W) (.inr c3) _);rw [al];have bZ:Below wr.heap.size wr O:=c9.e nL (λ_ _ g=>g);obtain ⟨ae,bp,a3⟩:=hqq3 bY bX bZ;clear bY bX c9 bZ al dK dL dM d9 da db bl d8 bq bo bA aa dl;have bN:=au.below a3;have c5:=aO.below a3 aO.lt;have cf:=bz.below a3;have c6:=au.base.2;have c1:=au.q;have es:=a3.size;have ei:=aO.lt;have dD:O.cell? t=some (.pointer (some ⟨K e,0,none⟩)):=(ae.cell 0).trans rfl;have dE:O.cell? ⟨t,1,none⟩=some (.int .i64 lv):=(ae.cell 1).trans rfl;have dF:O.cell? ⟨t,2,none⟩=some (.int .i64 e):=(ae.cell 2).trans rfl;have ed:=ae.lt;have dp:∀(bL:Fn) (first ah:Array Value) (l:World),(Instr.makeFunc bL first ah).run prog l=.ok (.func bL first ah) l:=λ_ _ _ _=>rfl;obtain ⟨ar,bt,cQ,bu,cA⟩:=hqq5 bN c5 cf c6 c1;clear bN c5 cf c6 c1;go_wp2_with fail;have bQ:HtB x ((aM m lv e).length+1):=de.mono (by rw [aN.out];have:=iX m lv e;have dc:(m.countP λo=>bF o lv==e)<=m.length:=zBh;rw [aN.out] at dc;omega);refine (aNC (gv:=j) (gt:=(K e)) (H:=x) (gk:=l.heap.size) (gb:=W) (S:=S) (n:=z) (v:=Q) (F:=(λa=>E a=TC lv e)) (bs:=(aM m lv e)) (k:=Z) (b:=a) (w:=O) lv e ar.a cQ (λg=>by rw [bu.out] at g;unfold TC at g;omega) (λJ ac=>(ar.q J (by rw [ac];unfold TC;omega)).2) bt bp cy ag (bQ.mono (zDT _))).mono ?_;rintro u a0 ⟨rfl,bc,a9,ai,dg,b1⟩;have b5:=ar.K (lv:=lv) (p:=e) (gx:=j) aa dr (aP dd a3) (by rw [bu.out];omega) (λdT df=>absurd (aU df ar.a).1 dC) bc (a9.mono λJ _ g=>by rcases g with g | g;exact .inl g;exact .inr (.inl g)) b1 (L':=aT m r o) cw (λc ds=>by rw [zBw (zCl _)];exact cz c (λu=>ds u.symm));have c2:(λP=>if P=lv then aT m r o else if P < lv then aT m r o else m)=λP=>if P < lv+1 then aT m r o else m:=by
     funext P;by_cases a1:P=lv
     .rw [zBx a1,zBx oM]
     .by_cases av:P < lv
      .rw [zBw a1,zBx av,zBx oM]
      .rw [zBw a1,zBw av,zBw oM]
    rw [c2] at b5;have bg:∀J,wr.heap.size<=J->¬(E J=TC lv e∨J=j):=λJ ac g=>by rcases g with g | g;have:=(cA J (by rw [g];unfold TC;omega)).2;omega;have:=au.a.lt;omega
    have aC:=a9.d bt (λg=>by
     rcases g with g | g;rw [bx.out] at g;unfold TC at g;omega
     .exact di g.symm)
    have am:=a9.d ae (bg t aA);have aX:=a9.d bp (bg W c3);have bl:a0.cell? t=some (.pointer (some ⟨K e,0,none⟩)):=(am.cell 0).trans rfl;have dG:a0.cell? ⟨t,1,none⟩=some (.int .i64 lv):=(am.cell 1).trans rfl;have dH:a0.cell? ⟨t,2,none⟩=some (.int .i64 e):=(am.cell 2).trans rfl;have dJ:a0.cell? l.heap.size=some (.int .i64 Z):=(aC.cell 0).trans rfl;have dI:a0.cell? W=some (.bool a):=(aX.cell 0).trans rfl;have ee:=am.lt;have ec:=aX.lt;have eg:=aC.lt;have cg:=bc.at
    have bP:E (K e)=TC lv e:=bz.W;obtain ⟨cB,cI,cF,cR,cx,ct⟩:=hqq6 b5 a9 aC cg b1 bP;have du:Z<=(aT (aM m lv e) Z a).length:=(by rw [cM _ _ ag];have:=ag.out;omega);clear bc a9 b1 b5 c2 bg aC am aX cg dD dE dF dp bP;go_wp2_with fail;refine (aFi (gv:=j) (gt:=(K e)) (H:=x) (S:=S) (n:=z) (bs:=(aT (aM m lv e) Z a)) (k:=Z) (w:=a0) lv e a cx cR du (bQ.mono (by rw [cM _ _ ag];exact zAs _))).mono ?_;rintro u aR ⟨rfl,aL,a4,dh,b2⟩;rw [aIk _ ag,cT.out];have dm:lv*(6*x+3)<=8*(6*x+3):=zEk _ oM;have ce:(lv+1)*(6*x+3)=lv*(6*x+3)+(6*x+3):=Nat.succ_mul _ _;have ck:=aO7 (v:=Q) (d:=ai) ci dg oM oM;have cl:=aO7 (v:=Q+ai) (d:=a4) (q:=Q+ai) (C:=x+1) nL dh oM oM;rw [ck,cl] at b2;have ax:=cB.bg aL.1 b2;have cS:=lhd (show Q+ai+a4<=(lv+1)*(6*x+3) by rw [ce];omega);clear ck cl b2 dm ce;have an:=aL.1.d cF dC dC;have eu:aR.cell? l.heap.size=some (.int .i64 Z):=(an.cell 0).trans rfl;have ea:=an.frozen 0;have eh:=an.lt;have c4:=an.set 0 (.int .i64 J);have ba:eD E O.heap.size a0.heap.size (TC lv e) l.heap.size=0:=(by unfold eD;rw [zBx oM];exact bx);have bM:=ax.m (w':=aR.setCell l.heap.size (.int .i64 J)) (H:=λa=>a=l.heap.size) (ka (F:=λa=>a=l.heap.size) (ke _ _) (p:=l.heap.size) (.inl rfl) _) (λa u=>by rw [show a=l.heap.size from u,ba];omega);have er:=bw.size;have ca:Keep (λa=>a=j∨16<=own a) l (aR.setCell l.heap.size (.int .i64 J)):=ka (F:=λa=>a=j∨16<=own a) (((bw.trans (kF a3)).trans' cI (λa X g=>by
     rcases g with g | g;right;rw [<-af a X,g];unfold TC;omega
     .exact .inl g)).trans' aL.2 (λa X g=>by
     rcases g with g | g;exact .inl g
     .right;rw [<-af a X,g,ct.out];unfold TC;omega)) (p:=l.heap.size) (.inr nL) _
    obtain ⟨cr,cD,cJ,cP⟩:=hqq4 bM c4 ca ba;clear aL ax an c4 bM ca ba bl dG dH dJ dI;go_wp2_with fail;go_roundw
    case rel=>
     refine ⟨lv+1,eD E O.heap.size a0.heap.size (TC lv e),Q+ai+a4,by omega,by go_num,cr,?_,λa X=>?_,λa X=>?_,cP,cJ,cS⟩;rw [cU.out];exact cD;unfold eD;rw [zBx oM];exact af a X
     .unfold eD;by_cases a1:a < O.heap.size;rw [zBx a1];exact aQ a X
      .rw [zBw a1];unfold TC;split <;> omega
    case measure=>exact zr
  .obtain rfl:lv=9:=oM;have ak:WaveS wr ad E j S (λ_=>aT m r o) (z:Int) Q:=⟨a2.a,a2.base,λP cc=>by have:=a2.rows P cc;simpa [cc] using this,a2.q⟩;obtain ⟨_,et,_⟩:=ak.cells;have e9:=ak.a.frozen 9;have el:=ak.a.lt;have bS:=ak.b8 ((z:Int)+1);have d6:wrap64 (z+1)=(z:Int)+1:=(by unfold wrap64;omega);have cb:Keep (λa=>a=j∨16<=own a) l (wr.setCell ⟨j,9,none⟩ (.int .i64 ((z:Int)+1))):=ka (F:=λa=>a=j∨16<=own a) aE (p:=⟨j,9,none⟩) (.inl (.inl rfl)) _;obtain ⟨cu,cK,af,aQ⟩:=hqq4 bS cb aJ aK;clear a2 ak bS aE cb az aJ aK b8;go_wp2_with fail;go_ret;refine ⟨rfl,E,⟨S,Q,?_,Int.natCast_nonneg _,Int.ofNat_le.2 ci⟩,af,aQ,cK⟩;rw [cG.out];exact cu
def aAS {k e:Nat} {own b} {f g:Nat} {d} (m:WaveE d k own e b) (t:g < 257) (r:f<=b.length) (q:∀v∈b,v < 257) (s:b.length<=895):
 Calls prog 175 #[e,(f:Int),(g:Int)] d λl j=>l=.returned (.int .i64 0)/\∃c,WaveE j k c e (aT b f g)/\(∀a,a < d.heap.size->c a=own a)/\(∀a,d.heap.size<=a->c a≠1)/\Keep (λa=>a=e∨16<=own a) d j:=by
 refine (aDw f m t r q s (aH2 oM) nL).mono ?_;rintro l j ⟨n,c,⟨S,u,o,_⟩,p⟩;exact ⟨n,c,⟨S,u,o⟩,p⟩
end
section
def inR (a b:Nat):Nat:=if b<=a then a+1 else a
def bN (a b:Nat):Nat:=if b < a then a - 1 else a
abbrev ro (R:List Nat) (a:Nat):Nat:=R.idxOf a
def cE {R a} (b:a∈R):R[ro R a]?=some a:=zAc.2 ⟨zDk.2 b,zFl _⟩
def gR {R} (e:R.Nodup) {a b} (d:R[a]?=some b):ro R b=a:=by
 obtain ⟨f,c⟩:=zAc.1 d;subst c;exact e.idxOf_getElem a f
def fL {R b c} (e:b∈R) (f:c∈R) (d:ro R b=ro R c):b=c:=by
 have a:=cE e;rw [d,cE f] at a;injection a with a;exact a.symm
def zD {R} (n:R.Nodup) {a t d} (g:R[a]?=some d) (ht:t < R.length):
 (aT (aK R a) t d).Perm R/\ro (aT (aK R a) t d) d=t/\∀c∈R,c≠d->ro (aT (aK R a) t d) c=inR (bN (ro R c) a) t:=by
 have f:=(zAc.1 g).1;have q:=cJ f;have l:(aT (aK R a) t d).Perm R:=(fU _ _ _).trans (fH g);have k:(aT (aK R a) t d).Nodup:=l.nodup_iff.2 n;refine ⟨l,?_,λc o p=>?_⟩
 .refine gR k ?_;rw [jX _ _ oM,zBw oM,zBx rfl]
 .have b:=cE o;have s:ro R c≠a:=λm=>by rw [m,g] at b;injection b with b;exact p b.symm
  refine gR k ?_;have r:=(zAc.1 b).1;rw [jX _ _ oM];unfold inR bN;by_cases j:a < ro R c;rw [zBx j];by_cases e:t<=ro R c - 1;rw [zBx e,zBw oM,zBw oM,eQ f,zBw oM];rw [<-b];congr 1;omega;rw [zBw e,zBx oM,eQ f,zBw oM,<-b];congr 1;omega
  .rw [zBw j];by_cases e:t<=ro R c
   .rw [zBx e,zBw oM,zBw oM,eQ f,zBx oM,<-b];congr 1
   .rw [zBw e,zBx oM,eQ f,zBx oM,<-b]
def wP (S R:List Nat) (a b:Nat):Prop:=S.getD a 0 < S.getD b 0∨(S.getD a 0=S.getD b 0/\ro R (a+1) < ro R (b+1))
structure Near (S R:List Nat) (N i:Nat):Prop where
 ba:EndOk S N
 perm:R.Perm (List.range (N+1))
 a9:∀p q,p<=N->q<=N->ro R p < ro R q->S.getD p 0<=S.getD q 0
 cons:∀p q,p<=N->q<=N->p≠q->p+1≠i->q+1≠i->(ro R p < ro R q↔wP S R p q)
section
variable {S R : List Nat} {N i : Nat}
def Near.nodup (a:Near S R N i):R.Nodup:=a.perm.nodup_iff.2 zDl
def Near.mem (b:Near S R N i) {a}:a∈R↔a<=N:=by
 rw [b.perm.mem_iff,zCj];omega
def Near.len (a:Near S R N i):R.length=N+1:=by simpa using a.perm.length_eq
def aEQ {S a b} (k:a < S.length) (l:b < S.length) (j:S.getD a 0=S.getD b 0) (e:sufLt S (a+1) (b+1)):sufLt S a b:=by
 obtain ⟨m,d,n,f,g⟩:=e;refine ⟨m+1,d+1,by omega,λc o=>?_,?_⟩
 .cases c with
  | zero=>
   rw [zBq,zBq,fN k,fN l,j]
  | succ c=>
   have:=f c oM;rw [show a+(c+1)=a+1+c by omega,show b+(c+1)=b+1+c by omega];exact this
 rw [show a+(d+1)=a+1+d by omega,show b+(d+1)=b+1+d by omega];exact g
def aHX {S a b} (c:a < S.length) (d:b < S.length) (e:S.getD a 0 < S.getD b 0):sufLt S a b:=by
 refine ⟨1,0,by omega,λg f=>by omega,?_⟩;rw [zBq,zBq,fN c,fN d];omega
def Near.B (c:Near S R N 0):IsSuf S R:=by
 obtain ⟨r,C,k⟩:=c.ba;have B:∀e a b,N < a+e->a<=N->b<=N->a≠b->ro R a < ro R b->sufLt S a b:=by
  intro e
  induction e with
  | zero=>intro a b u o;omega
  | succ e A=>
   intro a b u o z y v;rcases (c.cons a b o z y oM oM).1 v with j |⟨j,s⟩;exact aHX oM oM j
   .have D:a≠N:=λd=>by subst d;have:=k b oM;omega
    have E:b≠N:=λd=>by subst d;have:=k a oM;omega
    exact aEQ oM oM j (A (a+1) (b+1) oM oM oM oM s)
 refine ⟨by rw [r];exact c.perm,?_⟩;rw [zAr];intro f g l m t;have n:=c.nodup;have w:R[f]<=N:=c.mem.1 (zBj l);have x:R[g]<=N:=c.mem.1 (zBj m);have p:ro R R[f]=f:=gR n (zAa l);have q:ro R R[g]=g:=gR n (zAa m);exact B (N+1) _ _ oM w x (λd=>by rw [d,q] at p;omega) (by rw [p,q];exact t)
def IsSuf.P (p:IsSuf S R) (y:EndOk S N):Near S R N 0:=by
 obtain ⟨t,w,m⟩:=y;have B:R.Perm (List.range (N+1)):=by rw [<-t];exact p.perm
 have G:=p.nodup;have n:∀a,a<=N->a∈R:=λa c=>p.mem oM;have q:∀a b,a<=N->b<=N->ro R a < ro R b->sufLt S a b:=λa b c e j=>by have C:=(zAc.1 (cE (n a c)));have E:=(zAc.1 (cE (n b e)));obtain ⟨d,f⟩:=C;obtain ⟨l,x⟩:=E;have:=zAr.1 p.B _ _ d l j;rwa [f,x] at this
 have s:∀a b,a<=N->b<=N->sufLt S a b->ro R a < ro R b:=λa b c e j=>by rcases zDD (ro R a) (ro R b) with d | d | d;exact d;have:=fL (n a c) (n b e) d;subst this;exact (j.asymm j).elim;exact (j.asymm (q b a e c d)).elim
 have u:∀a b,a<=N->b<=N->sufLt S a b->S.getD a 0<=S.getD b 0:=λa b c e ⟨F,g,d,f,l⟩=>by
  cases g with
  | zero=>
   rw [zBq,zBq,fN oM,fN oM] at l;omega
  | succ g=>
   have:=f 0 oM;rw [zBq,zBq,fN oM,fN oM] at this;omega
 have v:∀a b,a<=N->b<=N->a≠b->S.getD a 0=S.getD b 0->(sufLt S a b↔sufLt S (a+1) (b+1)):=λa b c e r z=>by
  constructor
  .rintro ⟨F,g,d,f,l⟩;cases g with
   | zero=>
    rw [zBq,zBq,fN oM,fN oM] at l;omega
   | succ g=>
    refine ⟨g+1,g,by omega,λo n=>?_,?_⟩;have:=f (o+1) oM;rw [show a+1+o=a+(o+1) by omega,show b+1+o=b+(o+1) by omega];exact this;rw [show a+1+g=a+(g+1) by omega,show b+1+g=b+(g+1) by omega];exact l
  exact aEQ oM oM z
 refine ⟨⟨t,w,m⟩,B,λa b c e j=>u a b c e (q a b c e j),λa b c e r _ _=>?_⟩;unfold wP;constructor
 .intro j;have d:=q a b c e j;rcases Nat.lt_or_eq_of_le (u a b c e d) with f | f;exact .inl f
  .refine .inr ⟨f,?_⟩;have A:a≠N:=λk=>by subst k;have:=m b oM;omega
   have D:b≠N:=λk=>by subst k;have:=m a oM;omega
   exact s _ _ oM oM ((v a b c e r f).1 d)
 .rintro (d |⟨d,f⟩);exact s a b c e (aHX oM oM d)
  .have A:a≠N:=λk=>by subst k;have:=m b oM;omega
   have D:b≠N:=λk=>by subst k;have:=m a oM;omega
   exact s a b c e ((v a b c e r d).2 (q _ _ oM oM f))
def aDc (S R:List Nat) (N b c:Nat):Nat:=(List.range (N+1)).countP λa=>decide (S.getD a 0 < b∨(S.getD a 0=b/\ro R (a+1) < c))
def aB2 {R:List Nat} (j:R.Nodup) (b:Nat) (c:Nat->Bool):(R.take b).countP c=R.countP λa=>c a&&decide (ro R a < b):=by
 have k:R.countP (λa=>c a&&decide (ro R a < b))=(R.take b).countP (λa=>c a&&decide (ro R a < b))+(R.drop b).countP (λa=>c a&&decide (ro R a < b)):=by rw [<-zFj,zAu]
 have l:(R.drop b).countP (λa=>c a&&decide (ro R a < b))=0:=by rw [zDU];intro a e;obtain ⟨f,g,d⟩:=zBo.1 e;rw [zED] at d;have:ro R a=b+f:=gR j (by rw [<-d];exact zAa _);simp;omega
 have m:(R.take b).countP (λa=>c a&&decide (ro R a < b))=(R.take b).countP c:=by refine zDy λa e=>?_;obtain ⟨f,g,d⟩:=zBo.1 e;rw [zAj] at g;rw [zEC] at d;have:ro R a=f:=gR j (by rw [<-d];exact zAa _);have n:ro R a < b:=oM;simp [n]
 rw [k,l,m];rfl
def aDk {b:List Nat} {c d:Nat->Bool} (e:∀a∈b,¬(c a=true/\d a=true)):b.countP c+b.countP d=b.countP λa=>c a||d a:=by
 induction b with
 | nil=>rfl
 | cons a b g=>
  have m:=e a zs;rw [zBn,zBn,zBn,<-g λj f=>e j (by simp [f])];cases k:c a <;> cases l:d a <;> simp_all <;> omega
def uM (n:EndOk S N) (c:R.Perm (List.range (N+1))) {a} (r:0 < a) (d):cR (aH S R) a d=aDc S R N a d:=by
 obtain ⟨e,f,q⟩:=n;have o:R.Nodup:=c.nodup_iff.2 zDl;unfold cR aDc;have g:(aH S R).countP (λp=>decide (p < a))=(List.range (N+1)).countP λb=>decide (S.getD b 0 < a):=by
  unfold aH;rw [zEr,c.countP_eq];refine iE _ _ ?_ λb c=>?_;simp only [Function.comp];rw [bV oM,e];rfl
  .simp only [Function.comp];rw [bL oM]
 have j:((aH S R).take d).count a=(List.range (N+1)).countP λb=>decide (S.getD b 0=a)&&decide (ro R (b+1) < d):=by
  unfold aH;rw [<-zDw,zEU,zEr,aB2 o,c.countP_eq];refine iE _ _ ?_ λb c=>?_
  .simp only [Function.comp];rw [bV oM,e];have:(N+1 - 1)=N:=oM;rw [this,f];have m:¬(0:Nat)=a:=oM;simp [m]
  simp only [Function.comp];rw [bL oM];rfl
 rw [g,j,aDk]
 .refine zDy λb _=>?_;simp
 intro b _ ⟨k,l⟩;simp at k l;omega
def aC2 {K:Nat->Bool}:∀ {d:List Nat},d.Pairwise (λa o=>K o=true->K a=true)->∀(c a:Nat),d[c]?=some a->(K a=true↔c < d.countP K)
 | [],_,c,a,b=>by simp at b
 | g::d,hO,c,a,b=>by
  obtain ⟨k,l⟩:=zEf.1 hO;cases e:K g with
  | true=>
   rw [List.countP_cons_of_pos e];cases c with
   | zero=>
    injection b with b;subst b;simp [e]
   | succ c=>
    rw [aC2 l c a b];omega
  | false=>
   have j:(g::d).countP K=0:=by
    rw [zDU];intro p f;rcases zDf.1 f with rfl | f
    .simp [e]
    .intro m;have:=k p f m;rw [e] at this;cases this
   rw [j];have n:a∈g::d:=zAd b;have:=(zDU.1 j) a n;simp [this]
def KB (S R:List Nat) (i a:Nat):Bool:=decide (S.getD a 0 < S.getD i 0∨(S.getD a 0=S.getD i 0/\ro R (a+1) < ro R (i+1)))
def aM9 (a:Near S R N (i+1)) (u:i<=N):∀b,b<=N->b≠i->(KB S R i b=true↔bN (ro R b) (ro R i) < aDc S R N (S.getD i 0) (ro R (i+1))):=by
 intro b z I;have m:=a.nodup;have s:=cE (a.mem.2 u);have t:=cE (a.mem.2 z);have v:=(zAc.1 s).1;have e:=fH s;have U:(aK R (ro R i)).Nodup:=(zDe.1 (e.nodup_iff.2 m)).2;have V:ro R b≠ro R i:=λc=>I (fL (a.mem.2 z) (a.mem.2 u) c);have D:(aK R (ro R i))[bN (ro R b) (ro R i)]?=some b:=by
  unfold bN;rw [eQ v];by_cases r:ro R i < ro R b;rw [zBx r,zBw oM,<-t];congr 1;omega
  .rw [zBw r,zBx oM,<-t]
 have F:aDc S R N (S.getD i 0) (ro R (i+1))=(aK R (ro R i)).countP (KB S R i):=by
  unfold aDc;rw [<-a.perm.countP_eq,<-e.countP_eq,zBn];have B:decide (S.getD i 0 < S.getD i 0∨(S.getD i 0=S.getD i 0/\ro R (i+1) < ro R (i+1)))=false:=by rw [decide_eq_false_iff_not];omega
  rw [B];rfl
 rw [F];refine aC2 ?_ _ _ D;rw [zAr];intro n o C E T p;have j:(aK R (ro R i))[n]?=some (aK R (ro R i))[n]:=zAa C;have k:(aK R (ro R i))[o]?=some (aK R (ro R i))[o]:=zAa E;obtain ⟨f,J⟩:=eqx ((aK R (ro R i))[n]);obtain ⟨g,O⟩:=eqx ((aK R (ro R i))[o]);rw [J] at j⊢;rw [O] at k p;have y:=(zDe.1 (e.nodup_iff.2 m)).1;have w:=zAd j;have x:=zAd k;have W:f≠i:=λc=>y (by rw [c] at w;exact w);have X:g≠i:=λc=>y (by rw [c] at x;exact x);have L:f∈R:=e.subset (by simp [zAd j]);have Q:g∈R:=e.subset (by simp [zAd k]);have K:=a.mem.1 L;have P:=a.mem.1 Q;have A:∀ {d q:Nat},(aK R (ro R i))[d]?=some q->ro R q=if d < ro R i then d else d+1:=λ{d q} l=>by rw [eQ v] at l;split at l;rw [zBx (by assumption)];exact gR m l;rw [zBw (by assumption)];exact gR m l
 have H:ro R f < ro R g:=by rw [A j,A k];split <;> split <;> omega
 have M:f≠g:=λc=>by subst c;omega
 have G:=(a.cons f g K P M oM oM).1 H;unfold KB at p⊢;rw [zCa] at p⊢;unfold wP at G;omega
def tgt (S R:List Nat) (i:Nat):Nat:=cR (aH S R) (S.getD i 0) (ro R (i+1))
def aJ7 (a:Near S R N (i+1)) (b:i < N):tgt S R i=aDc S R N (S.getD i 0) (ro R (i+1)):=uM a.ba a.perm (a.ba.pos i b) _
def aJ6 (c:Near S R N (i+1)) (e:i < N):tgt S R i < N+1:=by
 rw [aJ7 c e];unfold aDc;have d:(List.range (N+1)).countP (λa=>decide (S.getD a 0 < S.getD i 0∨(S.getD a 0=S.getD i 0/\ro R (a+1) < ro R (i+1))))≠(List.range (N+1)).length:=λb=>by have:=(zDJ.1 b) i zt;rw [zCa] at this;omega
 have f:=zBh (p:=λa=>decide (S.getD a 0 < S.getD i 0∨(S.getD a 0=S.getD i 0/\ro R (a+1) < ro R (i+1)))) (l:=List.range (N+1));rw [zCi] at d f;omega
def aHS (k:Near S R N (i+1)) (I:i < N) {g n} (ht:n=tgt S R i) (z:g.Perm R) (F:ro g i=n) (m:∀a∈R,a≠i->ro g a=inR (bN (ro R a) (ro R i)) n) {B} (T:B=i∨(ro R i=n/\B=0)):Near S g N B:=by
 have x:=aM9 k oM;rw [<-aJ7 k I,<-ht] at x;have l:∀a,a<=N->a∈R:=λa d=>k.mem.2 d;have t:∀a,a<=N->a≠i->ro R a≠ro R i:=λa d e j=>e (fL (l a d) (l i oM) j);have u:∀a b,a<=N->b<=N->a≠i->b≠i->(ro g a < ro g b↔ro R a < ro R b):=λa b d f e c=>by rw [m a (l a d) e,m b (l b f) c];have P:=t a d e;have Q:=t b f c;unfold inR bN;split <;> split <;> split <;> split <;> omega
 have E:∀a,a<=N->a≠i->(ro g a < ro g i↔KB S R i a=true):=λa d e=>by rw [x a d e,F,m a (l a d) e];unfold inR;split <;> omega
 have D:∀a,a<=N->a≠i->(ro g i < ro g a↔¬KB S R i a=true):=λa d e=>by rw [x a d e,F,m a (l a d) e];unfold inR;split <;> omega
 have G:∀a,a < N->a≠i->(a+1≠i∨ro R i=n)->(ro R (a+1) < ro R (i+1)↔ro g (a+1) < ro g (i+1)):=λa d e q=>by
  rcases q with q | q;exact (u (a+1) (i+1) oM oM q oM).symm
  .have r:∀b,b<=N->ro g b=ro R b:=λb f=>by
    by_cases c:b=i;subst c;omega
    .rw [m b (l b f) c,q];have:=t b f c;unfold inR bN;split <;> split <;> omega
   rw [r _ oM,r _ oM]
 obtain ⟨M,O,C⟩:=k.ba;refine ⟨k.ba,z.trans k.perm,λa b d f y=>?_,λa b d f A W X=>?_⟩;by_cases e:a=i;subst e;by_cases c:b=a;subst c;omega;have:=(D b f c).1 y;unfold KB at this;rw [zCa] at this;omega;by_cases c:b=i;subst c;have:=(E a d e).1 y;unfold KB at this;rw [zCa] at this;omega;exact k.a9 a b d f ((u a b d f e c).1 y)
 .have w:∀o p,o<=N->p<=N->o≠p->S.getD o 0=S.getD p 0->o < N/\p < N:=λo p J K Y Z=>by refine ⟨zFO J λj=>?_,zFO K λj=>?_⟩;subst j;have:=C p oM;omega;subst j;have:=C o oM;omega
  by_cases e:a=i;subst e;have c:b≠a:=λj=>A j.symm;rw [D b f c];unfold KB wP;rw [zCa];by_cases s:S.getD b 0=S.getD a 0;obtain ⟨v,H⟩:=w b a f d c s;have:=G b v c oM;have U:ro R (b+1)≠ro R (a+1):=λj=>c (zj (fL (l (b+1) oM) (l (a+1) oM) j));have V:ro g (b+1)≠ro g (a+1):=λj=>c (zj (fL ((z.trans k.perm).mem_iff.2 zt) ((z.trans k.perm).mem_iff.2 zt) j));omega;omega
  .by_cases c:b=i;subst c;rw [E a d e];unfold KB wP;rw [zCa];by_cases s:S.getD a 0=S.getD b 0;obtain ⟨v,H⟩:=w a b d f e s;have:=G a v e oM;omega;omega
   .rw [u a b d f e c,k.cons a b d f A oM oM];unfold wP;by_cases s:S.getD a 0=S.getD b 0
    .obtain ⟨v,H⟩:=w a b d f A s;by_cases L:ro R i=n
     .have r:∀b,b<=N->ro g b=ro R b:=λb f=>by
       by_cases c:b=i;subst c;omega
       .rw [m b (l b f) c,L];have:=t b f c;unfold inR bN;split <;> split <;> omega
      rw [r _ oM,r _ oM]
     .rw [u (a+1) (b+1) oM oM oM oM]
    omega
end
end
end Go.Proofs.YtknjfpcdhdmghaaGreatDoor
