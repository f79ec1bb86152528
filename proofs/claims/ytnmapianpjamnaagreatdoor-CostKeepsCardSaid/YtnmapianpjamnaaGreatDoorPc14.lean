/- Lemmas of the walk. Conditions: each its own. -/
import Derived.Test.YtnmapianpjamnaaGreatDoorPc10
import Derived.Test.YtnmapianpjamnaaGreatDoorPc12
import Derived.Test.YtnmapianpjamnaaGreatDoorProg
import Derived.Test.YtnmapianpjamnaaGreatDoorShl
set_option linter.all false
set_option maxRecDepth 100000
set_option maxHeartbeats 4000000
open Go.Proofs.Tryz
namespace Go.Proofs.YtnmapianpjamnaaGreatDoor
section
open Go.RowKit
def bC (a:List Nat) (b:Nat):Nat:=a.getD ((b+a.length - 1)% a.length) 0
def aK (a b:List Nat):List Nat:=b.map (bC a)
def eK (b a:List Nat):(aK b a).length=a.length:=by simp [aK]
def aCV {a:List Nat} (d:∀e∈a,e < 257) (b:Nat):bC a b < 257:=by
 unfold bC;rw [zAb];cases c:a[(b+a.length - 1)% a.length]? with
 | none=>simp
 | some f=>simpa using d f (zAd c)
def gN {b rs:List Nat} (c:∀a∈b,a < 257):∀a∈aK b rs,a < 257:=by
 intro a d;obtain ⟨e,_,rfl⟩:=zAy.1 d;exact aCV c e
def aBE (a:Nat) (g:a<=1000000) (w:World):(Instr.makeSlice 27 (.int .i64 0) (.int .i64 (a:Int))).run prog w=.ok (.slice (some w.heap.size) 0 a) (w.alloc (.cells (madeCells #[.int .i64 0] a) 3)):=by
 obtain ⟨f,b,c,d,e⟩:=info_parts fN;have:=run_make (P:=prog) w 27 3 f (.int .i64 0) underlying27 b c .i64 .i64 0 a oM oM (by rw [e];omega) oM;rw [this,d];simp only [Value.cells,zBr,zBl];rfl
def xR {w b:World} {j i:Nat} {a:Option Addr} {k:List Value} {row:Option Nat} (e:Rd w w.heap.size j a i k) (g:w.grownBy b row) (m:∀c,a=some c->row≠some c.block):Rd b b.heap.size j a i k:=by
 refine ⟨e.1,fun o=>?_⟩;obtain ⟨d,r,rfl,f,n⟩:=e.2 o;refine ⟨d,r,rfl,zAl f g.size,fun q s p=>?_⟩;rw [World.cell?_of_block (w:=w) (g.block d f (fun l=>m _ rfl l.symm))];exact n q s p
def Apt (c:Value) (b:Option Addr):Prop:=∀a,b=some a->c.ownBlock≠some a.block
def Apt.next {i e:Value} {c:Option Addr} {f:Nat} (j:Apt i c) (l:e.ownBlock=i.ownBlock∨e.ownBlock=some f) (k:∀a,c=some a->a.block < f):Apt e c:=by
 intro a g b;rcases l with d | d;exact j a g (d.symm.trans b);rw [d] at b;injection b with b;have:=k a g;omega
def rK (o:Option Addr) (d x B:Nat) (e:List UInt8) (w:World) (W:Rd w B 1 o d (e.map bv)) (hB:B<=w.heap.size) (b3:d<=895):
 Calls prog 148 #[.slice o d x] w fun L au=>∃i k l,IsSuf (aY e) i/\L=.returned (.slice k (d+1) l)/\Made au w.heap.size 3 1 k (d+1) l ((aK (aY e) i).map sv)/\Below w.heap.size w au:=by
 obtain ⟨ba,aZ,b7,b8,b9⟩:=info_parts fN;have aq:e.length=d:=by simpa using W.1
 obtain ⟨aa,aH⟩:=hqq2 W aq;clear W aq;go_enter func148,ntmps148;go_wp2_with fail;obtain ⟨a,A⟩:=eqx (d+1);have Y:=rJ w.heap.size 0 o d x w.heap.size e (w.alloc (.cells #[.slice o d x] 22)) (Bk.new _ _ _) ((aa.out.mono hB).alloc nL _) (by simp) oM;have X:=fun ab (m:Below w.heap.size w ab)=>kH o d x w.heap.size e ab ((aa.out.mono hB).below m) m.size b3;simp only [A] at Y X;have bj:a<=896:=oM;have bi:1<=a:=oM;have ai:(aY e).length=a:=by rw [bO,aH.out,A]
 obtain ⟨a3,H,a4⟩:=hqq3 A ai X;clear A ai X;refine Y.mono ?_;clear Y;rintro L w1 ⟨F,bf,rfl,ak,af⟩;have ag:=((Below.refl w.heap.size w).alloc nL _).trans (af.mono (by simp));have bb:=aBE a oM;obtain ⟨I,v⟩:=hqq2 ak ag;clear ak af ag;go_wp2_with fail;clear bb;have r:=v.out.alloc v.out.size (.cells (madeCells #[.int .i64 0] a) 3);have Q:=I.out.below (bR.alloc nL (.cells (madeCells #[.int .i64 0] a) 3));have g:(w1.alloc (.cells (madeCells #[.int .i64 0] a) 3)).ownsRow w.heap.size 3 1 (.slice (some w1.heap.size) 0 a) 0 []:=World.ownsRow_made _ _ _ v.out.size (by unfold maxLen;omega) (by simp [madeCells]);obtain ⟨q,N⟩:=eqx w1.heap.size;have aX:q < (w1.alloc (.cells (madeCells #[.int .i64 0] a) 3)).heap.size:=by rw [<-N];simp
 have ac:Apt (.slice (some q) 0 a) F:=by
  intro b c m;obtain ⟨aw,aN,j,_,M⟩:=aM I.out.own;injection j with j;have:=(M b (j.symm.trans c)).2;have aQ:q=b.block:=by simpa [Value.ownBlock] using m
  omega
 have ax:=lhd ac;clear ac;rw [N] at g⊢;generalize w1.alloc (.cells (madeCells #[.int .i64 0] a) 3)=W2 at r Q g aX⊢;obtain ⟨a6,a5⟩:=hqq2 g Q;clear g Q I v N;refine (a4.out W2 r).mono ?_;rintro L br ⟨i,G,bg,ao,rfl,S,y⟩;have ah:=r.trans (y.mono r.size);have am:=aO a6.out y;have al:=a5.out.below y;have ad:Apt (.slice (some q) 0 a) G:=by
  intro b c m;obtain ⟨aw,aN,j,_,M⟩:=aM S.own;injection j with j;have:=(M b (j.symm.trans c)).1;have aQ:q=b.block:=by simpa [Value.ownBlock] using m
  omega
 have ay:=lhd ad;clear ad;obtain ⟨J,aC,aB,aD,az⟩:=hqq5 ao S.rd al.rd am ah;clear ao S al am ah y r a6 a5 a4;go_wp2_with fail;go_loopw [4,6,16] (fun a2 _ t wr=>∃f:Nat,f<=a/\t=.int .i64 f/\wr.ownsRow w.heap.size 3 1 a2 f ((aK (aY e) (i.take f)).map sv)/\Below w.heap.size w wr/\Apt a2 F/\Apt a2 G/\Rd wr wr.heap.size 1 F a ((aY e).map sv)/\Rd wr wr.heap.size 1 G a (i.map sv)) (fun _ _ t _=>a -(intOf t).toNat)
 case atStart=>exact ⟨0,by omega,rfl,aD.out,az.out,ax.out,ay.out,aB.out,aC.out⟩
 case round=>
  obtain ⟨f,bh,rfl,g,z,U,V,D,E⟩:=hrel;by_cases b2:f < a
  · obtain ⟨aJ,bc,bn,rfl,aR,Z,aU⟩:=E.get b2;rw [zAf] at Z;obtain ⟨u,T,rfl⟩:=Option.map_eq_some_iff.1 Z;have bk:u < a:=(by have:=J.out.lt (zAd T);rw [H.out] at this;exact this);obtain ⟨a1,s⟩:=eqx ((u+a - 1)% a);have b6:a1 < a:=(by rw [<-s];exact Nat.mod_lt _ oM);obtain ⟨aL,bd,bo,rfl,aS,a0,aV⟩:=D.get b6;rw [zAf] at a0;obtain ⟨av,ar,rfl⟩:=Option.map_eq_some_iff.1 a0;have an:bC (aY e) u=av:=(by unfold bC;rw [H.out,s,zAb,ar];rfl);have ap:aK (aY e) (i.take (f+1))=aK (aY e) (i.take f)++ [av]:=(by rw [zAv,T,aK,zAz,<-an];rfl);unfold sv at aU aV;have b5:((u:Int)+(a:Int) - 1)%(a:Int)=(a1:Int):=(by rw [<-s,Int.natCast_emod];congr 1;omega);have bl:((u:Int)+(a:Int) - 1).tmod (a:Int)=(a1:Int):=(by rw [Int.tmod_eq_emod_of_nonneg oM];exact b5);obtain ⟨aG,a7,a8,a9,p,aE,aF,be⟩:=hqq8 ap g U V z D E s;clear Z a0 ar an ap g z U V D E s T;go_wp2_with (at_builtin;refine cW _ rfl (.tmp 20) (.tmp 32) _ rfl w.heap.size 3 ba (.int .i64 0) 1 8 underlying27 aZ b7 b8 b9 rfl dC _ f _ rfl a7.out rfl rfl (by simp [Value.oneCell']) (by unfold maxLen;omega) oM p.out.size ?_;intro bp bq b4 O bm ae);have aT:=cL p.out a7.out O p.out.size;have b0:∀b,some (⟨aL,bd,none⟩:Addr)=some b->b.block < _:=fun b c=>by injection c with c;subst c;exact aS
    have b1:∀b,some (⟨aJ,bc,none⟩:Addr)=some b->b.block < _:=fun b c=>by injection c with c;subst c;exact aR
    go_roundw
    case rel=>refine ⟨f+1,by omega,by go_num,?_,aT,a8.out.next ae (fun b c=>Nat.lt_succ_of_lt (b0 b c)),a9.out.next ae (fun b c=>Nat.lt_succ_of_lt (b1 b c)),xR aE.out O a8.out,xR aF.out O a9.out⟩;rw [aG.out,zAz];exact b4
    case measure=>simp [intOf];omega
  · obtain rfl:a=f:=oM;rw [zAg (by rw [J.out.len,H.out];omega)] at g;obtain ⟨k,l,rfl,aj⟩:=bE g;obtain ⟨aA,p⟩:=hqq2 aj z;clear g aj z U V D E;go_wp2_with fail;go_ret;have aW:∀K,Made wr w.heap.size 3 1 k a l K->Made wr w.heap.size 3 1 k (d+1) l K:=fun K aP=>by rw [a3.out];exact aP
    exact ⟨i,k,l,J.out,by rw [a3.out];rfl,aW _ aA.out,p.out⟩
@[irreducible] def rowC (aI:Nat->Value) (d:Nat):Array Value:=Array.ofFn (n:=d) fun t=>aI t.val
def kQ (b:Nat->Value) (a:Nat):(rowC b a).size=a:=by unfold rowC;simp
def jQ (b:Nat->Value) (c a:Nat) (d:a < c):(rowC b c)[a]?=some (b a):=by
 unfold rowC;rw [Array.getElem?_ofFn,dif_pos d]
def aCO (f:Nat->Value) (d c:Nat) (i:c < d) (g:Value):(rowC f d).setIfInBounds c g=rowC (fun b=>if b=c then g else f b) d:=by
 apply Array.ext_getElem?;intro b;rcases zBe b d with a | a
 · rw [jQ _ _ _ a];by_cases e:c=b
   · subst e;rw [Array.getElem?_setIfInBounds_self_of_lt (by rw [kQ];exact i),zBx rfl]
   · rw [zCe e,jQ _ _ _ a,zBw (fun j=>e j.symm)]
 · rw [Array.getElem?_eq_none (by simp [kQ];exact a),Array.getElem?_eq_none (by rw [kQ];exact a)]
def aAj (c:Value) (b:Nat):rowC (fun _=>c) b=Array.replicate b c:=by
 apply Array.ext_getElem?;intro d;rcases zBe d b with a | a
 · rw [jQ _ _ _ a];simp [a]
 · rw [Array.getElem?_eq_none (by rw [kQ];exact a),Array.getElem?_eq_none (by simpa using a)]
structure Bits (w:World) (B gB m:Nat) (T:Nat->Value) (R:Nat->List Bool):Prop where
 blk:Bk w gB 138 (rowC T m)
 own:∀p,p < m->w.ownsRow B 4 1 (T p) (R p).length ((R p).map Value.bool)
 apart:∀p q,p < m->q < m->p≠q->∀b,(T p).ownBlock=some b->(T q).ownBlock≠some b
def Bits.same {w w':World} {B e f:Nat} {d:Nat->Value} {R:Nat->List Bool} (c:Bits w B e f d R) (j:∀a b,Bk w a 138 b->Bk w' a 138 b) (k:∀a b,Bk w a 4 b->Bk w' a 4 b):Bits w' B e f d R:=
 ⟨j _ _ c.blk,fun l i=>aA (c.own l i) fun a b _ g=>k a b g,c.apart⟩
def Bits.below {w f:World} {B c e:Nat} {b:Nat->Value} {R:Nat->List Bool} (j:Bits w B c e b R) (d:Below w.heap.size w f):Bits f B c e b R:=j.same (fun g i a=>a.below d a.lt) (fun g i a=>a.below d a.lt)
def Bits.start (w:World) (B a b:Nat) (c:Bk w a 138 (rowC (fun _=>.slice none 0 0) b)):Bits w B a b (fun _=>.slice none 0 0) (fun _=> []):=
 ⟨c,fun e g=>World.ownsRow_nil _ _ _ _,fun e i _ _ _ f d=>by simp [Value.ownBlock] at d⟩
def Bits.push {w w1:World} {B o n a:Nat} {i:Nat->Value} {R:Nat->List Bool} {v:Value} {b:Bool} (j:Bits w B o n i R) (r:a < n) (H:Keep (fun b=>(i a).ownBlock=some b) w w1)
 (K:w1.ownsRow B 4 1 v ((R a).length+1) ((R a).map Value.bool++ [.bool b])) (u:v.ownBlock=(i a).ownBlock∨∃e,v.ownBlock=some e/\w.heap.size<=e):
 Bits (w1.setCell ⟨o,a,none⟩ v) B o n (fun q=>if q=a then v else i q) (fun q=>if q=a then R a++ [b] else R q):=by
 have J:(i a).ownBlock≠some o:=by intro d;exact aR (j.own a r) j.blk dC d.symm
 have A:=H.bk j.blk J;have E:∀e m,Bk w1 e 4 m->Bk (w1.setCell ⟨o,a,none⟩ v) e 4 m:=fun e m k=>k.far (Bk.ne k A dC) _;refine ⟨?_,fun c g=>?_,fun c y g D x s p=>?_⟩;rw [<-aCO i n a r v];exact A.set a v;by_cases d:c=a;subst d;rw [zBx rfl,zBx rfl,zAi,zAz];exact aA K fun e m _ k=>E e m k;rw [zBw d,zBw d];refine aA (j.own c g) fun e m k I=>E e m (H.bk I ?_);exact fun f=>j.apart c a g r d e k f;have M:∀c,c < n->∀f,(i c).ownBlock=some f->f < w.heap.size:=fun c g f l=>((j.own c g).lt f l).2;have F:∀c,c < n->c≠a->∀f,v.ownBlock=some f->(i c).ownBlock≠some f:=(by intro c g L f l G;rcases u with u |⟨e,k,N⟩;rw [u] at l;exact j.apart a c r g (fun d=>L d.symm) f l G;rw [k] at l;cases l;have:=M c g _ G;omega);by_cases t:c=a;subst t;rw [zBx rfl] at p;rw [zBw (fun d=>x d.symm)];exact F y D (fun d=>x d.symm) s p;rw [zBw t] at p;by_cases z:y=a;subst z;rw [zBx rfl];intro l;exact F c g t s l p;rw [zBw z];exact j.apart c y g D x s p
def aB9 (c:List Nat) (b lv a:Nat):aF (c++ [b]) lv a=if a=aP b lv then aF c lv a++ [eH b lv] else aF c lv a:=by
 unfold aF;rw [List.filter_append,zAz];by_cases d:a=aP b lv
 · rw [zBx d];simp [d]
 · rw [zBw d];have:(aP b lv==a)=false:=(by simp;omega);simp [this]
def Bits.congr {w:World} {B e c:Nat} {d:Nat->Value} {R R':Nat->List Bool} (b:Bits w B e c d R) (g:∀a,a < c->R a=R' a):Bits w B e c d R':=
 ⟨b.blk,fun a f=>by rw [<-g a f];exact b.own a f,b.apart⟩
def dR {w:World} {e:Nat} {b:TypeId} {n m a:Nat} {d:Value} {o:List Value} (k:w.ownsRow e b n d m o) (c:d.ownBlock=some a):∃f,Bk w a b f:=by
 rcases k.2 with ⟨rfl,_⟩|⟨j,p,g,rfl,_,l,_⟩
 · simp [Value.ownBlock] at c
 have i:j=a:=(by simpa [Value.ownBlock] using c);subst i;exact ⟨g,l⟩
def TreeAt.keepT {w j:World} {c:Nat->Prop} {f:Nat} {d:List Bool} (l:TreeAt w f d) (p:Keep c w j) (o:∀a,c a->∃b e,Bk w a b e/\(b=135∨b=143)):TreeAt j f d:=by
 refine l.same fun a b e i g=>p.bk g fun m=>?_;obtain ⟨r,q,n,ht⟩:=o a m;have k:=(aJ g n).1;subst k;rcases ht with rfl | rfl;exact absurd i dC;exact absurd i dC
def ShelfRow.keepW {w p:World} {b B:Nat} {c:Array Value} {o:Value} {f:List Nat} {lv m:Nat} (r:ShelfRow w B o f lv m) (l:Keep (fun a=>a=b) w p) (k:Bk w b 135 c):ShelfRow p B o f lv m:=by
 obtain ⟨q,s,g⟩:=r;refine ⟨q,aA s fun a c _ i=>l.bk i fun d=>?_,fun n j=>⟨(g n j).1,(g n j).2.keepT l fun a d=>by
  have e:a=b:=d;subst e;exact ⟨_,c,k,.inl rfl⟩⟩⟩
 have e:a=b:=d;subst e;exact absurd (aJ i k).1 dC
def ShelfRow.mono {w:World} {B a:Nat} {g:Value} {b:List Nat} {lv e:Nat} (j:ShelfRow w B g b lv e) (hB:a<=B):ShelfRow w a g b lv e:=by
 obtain ⟨i,k,c⟩:=j;exact ⟨i,dO k hB,fun f d=>⟨zAk hB (c f d).1,(c f d).2⟩⟩
def WaveAt.mono {w:World} {B a c:Nat} {b:List Nat} (e:WaveAt w B c b) (hB:a<=B):WaveAt w a c b:=by
 obtain ⟨f,d,k,g,i⟩:=e;exact ⟨zAk hB f,d,k,g,fun lv j=>(i lv j).mono hB⟩
def WalkAt (w:World) (B gk:Nat) (a:List Nat):Prop:=
 ∃c b,Bk w gk 148 #[.pointer (some ⟨c,0,none⟩),.pointer (some ⟨b,0,none⟩)]/\WaveAt w B c a/\Bk w b 236 (tcells a)
def WalkAt.vis {w w':World} {B gk:Nat} {b:List Nat} (e:WalkAt w B gk b) (a:Vis w w'):WalkAt w' B gk b:=by
 obtain ⟨d,c,f,g,i⟩:=e;exact ⟨d,c,a.bk f dC dC,g.vis a,a.bk i dC dC⟩
def WalkAt.mono {w:World} {B a gk:Nat} {b:List Nat} (e:WalkAt w B gk b) (hB:a<=B):WalkAt w a gk b:=by
 obtain ⟨d,c,f,g,i⟩:=e;exact ⟨d,c,f,g.mono hB,i⟩
def fR (B b:Nat) (a:List Nat) (w:World) (f:WaveAt w B b a):
 Calls prog 34 #[b] w fun e i=>e=.returned (.int .i64 (a.length:Int))/\w=i:=by
 obtain ⟨_,d,g,c,_⟩:=f;have j:w.cell? ⟨b,9,none⟩=some (.int .i64 (a.length:Int)):=by rw [c.cell];have:=aT d (a.length:Int) g;simp [this]
 clear c;go_enter func34,ntmps34;go_wp2;go_ret;exact ⟨rfl,rfl⟩
def oR (B gk:Nat) (a:List Nat) (w:World) (f:WalkAt w B gk a):
 Calls prog 131 #[gk] w fun b d=>b=.returned (.int .i64 (a.length:Int))/\w=d:=by
 obtain ⟨e,k,c,g,i⟩:=f;have j:=c.cell 0;clear c i;go_enter func131,ntmps131;go_wp2_with fail;refine (fR B e a _ g).mono ?_;rintro b d ⟨rfl,rfl⟩;go_wp2_with fail;go_ret;exact ⟨rfl,rfl⟩
def lK (B gk:Nat) (a:List Nat) (b:Nat) (w:World) (m:WalkAt w B gk a) (q:b < 257) (p:a.length<=1000):
 Calls prog 172 #[gk,(b:Int)] w fun d j=>d=.returned (.int .i64 ((a.countP (fun c=>decide (c < b)):Nat):Int))/\Below w.heap.size w j:=by
 obtain ⟨s,l,e,n,f⟩:=m;have r:=e.cell 1;clear e n;have k:=lhd f;clear f;go_enter func172,ntmps172;go_wp2_with fail;refine (kG l a b _ k.out q p).mono ?_;rintro d j ⟨rfl,o⟩;obtain ⟨i,g⟩:∃i,a.countP (fun c=>decide (c < b))=i:=⟨_,rfl⟩;rw [g];go_wp2_with fail;go_ret;exact ⟨by rw [g];rfl,o⟩
def eZ (a:List Nat) (b c:Nat):Nat:=a.countP (fun d=>decide (d < b))+(a.take c).count b
end
section
open Go.RowKit Go.Shelf
def jL (a:Nat×Nat):List Value:= [.int .i64 (a.1:Int),.int .i64 (a.2:Int)]
def bA (C:List (Nat×Nat)):List Value:=C.flatMap jL
def aB (C:List (Nat×Nat)) (a:Nat):Nat:=(C.getD a (0,0)).1
def aE (C:List (Nat×Nat)) (a:Nat):Nat:=(C.getD a (0,0)).2
def cG (C:List (Nat×Nat)):(bA C).length=C.length*2:=by
 induction C with
 | nil=>rfl
 | cons b a c=>
   have:bA (b::a)=jL b++bA a:=rfl;rw [this,zAi,c];simp [jL];omega
def bV (C:List (Nat×Nat)) (a:Nat) (c:a < C.length):(bA C)[a*2]?=some (.int .i64 ((aB C a:Nat):Int))/\(bA C)[a*2+1]?=some (.int .i64 ((aE C a:Nat):Int)):=by
 induction C generalizing a with
 | nil=>cases c
 | cons b d f=>
   have e:bA (b::d)=jL b++bA d:=rfl;rcases a with _ | a;exact ⟨rfl,rfl⟩;have:=f a (by simpa using c);rw [e,zAo (by simp [jL];omega),zAo (by simp [jL];omega)];rw [show (a+1)*2 -(jL b).length=a*2 by simp [jL];omega,show (a+1)*2+1 -(jL b).length=a*2+1 by simp [jL];omega];exact this
structure PRd (W:World) (gb gp:Nat) (A:Option Addr) (n c:Nat) (C:List (Nat×Nat)):Prop where
 box:W.cell? gb=some (.pointer (some gp))
 sl:W.cell? ⟨gp,1,none⟩=some (.slice A n c)
 rd:Rd W W.heap.size 2 A n (bA C)
def PRd.below {a f:World} {c gp i g:Nat} {e:Option Addr} {C:List (Nat×Nat)} (d:PRd a c gp e i g C) (j:c < a.heap.size) (k:gp < a.heap.size) (b:Below a.heap.size a f):PRd f c gp e i g C:=
 ⟨(b.cell j).trans d.box,(b.cell k).trans d.sl,(d.rd.below b).mono b.size⟩
def PRd.drewN {c:World} {e gp f d:Nat} {b:Option Addr} {C:List (Nat×Nat)} (a:PRd c e gp b f d C) (g:Nat):PRd (c.drewN g) e gp b f d C:=⟨a.box,a.sl,a.rd⟩
def PRd.at {d:World} {l gp e j:Nat} {f:Option Addr} {C:List (Nat×Nat)} (g:PRd d l gp f e j C) {a:Nat} (o:a < C.length):
 a < e/\∃b c,f=some ⟨b,c,none⟩/\d.cell? ⟨b,c+a*2,none⟩=some (.int .i64 ((aB C a:Nat):Int))/\d.cell? ⟨b,c+a*2+1,none⟩=some (.int .i64 ((aE C a:Nat):Int)):=by
 have p:=g.rd.1;rw [cG] at p;have q:a < e:=oM;obtain ⟨b,c,k,_,i⟩:=g.rd.2 oM;obtain ⟨m,n⟩:=bV C a o;exact ⟨q,b,c,k,i _ _ m,by rw [Nat.add_assoc];exact i _ _ n⟩
def zC (f gp:Nat) (i:Option Addr) (m j:Nat) (C:List (Nat×Nat)) (a row:Nat) (b:World) (c:PRd b f gp i m j C) (l:a < C.length):
 Calls prog 212 #[(a:Int),(row:Int),f] b fun e g=>e=.returned (.int .i64 (Lib.compareInt (aB C a:Nat) row))/\b=g:=by
 obtain ⟨s,n,t,rfl,q,k⟩:=c.at l;have o:=c.box;have p:=c.sl;have d:=AnyG.cmp_Compare_int shCmp ((aB C a:Nat):Int) (row:Int) b;change Calls prog 187 _ _ _ at d;generalize Lib.compareInt (aB C a:Nat) row=r at d⊢;clear c k;go_enter func212,ntmps212;go_wp2_with fail;refine d.mono ?_;rintro e g ⟨rfl,rfl⟩;go_wp2_with fail;go_ret;exact ⟨rfl,rfl⟩
def wP (f g gp:Nat) (k:Option Addr) (p l:Nat) (C:List (Nat×Nat)) (d e:Nat) (a:World) (c:PRd a f gp k p l C) (y:a.cell? g=some (.int .i64 (e:Int))) (o:d < C.length):
 Calls prog 214 #[(d:Int),f,g] a fun b r=>b=.returned (.bool (decide (aE C d=e)))/\∃q,r=a.drewN q:=by
 obtain ⟨x,s,z,rfl,m,n⟩:=c.at o;have t:=c.box;have u:=c.sl;obtain ⟨j,i⟩:=eqx (aE C d);rw [i] at n⊢;clear c m i;by_cases b:j=e
 · subst b;go_enter func214,ntmps214;go_wp2;go_quiet (fail);go_wp2;go_ret;exact ⟨by simp,_,rfl⟩
 · have v:((j:Int)==(e:Int))=false:=(by simp;omega);go_enter func214,ntmps214;go_wp2;go_quiet (fail);go_wp2;go_ret;exact ⟨by simp [b],_,rfl⟩
end
section
open Go.RowKit Go.Shelf
open Go.Sort (Holds)
structure PermAt (w:World) (B gp ga:Nat) (vl vo vt vf:Value) (R P:Nat) (ks:List Nat) (C:List (Nat×Nat)) (tk:List Bool) (fr:List Nat):Prop where
 blk:Bk w gp 186 #[ga,vl,vo,(R:Int),(P:Int)]
 lrow:w.ownsRow B 179 2 vl C.length (bA C)
 orow:w.ownsRow B 3 1 vo ks.length (ks.map sv)
 ar:Bk w ga 228 #[vt,vf,.int .i64 268435456]
 trow:w.ownsRow B 4 1 vt tk.length (tk.map Value.bool)
 frow:w.ownsRow B 3 1 vf fr.length (fr.map sv)
 apart:vo.ownBlock=none∨vo.ownBlock≠vf.ownBlock
 lt:∀k∈ks,k < C.length
 lo:B<=gp/\B<=ga
def aAK {d:List Nat} {b:Nat->Nat} (j:d.Pairwise (fun i n=>b i < b n)) (g:Nat):∀(a e:Nat),d[a]?=some e->(b e < g↔a < d.countP fun k=>decide (b k < g)):=by
 induction d with
 | nil=>intro a e j;cases j
 | cons r d q=>
   obtain ⟨m,o⟩:=List.pairwise_cons.1 j;intro a e c;rw [zBn];by_cases f:b r < g
   · rcases a with _ | a
     · simp at c;subst c;simp [f]
     have:=q o a e (by simpa using c);simp only [f,decide_true,if_true];omega
   · have l:(d.countP fun k=>decide (b k < g))=0:=(by rw [List.countP_eq_zero];intro i p;have:=m i p;simp;omega);rcases a with _ | a
     · simp at c;subst c;simp [f,l]
     have s:=m e (zAd (by simpa using c));simp only [l,f,decide_false];simp;omega
def tS {a:List Nat} {f:Nat->Nat} (i:a.Pairwise (fun o p=>f o < f p)) (k:Nat):(∃g,a[a.countP fun b=>decide (f b < k)]?=some g/\f g=k)↔∃b∈a,f b=k:=by
 constructor;rintro ⟨g,j,e⟩;exact ⟨g,zAd j,e⟩
 · rintro ⟨b,s,rfl⟩;obtain ⟨c,m,rfl⟩:=List.getElem_of_mem s;have l:=zAa m;have j:=aAK i (f a[c]) c _ l;have v:¬c < a.countP fun b=>decide (f b < f a[c]):=fun d=>by have:=j.2 d;omega
   rcases zBe (a.countP fun b=>decide (f b < f a[c])) c with e | e
   · have n:(a.countP fun b=>decide (f b < f a[c])) < a.length:=oM;have q:=zAa n;have r:=aAK i (f a[c]) _ _ q;have t:¬f a[a.countP fun b=>decide (f b < f a[c])] < f a[c]:=fun d=>by have:=r.1 d;omega
     have u:=zAr.1 i _ _ n m e;omega
   have d:(a.countP fun b=>decide (f b < f a[c]))=c:=oM;rw [d];exact ⟨_,l,rfl⟩
def dY (a:Nat) (ks:List Nat):Array (Fin (a+1)):=(ks.map fun b=>(⟨b %(a+1),Nat.mod_lt _ (Nat.succ_pos a)⟩:Fin (a+1))).toArray
def jS {d:Nat} {ks:List Nat} (g:∀a∈ks,a < d+1) {c a:Nat} (b:ks[c]?=some a):((dY d ks)[c]!).val=a:=by
 have e:c < ks.length:=(zAc.1 b).1;have i:=g a (zAd b);have f:ks[c]=a:=by rw [zAa e] at b;injection b
 rw [xZ _ _ (by simpa [dY] using e)];simp [dY,f,zBu i]
def aAp {b:Nat} {ks:List Nat} (d:∀a∈ks,a < b+1) (c:Nat->Bool):(dY b ks).toList.countP (fun f=>c f.val)=ks.countP c:=by
 unfold dY;rw [List.countP_map];refine List.countP_congr fun a e=>?_;simp [zBu (d a e)]
def lR {w:World} {c f:Nat} {ks:List Nat} {b:Array Value} (g:Bk w f 3 b) (i:∀k∈ks,k < c+1) (ht:b.toList.take ks.length=ks.map sv):Holds (dP c) w f 0 (dY c ks):=by
 intro a j;have d:a < ks.length:=by simpa [dY] using j
 rw [zBi];refine ⟨?_,g.frozen a⟩;have e:(b.toList.take ks.length)[a]?=(ks.map sv)[a]?:=by rw [ht]
 rw [zBs,zBx d,zAf,zAa d,Array.getElem?_toList] at e;rw [g.cell,e];have:=jS i (zAa d);simp [dP,this,sv]
def aCB {w e:World} {a c:Nat} {b:Array (Fin (a+1))} (i:Holds (dP a) w c 0 b) (g:SW (dP a) w c 0 b e):Below w.heap.size w e:=by
 obtain ⟨d,k,rfl⟩:=g;unfold sortWorld;have f:Go.Sort.putRow (dP a) (Go.Sort.ahead w d) c 0 b=Go.Sort.ahead w d:=Go.Sort.putRow_self (dP a) _ c 0 b i;rw [f];exact ⟨rfl,rfl,rfl,by show w.heap.size<=(w.heap++k).size;simp,fun l j=>Go.Sort.heap_grow_old _ _ j⟩
def pK (a b:Int):Lib.compareInt a b < 0↔a < b:=by
 unfold Lib.compareInt;split
 · simp [*]
 · split <;> simp [*]
def aDu (a b:Int):Lib.compareInt a b=0↔a=b:=by
 unfold Lib.compareInt;split;simp;omega;split;simp;omega;simp;omega
section
variable {w : World} {B gp ga : Nat} {vl vo vt vf : Value} {R P : Nat} {ks : List Nat} {C : List (Nat × Nat)} {tk : List Bool} {fr : List Nat}
def PermAt.prd (c:PermAt w B gp ga vl vo vt vf R P ks C tk fr) {e:Nat} {w':World} (j:w'.cell? e=some (.pointer (some gp))) (g:Below w.heap.size w w'):∃a i b,vl=.slice a i b/\PRd w' e gp a i b C:=by
 obtain ⟨a,b,d,_⟩:=aM c.lrow;refine ⟨a,C.length,b,d,j,?_,?_⟩;have:=(c.blk.below g c.blk.lt).cell 1;rw [d] at this;exact this;have f:=aO c.lrow g;rw [d] at f;exact Rd.of_own f
end
def aFn {ks:List Nat} {C:List (Nat×Nat)} {c row:Nat} (m:C.length=c+1) (o:∀a∈ks,a < C.length) (p:ks.Pairwise (fun k l=>aB C k < aB C l)):
 ((dY c ks).toList.countP (fun b=>decide (Lib.compareInt (aB C b.val:Nat) row < 0)))=ks.countP (fun a=>decide (aB C a < row))/\
 (decide (((dY c ks).toList.countP (fun b=>decide (Lib.compareInt (aB C b.val:Nat) row < 0))) < (dY c ks).size)&&decide (Lib.compareInt (aB C ((dY c ks)[((dY c ks).toList.countP (fun b=>decide (Lib.compareInt (aB C b.val:Nat) row < 0)))]!).val:Nat) row=0))=decide (∃a∈ks,aB C a=row):=by
 have g:∀a∈ks,a < c+1:=fun a n=>by rw [<-m];exact o a n
 have i:(dY c ks).toList.countP (fun b=>decide (Lib.compareInt (aB C b.val:Nat) row < 0))=ks.countP (fun a=>decide (aB C a < row)):=by rw [<-aAp g (fun a=>decide (aB C a < row))];congr 1;funext b;rw [decide_eq_decide,pK];omega
 refine ⟨i,?_⟩;rw [i,Bool.eq_iff_iff];simp only [zBd,zCa,aDu];rw [<-tS (f:=aB C) p row];constructor;rintro ⟨d,j⟩;have e:(ks.countP fun a=>decide (aB C a < row)) < ks.length:=(by simpa [dY] using d);refine ⟨_,zAa e,?_⟩;rw [jS g (zAa e)] at j;omega;rintro ⟨b,d,j⟩;have e:=(zAc.1 d).1;refine ⟨by simpa [dY] using e,?_⟩;rw [jS g d];omega
def lZ (B gp ga:Nat) (vl vo vt vf:Value) (R P:Nat) (ks:List Nat) (C:List (Nat×Nat)) (tk:List Bool) (fr:List Nat) (row:Nat) (w:World) (d:PermAt w B gp ga vl vo vt vf R P ks C tk fr) (F:ks.Pairwise (fun k e=>aB C k < aB C e)) (O:ks.length<=1099511627776):
 Calls prog 155 #[gp,(row:Int)] w fun a l=>a=.returned (.tuple #[.int .i64 ((ks.countP (fun b=>decide (aB C b < row)):Nat):Int),.bool (decide (∃b∈ks,aB C b=row))])/\Below w.heap.size w l:=by
 have ai:=d.blk.lt;have n:Below w.heap.size w (w.alloc (.cells #[gp] 107)):=bR.alloc nL _;have X:w.cell? ⟨gp,2,none⟩=some vo:=(d.blk.cell 2).trans rfl;have N:∀g o f,vo=.slice g o f->Calls prog 211 #[.slice g o f,(row:Int),.func (.func 212) #[] #[w.heap.size]] (w.alloc (.cells #[gp] 107)) fun a l=>a=.returned (.tuple #[.int .i64 ((ks.countP (fun b=>decide (aB C b < row)):Nat):Int),.bool (decide (∃b∈ks,aB C b=row))])/\Below w.heap.size w l:=by
  intro g o f I;rcases zBa ks.length with r | r;have a6:ks= []:=zBk r;obtain ⟨W,Y,i,_⟩:=aM d.orow;rw [I] at i;injection i with _ i _;rw [r] at i;subst i;subst a6;refine (Any.slices_BinarySearchFunc_none shBin g f (.int .i64 (row:Int)) (.func (.func 212) #[] #[w.heap.size]) _).mono ?_;rintro a l ⟨rfl,rfl⟩;exact ⟨by simp,n⟩
  · rcases d.orow.2 with ⟨_,a⟩|⟨m,ac,Z,a,ag,a4,ak,aj,al,ht⟩;omega
    · rw [I] at a;injection a with e1 e2 e3;subst e1 e2 e3;rw [zBl] at ht;obtain ⟨k0,a5⟩:∃b,b∈ks:=(by obtain ⟨j,ab⟩:=List.exists_mem_of_length_pos r;exact ⟨j,ab⟩);obtain ⟨c,y⟩:∃c,C.length=c+1:=⟨C.length - 1,by have:=d.lt k0 a5;omega⟩;have E:∀b∈ks,b < c+1:=fun b O=>by rw [<-y];exact d.lt b O
      have t:Bk w m 3 Z:=a4;have s:=t.below n t.lt;have L:=lR s E ht;have a2:(w.alloc (.cells #[gp] 107)).cell? w.heap.size=some (.pointer (some gp)):=(Bk.new w 107 #[gp]).cell 0;have a3:CmpLaysT prog 212 #[w.heap.size] (dP c) (.int .i64 (row:Int)) (fun j=>Lib.compareInt (aB C j.val:Nat) row) m 0 (dY c ks).size (w.alloc (.cells #[gp] 107)):=(by intro H G u ah j;have D:=gI (enc:=dP c) s.lt 0 H u G;obtain ⟨g,o,f,a,T⟩:=d.prd a2 n;have a9:PRd (sortWorld (dP c) (w.alloc (.cells #[gp] 107)) m 0 H u G) w.heap.size gp g o f C:=(by refine ⟨?_,?_,?_⟩;exact (D.cell (p:=w.heap.size) (by simp) (fun a=>by have:=t.lt;have ae:w.heap.size=m:=a;omega)).trans T.box;exact (D.cell (p:=⟨gp,1,none⟩) (by simp;omega) (Bk.ne d.blk t dC)).trans T.sl;have a7:=aO d.lrow n;have Q:=aA (w':=sortWorld (dP c) (w.alloc (.cells #[gp] 107)) m 0 H u G) a7 fun e ad _ q=>D.bk q (Bk.ne q s dC);obtain ⟨W,Y,i,_⟩:=aM d.lrow;rw [a] at i Q;injection i with e91 e92 e93;subst e92;exact Rd.of_own Q);exact (zC w.heap.size gp g o f C j.val row _ a9 (by rw [y];exact j.isLt)).mono fun _ _ ⟨a0,a1⟩=>⟨a0,0,#[],by rw [<-a1,Go.Sort.grow_empty];rfl⟩);have a8:∀k e,k<=e->e < (dY c ks).size->Lib.compareInt (aB C ((dY c ks)[e]!).val:Nat) row < 0->Lib.compareInt (aB C ((dY c ks)[k]!).val:Nat) row < 0:=(by intro k e v x S;have q:e < ks.length:=(by simpa [dY] using x);rw [jS E (zAa q),pK] at S;rw [jS E (zAa (show k < ks.length by omega)),pK];rcases Nat.eq_or_lt_of_le v with rfl | v;exact S;have:=zAr.1 F k e oM q v;omega);have U:(dY c ks).size=ks.length:=(by simp [dY]);have hB:=Any.slices_BinarySearchFunc shBin (dP c) (jB c) (.int .i64 (row:Int)) (fun j=>Lib.compareInt (aB C j.val:Nat) row) 212 #[w.heap.size] m 0 f (dY c ks) (w.alloc (.cells #[gp] 107)) (enters_of func212 kR rfl) a3 L s.lt (by rw [U];omega) a8;obtain ⟨J,K⟩:=aFn (row:=row) y d.lt F;rw [J] at K;rw [J,K] at hB;rw [U] at hB;refine hB.mono ?_;rintro a l ⟨rfl,aa⟩;exact ⟨rfl,n.trans ((aCB L aa).mono (by simp))⟩
 obtain ⟨g,f,a,_⟩:=aM d.orow;have M:=N _ _ _ a;rw [a] at X;obtain ⟨V,A⟩:∃V,ks.countP (fun b=>decide (aB C b < row))=V:=⟨_,rfl⟩;obtain ⟨af,z⟩:∃e,decide (∃b∈ks,aB C b=row)=e:=⟨_,rfl⟩;rw [A,z] at M;rw [A,z];clear N d F A z n a;go_enter func155,ntmps155;go_wp2_with fail;refine M.mono ?_;rintro a l ⟨rfl,x⟩;go_wp2_with fail;go_ret2;exact ⟨rfl,x⟩
def fU (b:Nat->Bool):List Nat->Nat->Int
 | [],_=>-1
 | k::l,a=>if b k then (a:Int) else fU b l (a+1)
def gZ {p:Nat->Bool} {l:List Nat} (b:∀a∈l,p a=false) (c:Nat):fU p l c=-1:=by
 induction l generalizing c with
 | nil=>rfl
 | cons a l e=>
   unfold fU;rw [zBw (by rw [b a (by simp)];simp)];exact e (fun a d=>b a (by simp [d])) _
def oO {p:Nat->Bool} {l:List Nat} (b:∃a∈l,p a=true) (d:Nat):∃(e a:Nat),fU p l d=((d+e:Nat):Int)/\l[e]?=some a/\p a=true:=by
 induction l generalizing d with
 | nil=>obtain ⟨a,f,_⟩:=b;cases f
 | cons i l o=>
   unfold fU;by_cases c:p i=true;rw [zBx c];exact ⟨0,i,rfl,rfl,c⟩;rw [zBw c];obtain ⟨a,f,g⟩:=b;have n:a∈l:=(by rcases List.mem_cons.1 f with rfl | b;exact absurd g c;exact b);obtain ⟨e,q,j,k,m⟩:=o ⟨a,n,g⟩ (d+1);exact ⟨e+1,q,by rw [j];congr 1;omega,by simpa using k,m⟩
def aBS {b:Nat} {ks:List Nat} (d:∀a∈ks,a < b+1) (e:Nat->Bool) (f:Fin (b+1)) (c:Nat):Lib.idxByFrom (fun (_ j:Fin (b+1))=>e j.val) f ((ks.map fun a=>(⟨a %(b+1),Nat.mod_lt _ (Nat.succ_pos b)⟩:Fin (b+1)))) c=fU e ks c:=by
 induction ks generalizing c with
 | nil=>rfl
 | cons a k i=>
   rw [List.map_cons];unfold Lib.idxByFrom fU;simp only [zBu (d a (by simp))];rw [i (fun a g=>d a (by simp [g]))]
def fS (B gp ga:Nat) (vl vo vt vf:Value) (R P:Nat) (ks:List Nat) (C:List (Nat×Nat)) (tk:List Bool) (fr:List Nat) (d:Nat) (w:World) (f:PermAt w B gp ga vl vo vt vf R P ks C tk fr) (G:ks.length<=1099511627776):
 Calls prog 156 #[gp,(d:Int)] w fun b l=>b=.returned (.int .i64 (fU (fun a=>decide (aE C a=d)) ks 0))/\Below w.heap.size w l:=by
 have a3:=f.blk.lt;have J:w.cell? ⟨gp,2,none⟩=some vo:=(f.blk.cell 2).trans rfl;obtain ⟨g,p⟩:∃g,g=(w.alloc (.cells #[gp] 107)).alloc (.cells #[(d:Int)] 3):=⟨_,rfl⟩;have e:Below w.heap.size w g:=p ▸(bR.alloc nL _).alloc (by simp) _;have r:Bk g w.heap.size 107 #[gp]:=p ▸(Bk.new _ _ _).alloc _;have s:Bk g (w.heap.size+1) 3 #[(d:Int)]:=by have:=Bk.new (w.alloc (.cells #[gp] 107)) 3 #[(d:Int)];rw [<-p] at this;simpa using this
 have D:∀k n i,vo=.slice k n i->Calls prog 213 #[.slice k n i,.func (.func 214) #[] #[w.heap.size,.pointer (some ⟨w.heap.size+1,0,none⟩)]] g fun b l=>b=.returned (.int .i64 (fU (fun a=>decide (aE C a=d)) ks 0))/\Below w.heap.size w l:=by
  intro k n i x;rcases zBa ks.length with o | o;have W:ks= []:=zBk o;obtain ⟨Z,a0,m,_⟩:=aM f.orow;rw [x] at m;injection m with _ m _;rw [o] at m;subst m;subst W;refine (AnyE.slices_IndexFunc_empty shIdx k i (.func (.func 214) #[] #[w.heap.size,.pointer (some ⟨w.heap.size+1,0,none⟩)]) _).mono ?_;rintro b l ⟨rfl,rfl⟩;exact ⟨rfl,e⟩
  · rcases f.orow.2 with ⟨_,b⟩|⟨y,a1,K,b,a2,S,a5,a4,a6,ht⟩;omega
    · rw [x] at b;injection b with e1 e2 e3;subst e1 e2 e3;rw [zBl] at ht;obtain ⟨k0,V⟩:∃a,a∈ks:=(by obtain ⟨j,X⟩:=List.exists_mem_of_length_pos o;exact ⟨j,X⟩);obtain ⟨c,E⟩:∃c,C.length=c+1:=⟨C.length - 1,by have:=f.lt k0 V;omega⟩;have H:∀a∈ks,a < c+1:=fun a G=>by rw [<-E];exact f.lt a G
      have F:Bk w y 3 K:=S;have T:=F.below e F.lt;have M:=lR T H ht;have u:PredAt prog 214 #[w.heap.size,.pointer (some ⟨w.heap.size+1,0,none⟩)] (dP c) (fun j=>decide (aE C j.val=d)) g:=(by intro v j q;have O:=r.below q r.lt;have Q:=s.below q s.lt;obtain ⟨k,n,i,b,u⟩:=f.prd (w':=v) (O.cell 0) (e.trans (q.mono e.size));exact wP w.heap.size (w.heap.size+1) gp k n i C j.val d v u (Q.cell 0) (by rw [E];exact j.isLt));have a7:ks.length=(ks.map fun a=>(⟨a %(c+1),Nat.mod_lt _ (Nat.succ_pos c)⟩:Fin (c+1))).length:=(by simp);have z:=AnyE.slices_IndexFunc shIdx (dP c) (fun j=>decide (aE C j.val=d)) 214 #[w.heap.size,.pointer (some ⟨w.heap.size+1,0,none⟩)] (enters_of func214 kR rfl) y 0 ks.length i (ks.map fun a=>(⟨a %(c+1),Nat.mod_lt _ (Nat.succ_pos c)⟩:Fin (c+1))) g u (by simp) oM (fun Y U=>by
       have L:=(M Y (by simpa [dY] using U)).1;simpa [dY] using L)
      rw [zAg (by simp),Lib.idxBy,aBS H (fun a=>decide (aE C a=d))] at z;refine z.mono ?_;rintro b l ⟨rfl,a8,rfl⟩;exact ⟨rfl,e.os,e.tape,e.output,e.size,e.block⟩
 obtain ⟨k,i,b,_⟩:=aM f.orow;have A:=D _ _ _ b;rw [b] at J;obtain ⟨I,t⟩:∃I,fU (fun a=>decide (aE C a=d)) ks 0=I:=⟨_,rfl⟩;rw [t] at A;rw [t];subst p;clear D f t e b r s;go_enter func156,ntmps156;go_wp2_with fail;refine A.mono ?_;rintro b l ⟨rfl,N⟩;go_wp2_with fail;go_ret;exact ⟨rfl,N⟩
end
section
open Go.RowKit
def nS:(prog.info? 179).map (fun a=>(a.zero,a.size,a.bytes))=some (some (.agg #[.int .i64 0,.int .i64 0]),2,16):=by kernel_rfl
def PF (gp ga:Nat) (vl vo vt:Value) (a:Nat):Prop:=a=gp∨a=ga∨vl.ownBlock=some a∨vo.ownBlock=some a∨vt.ownBlock=some a
def gX (C:List (Nat×Nat)) (a:Nat×Nat):bA (C++ [a])=bA C++jL a:=by simp [bA]
def PermAt.below {w c:World} {B gp ga:Nat} {vl vo vt vf:Value} {R P:Nat} {ks:List Nat} {C:List (Nat×Nat)} {tk:List Bool} {fr:List Nat} (a:PermAt w B gp ga vl vo vt vf R P ks C tk fr) (b:Below w.heap.size w c):PermAt c B gp ga vl vo vt vf R P ks C tk fr:=
 ⟨a.blk.below b a.blk.lt,aO a.lrow b,aO a.orow b,a.ar.below b a.ar.lt,aO a.trow b,aO a.frow b,a.apart,a.lt,a.lo⟩
def eJ {d:Nat->Prop} {w j:World} {B:Nat} {c:TypeId} {g f:Nat} {i:Value} {k:List Value} (m:w.ownsRow B c g i f k) (o:Keep d w j) (n:∀a b,d a->Bk w a c b->False):j.ownsRow B c g i f k:=
 aA m fun a b _ e=>o.bk e (fun l=>n a b l e)
def aCY {w:World} {B g cap:Nat} {C:List (Nat×Nat)} {y:Nat×Nat} (l:w.ownsRow B 179 2 (.slice (some g) (C.length+1) cap) (C.length+1) (bA (C++ [y]))) (a:Nat×Nat):
 ((w.setCell ⟨g,C.length*2,none⟩ (.int .i64 (a.1:Int))).setCell ⟨g,C.length*2+1,none⟩ (.int .i64 (a.2:Int))).ownsRow B 179 2 (.slice (some g) (C.length+1) cap) (C.length+1) (bA (C++ [a])):=by
 rcases l.2 with ⟨c,_⟩|⟨x,v,k,c,m,n,o,p,q,e⟩
 · cases c
 · injection c with h8 h9 h10;injection h8 with h8;injection h8 with h8 _;subst h8 h10;have r:Bk w g 179 k:=n;have s:=(r.set (C.length*2) (.int .i64 (a.1:Int))).set (C.length*2+1) (.int .i64 (a.2:Int));refine ⟨by rw [cG];simp,.inr ⟨g,cap,_,rfl,m,s,o,p,by simpa using q,?_⟩⟩;rw [gX] at e⊢;have f:=cG C;apply List.ext_getElem?;intro b;have d:=congrArg (fun t=>t[b]?) e;simp only [zBs,Array.getElem?_toList] at d;rw [zBs,Array.getElem?_toList,zCd,zCd];by_cases u:b < C.length*2
   · rw [zBx oM] at d⊢;rw [zBw oM,zBw oM,d,zAn oM,zAn oM]
   · by_cases i:b=C.length*2;subst i;rw [zBx oM,zBw oM,zBx rfl,zBx oM,zAo oM,f,Nat.sub_self];rfl
     · by_cases j:b=C.length*2+1;subst j;rw [zBx oM,zBx rfl,zBx (by simp;omega),zAo oM,f,show C.length*2+1 - C.length*2=1 by omega];rfl
       · rw [zBw oM,zBg (by simp [jL];omega)]
def zD (B gp ga:Nat) (vl vo vt:Value) (R P:Nat) (ks:List Nat) (C:List (Nat×Nat)) (tk:List Bool) (row q:Nat) (w:World) (m:PermAt w B gp ga vl vo vt (.slice none 0 0) R P ks C tk []) (bx:ks.Pairwise (fun c1 f=>aB C c1 < aB C f))
 (aH:∀i∈ks,aB C i < row) (bw:∀i∈ks,aE C i≠q) (cC:row < R) (cB:q < P) (ht:tk.length=C.length) (cd:C.length<=900000) (n:ks.length<=900000) (hB:B<=w.heap.size):
 Calls prog 73 #[gp,(row:Int),(q:Int)] w fun v o=>v=.returned (.int .i64 0)/\Keep (PF gp ga vl vo vt) w o/\∃aS aT U,PermAt o B gp ga aS aT U (.slice none 0 0) R P (ks++ [C.length]) (C++ [(row,q)]) (tk++ [true]) []/\(aT.ownBlock=vo.ownBlock∨∃e,aT.ownBlock=some e/\w.heap.size<=e)/\(aS.ownBlock=vl.ownBlock∨∃e,aS.ownBlock=some e/\w.heap.size<=e)/\(U.ownBlock=vt.ownBlock∨∃e,U.ownBlock=some e/\w.heap.size<=e):=by
 obtain ⟨co,ch,cl,cm,cn⟩:=info_parts nS;have bi:ks.countP (fun i=>decide (aB C i < row))=ks.length:=List.countP_eq_length.2 fun i n=>by simpa using aH i n
 have bj:decide (∃i∈ks,aB C i=row)=false:=by rw [decide_eq_false_iff_not];rintro ⟨i,n,v⟩;have:=aH i n;omega
 have bs:fU (fun i=>decide (aE C i=q)) ks 0=-1:=gZ (fun i n=>by simpa using bw i n) 0;have c3:w.cell? ⟨gp,3,none⟩=some (.int .i64 (R:Int)):=(m.blk.cell 3).trans rfl;have c4:w.cell? ⟨gp,4,none⟩=some (.int .i64 (P:Int)):=(m.blk.cell 4).trans rfl;have X:=lZ B gp ga vl vo vt (.slice none 0 0) R P ks C tk [] row w m bx oM;rw [bi,bj] at X;have ay:=fun c0 ce=>fS B gp ga vl vo vt (.slice none 0 0) R P ks C tk [] q c0 ce oM;simp only [bs] at ay;obtain ⟨s,aD⟩:=eqx ks.length;obtain ⟨b,be⟩:=eqx C.length;rw [aD] at X;obtain ⟨b3,aa,Hn,u,b6⟩:=hqq5 ay m aD be ht;have cA:b<=900000:=oM;have cE:s<=900000:=oM;have ac:=lhd hB;clear bi bj bs ay bx aH bw m aD be ht cd n hB;go_enter func73,ntmps73;go_wp2_with fail;refine X.mono ?_;clear X;rintro v w1 ⟨rfl,an⟩;have D:=aa.out.below an;obtain ⟨ab,ad⟩:=hqq2 D an;clear D an c3 c4;go_wp2_with fail;refine (b3.out w1 ab.out).mono ?_;rintro v I ⟨rfl,ao⟩;have M:=ab.out.below ao;have bg:=ad.out.trans (ao.mono ad.out.size);have c2:I.cell? gp=some (.pointer (some ga)):=(M.blk.cell 0).trans rfl;obtain ⟨k,z⟩:=hqq2 M bg;clear M bg ao ab ad b3;go_wp2_with fail;obtain ⟨aY,ba,a8,_⟩:=aM k.out.trow;have a4:tk.length=b:=by rw [b6.out,u.out]
 have al:=jG B ga aY ba none 0 b tk I (by have:=k.out.ar;rw [a8,a4] at this;exact this) (by have:=k.out.trow;rw [a8,a4] at this;exact this) (by have:=ac.out;have:=z.out.size;omega) oM;have bH:vt=.slice aY b ba:=by rw [a8,a4]
 rw [<-bH] at al;refine al.mono ?_;clear al a8 bH a4;rintro v aU ⟨rfl,N,U,bh,bv,bl⟩;have S:=N.bk k.out.blk (fun a=>by
  rcases a with a | a;exact Bk.ne k.out.blk k.out.ar dC a
  · exact aR k.out.trow k.out.blk dC a.symm)
 have a5:=eJ k.out.lrow N (fun f j a c=>by
  rcases a with a | a;subst a;exact Bk.ne c k.out.ar dC rfl
  · exact aR k.out.trow c dC a.symm)
 have bD:=eJ k.out.orow N (fun f j a c=>by
  rcases a with a | a;subst a;exact Bk.ne c k.out.ar dC rfl
  · exact aR k.out.trow c dC a.symm)
 obtain ⟨bN,c6,bA,_⟩:=aM a5;have aJ:vl=.slice bN b c6:=by rw [bA,u.out]
 have Q:aU.cell? ⟨gp,1,none⟩=some vl:=(S.cell 1).trans rfl;have c9:=S.frozen 1;rw [aJ] at Q;have cg:=S.lt;rw [u.out] at a5;have cc:B<=aU.heap.size:=by have:=N.size;have:=ac.out;have:=z.out.size;omega
 obtain ⟨ah,af,b5,bO,ag,K,b8,b7⟩:=hqq8 N bh bv bl S a5 bD aJ;have c7:=(World.cell?_alloc_lt aU (Obj.cells #[.int .i64 0,.int .i64 0] 179) ⟨gp,1,none⟩ cg).trans Q;clear N bh bv bl S a5 bD bA aJ c2;go_wp2_with fail;refine wp_loop_rounds 2 ?_;rw [rounds_succ];go_wp2_with (at_builtin;refine cW _ rfl (.tmp 72) (.tmp 74) _ rfl B 179 co (.agg #[.int .i64 0,.int .i64 0]) 2 16 underlying99 ch cl cm cn rfl dC vl b _ b7.out.symm K.out rfl rfl (by simp [Value.oneCell']) (by unfold maxLen;omega) oM cc ?_;intro cG t aF au cF bf;have Y:=ag.out.grown au (aR K.out ag.out dC);have bc:t.cell? ⟨gp,1,none⟩=some vl:=(Y.cell 1).trans rfl;have c8:=Y.frozen 1;rw [b7.out] at bc;obtain ⟨bM,l,rfl,ck⟩:=bE aF;obtain ⟨A,ai,O,aZ⟩:=hqq4 Y aF au bf;clear ck aF au bf Y);obtain ⟨d,bb,rfl,cD,aq,cf⟩:∃d,∃V:Array Value,bM=some ⟨d,0,none⟩/\B<=d/\Bk t d 179 V/\b*2+1 < V.size:=by rcases ai.out.2 with ⟨D,M⟩|⟨e,c5,V,D,M,cb,cu,cv,cw,cx⟩;omega;injection D with D _ _;exact ⟨e,V,D,M,cb,by omega⟩
 have br:gp≠d:=Bk.ne A.out aq dC;have T:=A.out.set 1 (.slice (some ⟨d,0,none⟩) (b+1) l);have E:=aq.far (p:=⟨gp,1,none⟩) (fun v=>br v.symm) (.slice (some ⟨d,0,none⟩) (b+1) l);have az:Keep (PF gp ga vl vo vt) I (t.setCell ⟨gp,1,none⟩ (.slice (some ⟨d,0,none⟩) (b+1) l)):=
  ((ah.out.mono (G:=PF gp ga vl vo vt) (fun f _ a=>by rcases a with a | a;exact .inr (.inl a);exact .inr (.inr (.inr (.inr a))))).grown O.out (fun i n=>.inl (.inr (.inr (.inl n))))).setCell (.inl (.inl rfl)) _
 have aK:=aA (w':=t.setCell ⟨gp,1,none⟩ (.slice (some ⟨d,0,none⟩) (b+1) l)) ai.out fun f j _ c=>c.far (p:=⟨gp,1,none⟩) (Bk.ne c A.out dC) _;have bF:=aA (w':=t) b8.out fun f j _ c=>c.grown O.out (aR K.out c dC);have a7:=aA (w':=t.setCell ⟨gp,1,none⟩ (.slice (some ⟨d,0,none⟩) (b+1) l)) bF fun f j _ c=>c.far (p:=⟨gp,1,none⟩) (Bk.ne c A.out dC) _;have aw:=af.out.grown O.out (aR K.out af.out dC);have ax:=aw.far (p:=⟨gp,1,none⟩) (Bk.ne aw A.out dC) (.slice (some ⟨d,0,none⟩) (b+1) l);have bI:=aA (w':=t) b5.out fun f j _ c=>c.grown O.out (aR K.out c dC);have aO:=aA (w':=t.setCell ⟨gp,1,none⟩ (.slice (some ⟨d,0,none⟩) (b+1) l)) bI fun f j _ c=>c.far (p:=⟨gp,1,none⟩) (Bk.ne c A.out dC) _;have bm:(Value.slice (some ⟨d,0,none⟩) (b+1) l).ownBlock=vl.ownBlock∨∃e,(Value.slice (some ⟨d,0,none⟩) (b+1) l).ownBlock=some e/\I.heap.size<=e:=by rcases aZ.out with a | a;exact .inl a;exact .inr ⟨_,a,by have:=ah.out.size;omega⟩
 clear ah af b5 ag K b8 A ai O aZ Q c9 c7 c8 bc bF aw bI;generalize t.setCell ⟨gp,1,none⟩ (.slice (some ⟨d,0,none⟩) (b+1) l)=w6 at T E az aK a7 ax aO⊢;have Q:w6.cell? ⟨gp,1,none⟩=some (.slice (some ⟨d,0,none⟩) (b+1) l):=(T.cell 1).trans rfl;have aV:=E.cell (b*2);have aW:=E.cell (b*2+1);rw [zAq oM] at aV aW;have cp:=E.frozen (b*2);have cq:=E.frozen (b*2+1);generalize bb[b*2]' oM=u0 at aV;generalize bb[b*2+1]' oM=u1 at aW;obtain ⟨bS,ae,b4,bV,bX,b1,bY,b0⟩:=hqq8 T E az aK a7 ax aO bm;have ci:decide (b+1<=b)=false:=by simp
 have cj:decide ((b:Int)+1<=(b:Int))=false:=by simp;omega
 have W:w6.cell? ⟨gp,2,none⟩=some vo:=(T.cell 2).trans rfl;obtain ⟨aX,b9,bC,_⟩:=aM a7;have aN:vo=.slice aX s b9:=by rw [bC,Hn.out]
 have aj:=lhd aN;rw [aN] at W;clear T E az aK a7 ax aO bm bC aN aq cf;rw [rounds_succ];go_wp2_with fail
 have a6:=aCY (C:=C) (y:=(0,0)) (g:=d) (cap:=l) (w:=w6) (B:=B) (by
  rw [u.out,gX];exact bV.out) (row,q)
 rw [u.out] at a6;have H:Keep (fun f=>f=d) w6 ((w6.setCell ⟨d,b*2,none⟩ (.int .i64 (row:Int))).setCell ⟨d,b*2+1,none⟩ (.int .i64 (q:Int))):=((Keep.refl (fun f=>f=d) w6).setCell (p:=⟨d,b*2,none⟩) (.inl rfl) _).setCell (p:=⟨d,b*2+1,none⟩) (.inl rfl) _;have aI:((w6.setCell ⟨d,b*2,none⟩ (.int .i64 (row:Int))).setCell ⟨d,b*2+1,none⟩ (.int .i64 (q:Int))).heap.size=w6.heap.size:=by simp [World.setCell]
 rw [<-aI];clear aV aW cp cq Q W ci cj;generalize (w6.setCell ⟨d,b*2,none⟩ (.int .i64 (row:Int))).setCell ⟨d,b*2+1,none⟩ (.int .i64 (q:Int))=w7 at a6 H aI⊢;have bq:=H.bk bS.out (fun a=>br a);have bo:=H.bk b1.out (fun a=>by subst a;exact Bk.ne b1.out ae.out dC rfl);have bG:=eJ bX.out H (fun f j a c=>by subst a;exact Bk.ne c ae.out dC rfl);have bJ:=eJ bY.out H (fun f j a c=>by subst a;exact Bk.ne c ae.out dC rfl);have cy:B<=I.heap.size:=by have:=ac.out;have:=z.out.size;omega
 have cz:=b4.out.size;have ak:B<=(w7.alloc (.cells #[(b:Int)] 3)).heap.size:=by simp;omega
 have aQ:w7.heap.size < (w7.alloc (.cells #[(b:Int)] 3)).heap.size:=by simp
 have a3:Rd (w7.alloc (.cells #[(b:Int)] 3)) (w7.alloc (.cells #[(b:Int)] 3)).heap.size 1 (some ⟨w7.heap.size,0,none⟩) 1 [sv b]:=(Rd.new_ w7 3 1 #[(b:Int)] rfl).mono (by simp);have r:=bG.alloc (.cells #[(b:Int)] 3);have aL:=a6.alloc (.cells #[(b:Int)] 3);have aP:=bJ.alloc (.cells #[(b:Int)] 3);have a0:=bq.alloc (.cells #[(b:Int)] 3);have Z:=bo.alloc (.cells #[(b:Int)] 3);have ap:Below w7.heap.size w7 (w7.alloc (.cells #[(b:Int)] 3)):=bR.alloc nL _;obtain ⟨ca,av⟩:=eqx w7.heap.size;rw [av] at a3 aQ;rw [av];generalize w7.alloc (.cells #[(b:Int)] 3)=w8 at ak a3 r aL aP a0 Z ap aQ⊢;have aC:Keep (PF gp ga vl vo vt) I w8:=(b4.out.trans' (H.trans' (Keep.of_below ap) (fun _ _ a=>a)) (fun f c a=>by
  rcases b0.out with m |⟨e,m,ct⟩;exact .inr (.inr (.inl (by rw [<-m,a];rfl)))
  · exfalso;have:d=e:=(by simpa [Value.ownBlock] using m);omega))
 rw [Hn.out,aj.out] at r;have bt:=lN B aX s b9 (ks.map sv) (some ⟨ca,0,none⟩) 1 b w8 r a3 ak oM;refine bt.mono ?_;clear bt;rintro v x ⟨bL,rfl,aG,F,am⟩;rw [<-aj.out] at F am r;have a1:=a0.grown F (aR r a0 dC);have bp:=Z.grown F (aR r Z dC);have bB:=aA (w':=x) aL fun f j _ c=>c.grown F (aR r c dC);have bK:=aA (w':=x) aP fun f j _ c=>c.grown F (aR r c dC);have bu:=aC.grown F (fun i n=>.inl (.inr (.inr (.inr (.inl n)))));have bn:bL.ownBlock=vo.ownBlock∨∃e,bL.ownBlock=some e/\I.heap.size<=e:=by rcases am with a | a;exact .inl a;exact .inr ⟨_,a,aC.size⟩
 have W:x.cell? ⟨gp,2,none⟩=some vo:=(a1.cell 2).trans rfl;rw [aj.out] at W;have cs:=a1.frozen 2;obtain ⟨J,L,bz,_⟩:=aM aG;obtain ⟨cr,b2,bQ,bW,bZ,bU,bT,bP⟩:=hqq8 bz a1 bp bB bK aG bu bn;clear a6 H aI bq bo bG bJ ak aQ a3 r aL aP a0 Z ap av aC F am a1 bp bB bK aG bu bn;subst bz;go_wp2_with fail;go_ret;have a2:∀f a9 j,Bk x f a9 j->a9≠186->Bk (x.setCell ⟨gp,2,none⟩ (.slice J (s+1) L)) f a9 j:=fun f a9 j c ht=>c.far (p:=⟨gp,2,none⟩) (Bk.ne c b2.out ht) _;refine ⟨rfl,(Keep.of_below z.out).trans' (bT.out.setCell (.inl (.inl rfl)) _) (fun _ _ a=>a),.slice (some ⟨d,0,none⟩) (b+1) l,.slice J (s+1) L,U,⟨b2.out.set 2 _,?_,?_,a2 _ _ _ bQ.out dC,?_,?_,?_,?_,aa.out.lo⟩,?_,?_,?_⟩;have:=aA (w':=x.setCell ⟨gp,2,none⟩ (.slice J (s+1) L)) bW.out fun f j _ c=>a2 _ _ _ c dC;simpa [u.out] using this;have:=aA (w':=x.setCell ⟨gp,2,none⟩ (.slice J (s+1) L)) bU.out fun f j _ c=>a2 _ _ _ c dC;simpa [Hn.out,u.out] using this;have:=aA (w':=x.setCell ⟨gp,2,none⟩ (.slice J (s+1) L)) bZ.out fun f j _ c=>a2 _ _ _ c dC;simpa [b6.out,u.out] using this;exact World.ownsRow_nil _ _ _ _;rcases (Value.slice J (s+1) L).ownBlock with _ | e;exact .inl rfl;exact .inr (by simp [Value.ownBlock]);intro i n;rcases zCm.1 n with m | m;have:=aa.out.lt i m;simp;omega;simp at m;simp;omega;rcases bP.out with a |⟨e,a,bd⟩;exact .inl a;exact .inr ⟨e,a,by have:=z.out.size;omega⟩;rcases b0.out with a |⟨e,a,bd⟩;exact .inl a;exact .inr ⟨e,a,by have:=z.out.size;omega⟩;rcases bO.out with a |⟨e,a,bd⟩;exact .inl a;exact .inr ⟨e,a,by have:=z.out.size;omega⟩
def zB (a:Nat) (w:World) (m:a<=2147483648):
 Calls prog 71 #[(a:Int),.slice none 0 0] w fun d g=>∃gp ga,d=.returned (.tuple #[.pointer (some ⟨gp,0,none⟩),.int .i64 0])/\PermAt g w.heap.size gp ga (.slice none 0 0) (.slice none 0 0) (.slice none 0 0) (.slice none 0 0) a a [] [] [] []/\Below w.heap.size w g:=by
 have k:¬((a:Int) < 0):=oM;have l:¬((a:Int) > 2147483648):=oM;go_enter func71,ntmps71;go_wp2_with fail;refine (nQ _).mono ?_;rintro d w1 ⟨rfl,b,e⟩;obtain ⟨i,c⟩:=hqq2 b e;have n:=b.lt;clear b e;go_wp2_with fail;refine wp_loop_rounds 1 ?_;rw [rounds_succ];go_wp2_with fail;go_ret2;have f:=c.out.size;exact ⟨_,_,rfl,⟨Bk.new _ _ _,World.ownsRow_nil _ _ _ _,World.ownsRow_nil _ _ _ _,i.out.alloc _,World.ownsRow_nil _ _ _ _,World.ownsRow_nil _ _ _ _,.inl rfl,fun o j=>(by cases j),⟨f,zAs _⟩⟩,c.out.alloc f _⟩
def bY (b:List Nat) (d c:Nat):List (Nat×Nat):=((List.range c).filter fun a=>b.getD a 0 % d==0).map fun a=>(a,b.getD a 0)
def aAi (b:List Nat) (c a:Nat):bY b c (a+1)=if b.getD a 0 % c=0 then bY b c a++ [(a,b.getD a 0)] else bY b c a:=by
 unfold bY;rw [List.range_succ,List.filter_append,zAz];by_cases d:b.getD a 0 % c=0
 · rw [zBx d];simp only [List.filter_cons,d,beq_self_eq_true,if_true,List.filter_nil,List.map_cons,List.map_nil]
 · rw [zBw d];have:(b.getD a 0 % c==0)=false:=(by simpa using d);simp only [List.filter_cons,this,Bool.false_eq_true,if_false,List.filter_nil,List.map_nil,List.append_nil]
def kP {d:List Nat} {f c:Nat} {a:Nat×Nat} (b:a∈bY d f c):a.1 < c/\a.2=d.getD a.1 0:=by
 unfold bY at b;obtain ⟨g,e,rfl⟩:=zAy.1 b;have:=(zCt.1 e).1;exact ⟨by simpa using this,rfl⟩
def mH (e:List Nat) (d c:Nat):(bY e d c).Pairwise (fun a b=>a.1 < b.1):=by
 unfold bY;rw [List.pairwise_map];exact List.Pairwise.filter _ List.pairwise_lt_range
def xP {C:List (Nat×Nat)} {a:Nat} (b:a < C.length):(aB C a,aE C a)∈C:=by
 unfold aB aE;rw [zAb,zAa b];exact zBj b
def xO {C:List (Nat×Nat)} (g:C.Pairwise (fun a b=>a.1 < b.1)):(List.range C.length).Pairwise (fun a b=>aB C a < aB C b):=by
 rw [zAr];intro e f i k j;have c:e < C.length:=by simpa using i
 have d:f < C.length:=by simpa using k
 have:=zAr.1 g e f c d j;simp only [List.getElem_range];unfold aB;rw [zAb,zAb,zAa c,zAa d];exact this
def Apt.next2 {j f:Value} {c:Option Addr} {g:Nat} (k:Apt j c) (m:f.ownBlock=j.ownBlock∨∃e,f.ownBlock=some e/\g<=e) (l:∀a,c=some a->a.block < g):Apt f c:=by
 intro a i b;rcases m with d |⟨e,d,n⟩;exact k a i (d.symm.trans b);rw [d] at b;injection b with b;have:=l a i;omega
def PermAt.foot {w:World} {B gp ga:Nat} {vl vo vt vf:Value} {R P:Nat} {ks:List Nat} {C:List (Nat×Nat)} {tk:List Bool} {fr:List Nat} (b:PermAt w B gp ga vl vo vt vf R P ks C tk fr) {c:Nat} (a:PF gp ga vl vo vt c):B<=c:=by
 rcases a with rfl | rfl | a | a | a;exact b.lo.1;exact b.lo.2;exact (b.lrow.lt _ a).1;exact (b.orow.lt _ a).1;exact (b.trow.lt _ a).1
def PermAt.keep {F:Nat->Prop} {w w':World} {B gp ga:Nat} {vl vo vt vf:Value} {R P:Nat} {ks:List Nat} {C:List (Nat×Nat)} {tk:List Bool} {fr:List Nat} (b:PermAt w B gp ga vl vo vt vf R P ks C tk fr) (f:Keep F w w')
 (e:∀d i g,F d->Bk w d i g->i∉ [186,179,3,228,4]):PermAt w' B gp ga vl vo vt vf R P ks C tk fr:=
 ⟨f.bk b.blk (fun a=>e _ _ _ a b.blk dC),eJ b.lrow f (fun d g a c=>e _ _ _ a c dC),eJ b.orow f (fun d g a c=>e _ _ _ a c dC),f.bk b.ar (fun a=>e _ _ _ a b.ar dC),eJ b.trow f (fun d g a c=>e _ _ _ a c dC),eJ b.frow f (fun d g a c=>e _ _ _ a c dC),b.apart,b.lt,b.lo⟩
structure LvInv (w2:World) (B1 B3 gl gk gp ga n rate:Nat) (A3:Option Addr) (c3:Nat) (rs:List Nat) (k:Nat) (vl vo vt:Value) (tk:List Bool) (wr:World):Prop where
 perm:PermAt wr B1 gp ga vl vo vt (.slice none 0 0) n n (List.range (bY rs rate k).length) (bY rs rate k) tk []
 len:tk.length=(bY rs rate k).length
 apt:Apt vo A3
 row:wr.ownsRow B3 3 1 (.slice A3 n c3) n (rs.map sv)
 blk:Bk wr gl 109 #[gk,gp,(rate:Int),.int .i64 0]
 below:Below w2.heap.size w2 wr
structure LiveAt (w:World) (Bw gl gk gp ga:Nat) (vl vo vt:Value) (B n rate:Nat) (L:List Nat) (C:List (Nat×Nat)) (tk:List Bool):Prop where
 blk:Bk w gl 109 #[gk,gp,(rate:Int),.int .i64 0]
 walk:WalkAt w Bw gk L
 perm:PermAt w B gp ga vl vo vt (.slice none 0 0) n n (List.range C.length) C tk []
end
end Go.Proofs.YtnmapianpjamnaaGreatDoor
