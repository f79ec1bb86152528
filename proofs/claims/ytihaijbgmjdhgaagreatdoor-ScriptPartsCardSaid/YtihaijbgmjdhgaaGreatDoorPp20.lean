/- Lemmas of the walk. Conditions: each its own. -/
import Derived.Test.YtihaijbgmjdhgaaGreatDoorPp19
import Derived.Test.YtihaijbgmjdhgaaGreatDoorProg
import Derived.Test.YtihaijbgmjdhgaaGreatDoorShl
import Derived.Test.YtihaijbgmjdhgaaGreatDoorShi
import Derived.Test.YtihaijbgmjdhgaaGreatDoorSht
import Derived.Test.YtihaijbgmjdhgaaGreatDoorShs
set_option linter.all false
set_option maxRecDepth 100000
set_option maxHeartbeats 1000000
open Go.Proofs.Tryz
namespace Go.Proofs.YtihaijbgmjdhgaaGreatDoor
section
open Go.RowKit
open Classical in
theorem VisF.split {d:Nat->Prop} {w w':World} (f:VisF d w w'):∃w1,Keep d w w1/\Vis w1 w':=by
 let c:Array Obj:=Array.ofFn (n:=w'.heap.size) fun k=>if g:k.val < w.heap.size/\¬d k.val then w.heap[k.val]'g.1 else w'.heap[k.val]
 have x:c.size=w'.heap.size:=Array.size_ofFn;have q:∀a,a < w'.heap.size->c[a]?=if a < w.heap.size/\¬d a then w.heap[a]? else w'.heap[a]?:=fun a g=>by
  rw [zAq oM,Array.getElem_ofFn];by_cases b:a < w.heap.size/\¬d a
  · rw [zBv b,dif_pos b,zAq b.1]
  · rw [zBu b,dif_neg b,zAq g]
 refine ⟨{ w' with heap:=c },⟨f.os,f.tape,f.output,?_,fun j r v=>?_⟩,⟨rfl,rfl,rfl,?_,fun a g _=>?_⟩⟩;show w.heap.size<=c.size;rw [x];exact f.size
 · show c[j]?=w.heap[j]?;rw [q j (zAl r f.size),zBv ⟨r,v⟩]
 show c.size<=w'.heap.size;omega;have u:a < w'.heap.size:=(by have:a < c.size:=g;omega);have i:({ w' with heap:=c }:World).heap[a]?=if a < w.heap.size/\¬d a then w.heap[a]? else w'.heap[a]?:=q a u;by_cases b:a < w.heap.size/\¬d a;rw [zBv b] at i;have p:∀t e,Bk w a t e->Bk { w' with heap:=c } a t e:=fun t e j=>i.trans j;rcases f.block a b.1 b.2 with s |⟨e,o,l,m⟩|⟨e,o,l,m⟩;exact .inl (by rw [i];exact s);exact .inr (.inl ⟨e,o,p _ _ l,m⟩);exact .inr (.inr ⟨e,o,p _ _ l,m⟩);rw [zBu b] at i;exact .inl i.symm
theorem LiveE.visF {w w':World} {B:Nat} {own:Nat->Nat} {gl:Nat} {t:List UInt8} {rate:Nat} {a:Nat->Prop} (c:LiveE w B own gl t rate) (g:VisF a w w') (f:∀b,a b->own b=0):LiveE w' B own gl t rate:=by
 obtain ⟨w1,d,e⟩:=g.split;exact (c.far0 d f).vis e
end
section
open Go.RowKit
structure StAt (w:World) (B:Nat) (own:Nat->Nat) (gs gl most rate:Nat) (t:List UInt8):Prop where
 blk:Bk w gs 60 #[gl,(most:Int)]
 low:B<=gs
 col:own gs=0
 live:LiveE w B own gl t rate
 n127:t.length<=127
 len:t.length<=most
 max:most<=2147483648
 r1:1<=rate
 r2:rate<=64
section
variable {w w' : World} {B gs gl most rate : Nat} {own own' : Nat -> Nat} {t : List UInt8}
theorem StAt.tp (a:StAt w B own gs gl most rate t):TpAt w B gl t rate:=a.live.tp a.n127
theorem StAt.vb (a:StAt w B own gs gl most rate t) (b:Vis w w'):StAt w' B own gs gl most rate t:=
 ⟨b.bk a.blk dC dC,a.low,a.col,a.live.vis b,a.n127,a.len,a.max,a.r1,a.r2⟩
theorem StAt.size (a:StAt w B own gs gl most rate t):B<=w.heap.size:=by have:=a.low;have:=a.blk.lt;omega
theorem StAt.fresh (b:StAt w B own gs gl most rate t) {a:Nat} (d:w.heap.size<=a):own a=0:=Nat.eq_zero_of_not_pos fun c=>by have:=(b.live.bnd a oM).2;omega
theorem StAt.llen {a:Nat} (c:StAt w B own gs gl most rate t) (d:t.length=a):Calls prog 43 #[gl] w fun b w'=>b=.returned (.int .i64 (a:Int))/\w=w':=by
 obtain ⟨m,gk,g,l,f,e,j,k,i⟩:=c.tp;exact eA B gl _ a w e.lvw (by rw [dZ,f.len,aT,d]) oM
end
structure LFS (B gs:Nat) (w w':World) (own own':Nat->Nat):Prop where
 old:∀b,b < w.heap.size->own' b≠0->own b≠0
 vis:VisF (fun b=>own b≠0∨b=gs) w w'
 keep:Keep (fun b=>B<=b) w w'
section
variable {B gs : Nat} {w w1 w' : World} {own own1 own' : Nat -> Nat}
theorem LFS.refl (B gs:Nat) (w:World) (own:Nat->Nat):LFS B gs w w own own:=⟨fun _ _ a=>a,VisF.of_vis (Vis.refl w),Keep.refl _ _⟩
theorem LFS.size (a:LFS B gs w w' own own'):w.heap.size<=w'.heap.size:=a.keep.size
theorem LFS.trans (b:LFS B gs w w1 own own1) (e:LFS B gs w1 w' own1 own'):LFS B gs w w' own own':=by
 have f:=b.keep.size;refine ⟨fun c d a=>b.old c d (e.old c oM a),b.vis.trans' e.vis fun c d a=>?_,b.keep.trans e.keep⟩;rcases a with a | a;exact .inl (b.old c d a);exact .inr a
theorem LFS.of_vb (gs:Nat) (own:Nat->Nat) (a:VB B w w'):LFS B gs w w' own own:=⟨fun _ _ b=>b,VisF.of_vis a.1,a.2⟩
theorem LFS.of_below (B gs:Nat) (own:Nat->Nat) (a:Below w.heap.size w w'):LFS B gs w w' own own:=LFS.of_vb gs own (VisK.of_below a)
theorem LFS.below (d:LFS B gs w w' own own') (c:B<=w.heap.size):Below B w w':=d.keep.to_below c fun a f b=>by have e:B<=a:=b;omega
theorem LFS.zero (e:LFS B gs w w' own own') {a:Nat} (d:a < w.heap.size) (c:own a=0):own' a=0:=by
 by_cases b:own' a=0;exact b;exact absurd c (e.old a d b)
theorem LFS.bk (j:LFS B gs w w' own own') {a:Nat} {t:TypeId} {c:Array Value} (d:Bk w a t c) (e:own a=0) (i:a≠gs) (f:t≠288) (g:t≠229):Bk w' a t c:=
 j.vis.bk d f g fun b=>b.elim (fun b=>b e) i
structure Ap (own:Nat->Nat) (gs b:Nat):Prop where
 col:own b=0
 ne:b≠gs
theorem Ap.step {a:Nat} (b:Ap own gs a) (d:LFS B gs w w' own own') (c:a < w.heap.size):Ap own' gs a:=⟨d.zero c b.col,b.ne⟩
def MadeZ (w:World) (own:Nat->Nat) (gs:Nat) (d:TypeId) (b:Option Addr) (e c:Nat) (f:List Value):Prop:=Made w 0 d 1 b e c f/\∀a,b=some a->a.block < w.heap.size/\Ap own gs a.block
theorem MadeZ.step {a:TypeId} {c:Option Addr} {e f:Nat} {i:List Value} (b:MadeZ w own gs a c e f i) (g:LFS B gs w w' own own') (n:a≠288) (o:a≠229):MadeZ w' own' gs a c e f i:=by
 have j:w'.ownsRow 0 a 1 (.slice c e f) e i:=aB b.1.own fun l r k q=>by
  rcases c with _ | d
  · cases k
  have m:d.block=l:=(by simpa [Value.ownBlock] using k);have:=(b.2 d rfl).2;rw [m] at this;exact g.bk q this.col this.ne n o
 refine ⟨⟨j,Rd.of_own j,b.1.cap,b.1.max⟩,fun d p=>?_⟩;have:=b.2 d p;exact ⟨zAl this.1 g.size,this.2.step g this.1⟩
def ArgZ (w:World) (B:Nat) (own:Nat->Nat) (gs:Nat) (b:Option Addr) (c:Nat) (d:List UInt8):Prop:=
 Rd w w.heap.size 1 b c (d.map bv)/\(0 < c->∀a,b=some a->a.block < B∨(Ap own gs a.block/\∃e f,w.heap[a.block]?=some (.cells e 5 f)))
theorem VisF.same {d:Nat->Prop} {b:Nat} {e:Array Value} {t:TypeId} {j:Nat×Nat} (n:VisF d w w') (c:w.heap[b]?=some (.cells e t j)) (m:¬d b) (k:t≠288) (l:t≠229):w'.heap[b]?=w.heap[b]?:=by
 rcases n.block b (lt_of_block c) m with g |⟨f,o,a,i⟩|⟨f,o,a,i⟩;exact g;exfalso;unfold Bk at a;rw [c] at a;injection a with a;injection a with _ a;exact k a;exfalso;unfold Bk at a;rw [c] at a;injection a with a;injection a with _ a;exact l a
theorem ArgZ.step {l:Option Addr} {k:Nat} {f:List UInt8} (c:ArgZ w B own gs l k f) (e:LFS B gs w w' own own'):ArgZ w' B own' gs l k f:=by
 have z:=e.size;rcases zAz k with d | d;subst d;have:f= []:=(by simpa using c.1.1);subst this;exact ⟨Rd.nil _ _ _ _,fun r=>absurd r oM⟩;obtain ⟨b,v,rfl,o,q⟩:=c.1.2 d;have p:w'.heap[b]?=w.heap[b]?:=(by rcases c.2 d _ rfl with a |⟨a,m,n,g⟩;exact e.keep.block b o (by have A:b < B:=a;omega);exact e.vis.same g (fun i=>i.elim (fun i=>i a.col) a.ne) dC dC);refine ⟨⟨c.1.1,fun _=>⟨b,v,rfl,by omega,fun u x s=>by rw [<-q u x s];exact World.cell?_of_block p⟩⟩,fun _ y j=>?_⟩;injection j with j;subst j;rcases c.2 d _ rfl with a |⟨a,m,n,g⟩;exact .inl a;exact .inr ⟨a.step e o,m,n,p.trans g⟩
theorem ArgZ.old {c:Nat} {b:Option Addr} {f:Nat} {d:List UInt8} (e:Rd w c 1 b f (d.map bv)) (m:c<=B) (l:B<=w.heap.size):ArgZ w B own gs b f d:=
 ⟨e.mono oM,fun j k a=>by
  obtain ⟨g,o,i,n,_⟩:=e.2 j;rw [i] at a;injection a with a;subst a;exact .inl (by show g < B;omega)⟩
theorem ArgZ.made {d:Option Addr} {f i:Nat} {e:List UInt8} (c:MadeZ w own gs 5 d f i (e.map bv)):ArgZ w B own gs d f e:=
 ⟨c.1.rd,fun p g a=>by
   have l:=(c.2 g a).2
   obtain ⟨o,n,j,b,_,k,_⟩:=c.1.own.2.resolve_left (fun m=>by
     have:=m.1;injection this with q1;rw [q1] at a;cases a)
   injection b with b;rw [b] at a;injection a with a;subst a;exact .inr ⟨l,j,_,k⟩⟩
theorem ArgZ.vis {a:Option Addr} {c:Nat} {b:List UInt8} (d:ArgZ w B own gs a c b) (e:Below w.heap.size w w'):ArgZ w' B own gs a c b:=d.step (LFS.of_below B gs own e)
theorem StAt.far {gl most rate:Nat} {t:List UInt8} {d:Nat->Prop} (a:StAt w B own gs gl most rate t) (f:Keep d w w') (e:∀b,d b->Ap own gs b):StAt w' B own gs gl most rate t:=
 ⟨f.bk a.blk fun c=>(e _ c).ne rfl,a.low,a.col,a.live.far0 f fun b c=>(e b c).col,a.n127,a.len,a.max,a.r1,a.r2⟩
def Two (own1:Nat->Nat) (b:Nat) (d:Nat->Nat) (c:Nat):Prop:=∀a,own1 a≠0∨a=b->Ap d c a
end
theorem StAt.other {w w':World} {B p i d k l n:Nat} {own1 m f:Nat->Nat} {o:List UInt8} (a:StAt w B f d k l n o) (j:LFS p i w w' own1 m) (e:Two own1 i f d):StAt w' B f d k l n o/\Two m i f d:=by
 refine ⟨⟨j.vis.bk a.blk dC dC fun g=>(e _ g).ne rfl,a.low,a.col,a.live.visF j.vis fun b g=>(e b g).col,a.n127,a.len,a.max,a.r1,a.r2⟩,fun b c=>?_⟩;rcases c with c | c;by_cases q:b < w.heap.size;exact e b (.inl (j.old b q c));exact ⟨a.fresh oM,by have:=a.blk.lt;omega⟩;exact e b (.inr c)
theorem Two.symm {own1 e:Nat->Nat} {c d:Nat} (g:Two own1 c e d) (j:own1 c=0) (k:e d=0):Two e d own1 c:=fun b a=>by
 refine ⟨?_,fun i=>?_⟩;by_cases f:own1 b=0;exact f;have:=g b (.inl f);rcases a with a | a;exact absurd this.col a;exact absurd a this.ne;have:=g b (.inr i);rcases a with a | a;exact a this.col;exact this.ne a
theorem aA1 (B:Nat) (own:Nat->Nat) (gs gl most rate b:Nat) (t:List UInt8) (a c:Int) (w:World) (e:StAt w B own gs gl most rate t) (o:t.length=b):
 Calls prog 83 #[gs,.int .i64 a,.int .i64 c] w fun d w'=>d=.returned (.bool (dL b a c))/\w=w':=by
 have m:=e.llen o;have r:b<=127:=by have:=e.n127;omega
 have p:=e.blk.cell 0;have g:=lhd m;clear m e;unfold dL;by_cases f:0<=a
 · by_cases j:0<=c
   · by_cases l:a<=(b:Int)
     · have q:IntKind.i64.wrap ((b:Int) - a)=(b:Int) - a:=(by rw [IntKind.wrap_i64];omega);have i:decide (0<=a)=true:=zBx f;have k:decide (0<=c)=true:=zBx j;have n:decide (a<=(b:Int))=true:=zBx l;go_enter func83,ntmps83;go_wp2_with fail;refine g.out.mono ?_;rintro d w1 ⟨rfl,rfl⟩;go_wp2_with fail;refine g.out.mono ?_;rintro d w1 ⟨rfl,rfl⟩;go_wp2_with fail;go_ret;refine ⟨?_,rfl⟩
       first | rfl |(show Ending.returned (Value.bool (decide (c<=(b:Int) - a)))=_;congr 2;exact decide_eq_decide.2 oM)
     · have i:decide (0<=a)=true:=zBx f;have k:decide (0<=c)=true:=zBx j;have n:decide (a<=(b:Int))=false:=zBw l;go_enter func83,ntmps83;go_wp2_with fail;refine g.out.mono ?_;rintro d w1 ⟨rfl,rfl⟩;go_wp2_with fail;go_ret;refine ⟨?_,rfl⟩;show Ending.returned (Value.bool false)=_;rw [zBw oM]
   · have i:decide (0<=a)=true:=zBx f;have k:decide (0<=c)=false:=zBw j;go_enter func83,ntmps83;go_wp2_with fail;go_ret;exact ⟨rfl,rfl⟩
 · have i:decide (0<=a)=false:=zBw f;go_enter func83,ntmps83;go_wp2_with fail;go_ret;exact ⟨rfl,rfl⟩
def rY (a c:Int) (b:Nat):Int:=if a=1 then 0 else if a=3 then (b:Int) else c
theorem tA (B:Nat) (own:Nat->Nat) (gs gl most rate m:Nat) (t:List UInt8) (b g f:Int) (j:Option Addr) (e n:Nat) (w:World) (r:StAt w B own gs gl most rate t) (u:t.length=m) (a:dL m g (rY b f e)=false):
 Calls prog 42 #[gs,.agg #[.int .i64 b,.int .i64 g,.int .i64 f,.slice j e n]] w fun i w'=>i=.returned (.int .i64 2)/\Below w.heap.size w w':=by
 have q:Below w.heap.size w (w.alloc (.cells #[.int .i64 b,.int .i64 g,.int .i64 f,.slice j e n] 44)):=bR.alloc nL _;have s:=fun v=>aA1 B own gs gl most rate m t g v _ (r.vb (Vis.of_below q)) u;have l:=lhd q;have d:=Bk.new w 44 #[.int .i64 b,.int .i64 g,.int .i64 f,.slice j e n];have y:=d.cell 0;have z:=d.cell 1;have A:=d.cell 2;have C:=d.cell 3;have k:=lhd s;clear r q d s;unfold rY at a;by_cases o:b=1
 · subst o;rw [zBv rfl] at a;have c:=lhd a;clear a;go_enter func42,ntmps42;go_wp2_with fail;refine (k.out 0).mono ?_;rintro i w1 ⟨rfl,rfl⟩;rw [c.out];go_wp2_with fail;go_ret;exact ⟨rfl,l.out⟩
 · rw [zBu o] at a;by_cases p:b=3
   · subst p;rw [zBv rfl] at a;have c:=lhd a;clear a;go_enter func42,ntmps42;go_wp2_with fail;refine (k.out (e:Int)).mono ?_;rintro i w1 ⟨rfl,rfl⟩;rw [c.out];go_wp2_with fail;go_ret;exact ⟨rfl,l.out⟩
   · rw [zBu p] at a;have c:=lhd a;have b1:(b==1)=false:=zBz.2 o;have x:(b==3)=false:=zBz.2 p;clear a;go_enter func42,ntmps42;go_wp2_with fail;refine (k.out f).mono ?_;rintro i w1 ⟨rfl,rfl⟩;rw [c.out];go_wp2_with fail;go_ret;exact ⟨rfl,l.out⟩
structure EdW (w W:World) (B:Nat) (own:Nat->Nat) (gs gl most rate:Nat) (t:List UInt8) (kind p n:Int) (A:Option Addr) (m c:Nat):Prop where
 low:Below w.heap.size w W
 box:Bk W w.heap.size 44 #[.int .i64 kind,.int .i64 p,.int .i64 n,.slice A m c]
 st:StAt W B own gs gl most rate t
 ap:Ap own gs w.heap.size
theorem EdW.mk' {w:World} {B:Nat} {own:Nat->Nat} {gs gl most rate:Nat} {t:List UInt8} (d g f:Int) (a:Option Addr) (e b:Nat) (c:StAt w B own gs gl most rate t):
 EdW w (w.alloc (.cells #[.int .i64 d,.int .i64 g,.int .i64 f,.slice a e b] 44)) B own gs gl most rate t d g f a e b:=by
 have i:Below w.heap.size w (w.alloc (.cells #[.int .i64 d,.int .i64 g,.int .i64 f,.slice a e b] 44)):=bR.alloc nL _;exact ⟨i,Bk.new w _ _,c.vb (Vis.of_below i),⟨c.fresh nL,by have:=c.blk.lt;omega⟩⟩
theorem StAt.save {w:World} {b gs gl most rate:Nat} {own:Nat->Nat} {t:List UInt8} {c:List Nat} (a:StAt w b own gs gl most rate t) (j:IsSuf (aJ t) c):
 Calls prog 95 #[gl,(most:Int)] w (eJ w b (dK (aS (aJ t) c) c most rate t.length)):=by
 obtain ⟨l,gk,e,k,d,f,i,m,g⟩:=a.tp;obtain rfl:=d.unique j;exact lV b gl gk e rate most t l k w f i d g a.r1 a.r2 a.len a.max
theorem yH (k:Nat) (own:Nat->Nat) (gs gl most rate:Nat) (t:List UInt8) (n:List Nat) (w:World) (p:StAt w k own gs gl most rate t) (C:IsSuf (aJ t) n):
 Calls prog 47 #[gs] w (eJ w k (dK (aS (aJ t) n) n most rate t.length)):=by
 have r:∀w1,VB k w w1->Calls prog 95 #[gl,(most:Int)] w1 (eJ w1 k (dK (aS (aJ t) n) n most rate t.length)):=fun w1 u=>(p.vb u.1).save C;obtain ⟨l,z⟩:=eqx (dK (aS (aJ t) n) n most rate t.length);rw [z] at r⊢;obtain ⟨f,e⟩:=eqx l.length;obtain ⟨H,x,y⟩:=hqq3 r e p.blk;clear r p C z e;unfold eJ;rw [x.out];go_enter func47,ntmps47;go_wp2_with fail;refine wp_region_any kR ?_;refine aI [6,7,8,9,10,11,12,13,14,15,16,2,3] (VB k) (Vs [is gs,is gs,is gs,is gl,is gs,is gs,is (.pointer (some ⟨gs,1,none⟩)),is (most:Int),fun g i=>∃a b,g=.tuple #[.slice a f b,.int .i64 0]/\Made i w.heap.size 5 1 a f b (l.map bv),fun g i=>∃a b,g=.slice a f b/\Made i w.heap.size 5 1 a f b (l.map bv),is (.int .i64 0),fun g i=>∃a b,g=.slice a f b/\Made i w.heap.size 5 1 a f b (l.map bv),is (.int .i64 0)]) _ _ rfl kR vR (fun _ _=>VisK.trans) (fS (by repeat' (first | exact nO _ _ | exact oE _ | exact fun _ _ _ ⟨E,I,N,O⟩ u=>⟨E,I,N,u.1.made O dC dC⟩|(refine zAe.2 ⟨?_,?_⟩)|(intro a0 P;cases P)))) ?_ ?_
 · refine aG ?_;refine pH 0 (.pointer (some gs)) ?_;refine pV 0 6 ?_;refine pV 1 7 ?_;refine sC (fun _ j c _ _ _ d _ _ _ e=>?_) ?_
   · have Y:_=_:=d 2 8 kR rfl;replace c:(VB k) w j:=bD c;have q:=c.1.bk y.out dC dC;have J:=q.cell 0;go_simp;exact e _ _ vR rfl
   refine pH 0 (.pointer (some gs)) ?_;refine pV 4 10 ?_;refine pV 5 11 ?_;refine sC (fun _ j c _ _ _ d _ _ _ e=>?_) ?_
   · have V:_=_:=d 6 12 kR rfl;replace c:(VB k) w j:=bD c;have q:=c.1.bk y.out dC dC;have J:=q.cell 1;go_simp;exact e _ _ vR rfl
   refine sC (fun _ j c _ _ _ d _ _ _ e=>?_) ?_
   · have Z:_=_:=d 3 9 kR rfl;have W:_=_:=d 7 13 kR rfl;replace c:(VB k) w j:=bD c;go_simp;have s:=H.out j c;unfold eJ at s;rw [x.out] at s;refine s.mono ?_;rintro U a1 ⟨a,b,rfl,o,Q⟩;exact e _ _ Q ⟨a,b,rfl,o.mono c.1.size⟩
   refine sC (fun m j _ _ _ _ d _ _ _ e=>?_) ?_
   · have v:(fun g i=>∃a b,g=.tuple #[.slice a f b,.int .i64 0]/\Made i w.heap.size 5 1 a f b (l.map bv)) (m (.tmp 14)) j:=d 8 14 kR rfl;obtain ⟨a,b,K,o⟩:=v;go_simp;exact e _ _ vR ⟨a,b,rfl,o⟩
   refine sC (fun m j _ _ _ _ d _ _ _ e=>?_) ?_
   · have v:(fun g i=>∃a b,g=.tuple #[.slice a f b,.int .i64 0]/\Made i w.heap.size 5 1 a f b (l.map bv)) (m (.tmp 14)) j:=d 8 14 kR rfl;obtain ⟨a,b,K,o⟩:=v;go_simp;exact e _ _ vR rfl
   refine sC (fun m j _ _ _ _ d _ _ _ e=>?_) ?_
   · have R:(fun g i=>∃a b,g=.slice a f b/\Made i w.heap.size 5 1 a f b (l.map bv)) (m (.tmp 15)) j:=d 9 15 kR rfl;obtain ⟨a,b,X,o⟩:=R;go_simp;exact e _ _ vR ⟨a,b,rfl,o⟩
   refine pV 10 16 ?_;exact aC
 · intro m D c d;replace c:(VB k) w D:=bD c;have S:(fun g i=>∃a b,g=.slice a f b/\Made i w.heap.size 5 1 a f b (l.map bv)) (m (.tmp 2)) D:=d 11 2 rfl;have M:m (.tmp 3)=.int .i64 0:=d 12 3 rfl;simp only [zqq];rw [M];clear d;obtain ⟨a,b,L,A⟩:=S;rw [L];obtain ⟨G,F⟩:=hqq2 A c;clear A c;go_wp2_with fail;go_ret2;exact ⟨a,b,rfl,G.out,F.out⟩
section
open Go
theorem mE {s:Program} {b:Array Oper} {u:Exit->Act->World->Prop} {k:Region.Mode} (d:Nat) (v:List Nat) (g:Nat->Prop) (c:Nat) (y:List Nat) (q:World->Prop) (p:Value->World->Prop) (o:List (Value->World->Prop)) (l:Act) (i:World)
 (K:(b.toList.take d).filterMap (·.dst)=v) (N:d<=b.size) (M:eL k b l.tmps.size=true) (U:((List.range b.size).all fun e=>decide (e < d)||(List.range d).all fun a=>upB k b b.size e a)=true)
 (Q:(y.all fun a=>a==c||upB k b b.size c a)=true)
 (P:q i) (O:∀w w',q w->Keep g i w->Grow w w'->q w') (J:Stb p) (R:∀W∈o,pG g W)
 (S:∀j F,j < d->b[j]?=some F->bS s b u k (Keep g i) (jT g c) (fun a w=>y.contains a=true->q w) (VsJ c p o) l j F)
 (L:∀(A:Operand->Value) w f,Keep g i w->(∀a z,a < d->((b[a]?).bind (·.dst))=some z->VsJ c p o a (A (.tmp z)) w)->(∀a,a < d->∃r,VsJ c p o a r w)->wpAny s k b u (b.size - d+f) (bG d b.size) (cD A v l) w):
 wpAny s k b u b.size (Array.replicate b.size false) l i:=by
 refine mU d v (Keep g i) (jT g c) (fun a w=>y.contains a=true->q w) (VsJ c p o) l i K N M U (Keep.refl _ _) (fun _ _=>P) (fun j w w' _ H e=>H.trans (fN e)) (fun a j w w' _ x V m I e D=>?_) (fun a j r w w' _ x _ n _ e=>?_) S L;by_cases E:j=c;exfalso;subst E;have C:=zBe.1 Q a (by simpa using D);simp only [V,Bool.or_false,zCl] at C;exact x C;exact O w w' (m D) I (e.2 E);unfold VsJ at n⊢;by_cases m:a=c;rw [zBv m] at n⊢;exact J r w w' n (e.2 fun G=>x (m.trans G.symm));rw [zBu m] at n⊢;exact oF R a r w w' n (fN e)
end
def aCo (w:World) (B:Nat) (own:Nat->Nat) (gs most rate:Nat) (t:List UInt8) (a:Ending) (w':World):Prop:=
 a=.returned (.int .i64 0)/\∃own' b,StAt w' B own' gs b most rate t/\LFS B gs w w' own own'
theorem yI (B:Nat) (own:Nat->Nat) (gs gl y an most rate:Nat) (C:Option Addr) (z n:Nat) (ao t:List UInt8) (g:List Nat) (w:World) (c:StAt w B own gs gl y an ao) (aj:IsSuf (aJ t) g) (Y:t.length<=127)
 (a0:1<=rate) (a1:rate<=64) (W:t.length<=most) (X:most<=2147483648) (K:(dK (aS (aJ t) g) g most rate t.length).length=z) (Z:Rd w w.heap.size 1 C z ((dK (aS (aJ t) g) g most rate t.length).map bv)) (af:z<=n) (ag:n<=maxLen):
 Calls prog 48 #[gs,.slice C z n] w (aCo w B own gs most rate t):=by
 have v:=tB C n w.heap.size most rate t g w aj Y a0 a1 W X (by rw [K];exact Z) nL (by rw [K];exact af) ag;rw [K] at v;unfold pP at v;obtain ⟨O,D⟩:=hqq2 v c;clear v Z c;go_enter func48,ntmps48;go_wp2_with fail;refine O.out.mono ?_;rintro ax w1 ⟨k,rfl,⟨own1,a2⟩,x⟩;have aF:=x.1.size;have P:=lhd x;have J:=x.1.bk D.out.blk dC dC;have U:=D.out.blk.lt;obtain ⟨q,ai⟩:=eqx w1.heap.size;have r:Below w1.heap.size w1 (w1.alloc (.cells #[(most:Int),(rate:Int),(t.length:Int)] 139)):=bR.alloc nL _;have V:Bk (w1.alloc (.cells #[(most:Int),(rate:Int),(t.length:Int)] 139)) q 139 #[(most:Int),(rate:Int),(t.length:Int)]:=ai ▸ Bk.new _ _ _;have S:=J.below r J.lt;obtain ⟨E,m,M,N,a7⟩:=hqq5 (a2.vis (Vis.of_below r)) r S V (show ¬q=gs by omega);clear a2 x O r V J S;unfold lI;go_wp2_with fail;generalize ab:w1.alloc (.cells #[(most:Int),(rate:Int),(t.length:Int)] 139)=W1 at E m M N⊢;clear ab;refine wp_region_any kR ?_;refine mE 10 [18,19,20,21,22,23,24,25,26] (fun a=>a=gs) 7 [7] (fun j=>Bk j gs 60 #[gl,(y:Int)]) (fun _ j=>Bk j gs 60 #[k,.int .i64 (y:Int)]) [is gs,is gs,is k,is q,is (most:Int),is gs,is gs,dJ,is gs,is (.pointer (some ⟨gs,1,none⟩))] _ _ rfl dC kR kR kR (M.out) (fun w1 j c _ ah=>Bk.below c ah c.lt) (fun _ _ _ c ak=>Bk.below c ak c.lt) tA1 ?_ ?_
 · refine fR ?_;refine pH3 0 (.pointer (some gs)) ?_;refine pH3 0 (.pointer (some gs)) ?_;refine pH3 5 (.pointer (some k)) ?_;refine pH3 6 (.pointer (some q)) ?_;refine sC3 (fun _ aq e _ _ _ _ d _ _ _ l=>?_) ?_
   · replace e:Keep (fun a=>a=gs) W1 aq:=kD e;have az:_=_:=d 3 21 kR rfl;have aw:=(Keep.bk e N.out a7.out).cell 0;go_simp;exact kq l rfl
   refine pV3 0 18 ?_;refine pV3 5 23 ?_;refine sC3 (fun _ _ _ aa _ _ _ d _ _ _ l=>?_) ?_
   · have L:=aa rfl;have aA:_=_:=d 6 24 kR rfl;have ay:_=_:=d 2 20 kR rfl;have aD:=L.frozen 0;have av:=L.cell 0;go_simp;exact l (.bool true) _ (aV (Keep.setCell (F:=fun a=>a=gs) (Keep.refl _ _) (p:=gs) (.inl rfl) _)) (L.set 0 _)
   refine pV3 1 19 ?_;refine pV3 8 25 ?_;exact aC
 · intro Q A b e d R;replace e:Keep (fun a=>a=gs) W1 A:=kD e;have a8:Q (.tmp 22)=.int .i64 (most:Int):=d 4 22 dC rfl;have a9:Q (.tmp 26)=.pointer (some ⟨gs,1,none⟩):=d 9 26 dC rfl;simp only [zqq];rw [a8];rw [a9];clear d;obtain ⟨ap,a3⟩:=R 7 dC;have am:(fun _ j=>Bk j gs 60 #[k,.int .i64 (y:Int)]) ap A:=a3;clear a3 R;have s:=am;have aB:=s.frozen 1;have au:=s.cell 1;obtain ⟨a4,a6⟩:=hqq2 s e;clear s;change wpAny prog Region.Mode.any _ _ (1+b) (bG 10 11) _ A;rw [zCm 1 b];refine dW (f:=b) (i:=10) kR ?_;refine eT rfl rfl ?_;generalize l:wpAny prog _ _ _ b _=K5;go_simp;subst l;refine fK kR ?_;have u:Keep (fun a=>a=gs) W1 (A.setCell ⟨gs,1,none⟩ (.int .i64 (most:Int))):=a6.out.setCell (p:=⟨gs,1,none⟩) (.inl rfl) _;have ac:=a4.out.set 1 (.int .i64 (most:Int));obtain ⟨ar,a5⟩:=hqq2 u ac;have H:=D.out;go_wp2_with fail;go_ret;have aE:=m.out.size;have ae:=H.size;have ad:=E.out.bnd;have G:∀a,a < w.heap.size->own1 a=0:=fun a I=>Nat.eq_zero_of_not_pos fun b=>by have:=(ad a oM).1;omega
   refine ⟨rfl,own1,k,⟨a5.out,H.low,G _ U,(E.out.far0 u (fun a b=>by have o:a=gs:=b;subst o;exact G _ U)).low ae,Y,W,X,a0,a1⟩,⟨fun a I b=>absurd (G a I) b,?_,?_⟩⟩;exact ((VisF.of_vis P.out.1).trans' (VisF.of_vis (Vis.of_below m.out)) (fun a _ b=>b)).trans' (VisF.of_keep u) (fun a _ b=>.inr b)
   · have al:Keep (fun a=>B<=a) w w1:=P.out.2.mono fun a I b=>by have o:w.heap.size<=a:=b;show B<=a;omega
     exact (al.trans (Keep.of_below m.out)).trans (u.mono fun a _ b=>by have o:a=gs:=b;subst o;exact H.low)
def TxtAt (w:World) (B gl:Nat) (t:List UInt8):Prop:=∃a,IsSuf (aJ t) a/\LvW w B gl (aS (aJ t) a)/\t.length<=127
theorem TxtAt.vis {w w':World} {B gl:Nat} {t:List UInt8} (a:TxtAt w B gl t) (e:Vis w w'):TxtAt w' B gl t:=by
 obtain ⟨f,b,c,d⟩:=a;exact ⟨f,b,c.vis e,d⟩
theorem TxtAt.mono {w:World} {B B' gl:Nat} {t:List UInt8} (a:TxtAt w B gl t) (f:B'<=B):TxtAt w B' gl t:=by
 obtain ⟨k,b,⟨gk,g,i,j,c,e⟩,d⟩:=a;exact ⟨k,b,⟨gk,g,i,j,c,e.mono f⟩,d⟩
theorem TxtAt.le {w:World} {B gl:Nat} {t:List UInt8} (a:TxtAt w B gl t):t.length<=127:=by
 obtain ⟨e,c,d,b⟩:=a;exact b
def mP (w:World) (B:Nat) (own:Nat->Nat) (gs most rate:Nat) (T:List UInt8) (b:Told) (g:Ending) (w':World):Prop:=
 ∃c e d f own' i,g=.returned (.agg (iK b c e d f))/\StAt w' B own' gs i most rate T/\LFS B gs w w' own own'/\Made w' w.heap.size 5 1 c b.data.length e (b.data.map bv)/\Made w' w.heap.size 3 1 d b.places.length f (b.places.map nv)/\(∀a,c=some a->own' a.block=0)/\(∀a,d=some a->own' a.block=0)
section
variable {w w1 w' : World} {B gs gl most rate : Nat} {own own' : Nat -> Nat} {T : List UInt8}
theorem LFS.put (a:LFS B gs w w1 own own') {p:Addr} (c:w.heap.size<=p.block) (d:B<=p.block) (b:Value):LFS B gs w (w1.setCell p b) own own':=
 ⟨a.old,VisF.put a.vis (.inr c) b,a.keep.setCell (.inr c) b⟩
theorem StAt.put (e:StAt w B own gs gl most rate T) {p:Addr} (f:Ap own gs p.block) (b:Value):StAt (w.setCell p b) B own gs gl most rate T:=
 e.far (Keep.setCell (F:=fun a=>a=p.block) (Keep.refl _ _) (.inl rfl) b) fun a c=>by have d:a=p.block:=c;rw [d];exact f
theorem eW {b i:Nat} {t a:TypeId} {l k:_} {d g e:Nat} {c:Option Addr} (m:Made w d a 1 c g e k) (n:Bk w b t l) (o:a≠t) (j:Value):Made (w.setCell ⟨b,i,none⟩ j) d a 1 c g e k:=
 jL m fun q r f=>f.far (p:=⟨b,i,none⟩) (Bk.ne f n o) j
theorem qQ {y:Array Value} {a:Nat} {H I J K:Value} {b c:Option Addr} {v d x e:Nat} {k l:Int} {g:List UInt8} {j:List Nat} {s:Exit} (O:s=.ret∨s=.normal) (U:y.getD 4 undef=.pointer (some a)) (u:Bk w1 a 41 #[H,I,J,K])
 (W:StAt w1 B own' gs gl most rate T) (Q:LFS B gs w w1 own own') (X:B<=w.heap.size) (q:w.heap.size<=a) (o:Ap own' gs a) (N:g.length=v) (V:j.length=x) (R:Made w1 w.heap.size 5 1 b v d (g.map bv)) (S:Made w1 w.heap.size 3 1 c x e (j.map nv)) (F:∀m,b=some m->own' m.block=0) (G:∀m,c=some m->own' m.block=0):
 bodyPost prog f25 (mP w B own gs most rate T ⟨k,l,g,j⟩) s ⟨y, []⟩ ((((w1.setCell a (.int .i64 k)).setCell ⟨a,1,none⟩ (.int .i64 l)).setCell ⟨a,2,none⟩ (.slice b v d)).setCell ⟨a,3,none⟩ (.slice c x e)):=by
 subst N V;have b1:=u.set 0 (.int .i64 k);have b2:=b1.set 1 (.int .i64 l);have r:=b2.set 2 (.slice b g.length d);have L:=r.set 3 (.slice c j.length e);have n:B<=a:=oM;have C:=(((W.put (p:=a) o (.int .i64 k)).put (p:=⟨a,1,none⟩) o (.int .i64 l)).put (p:=⟨a,2,none⟩) o (.slice b g.length d)).put (p:=⟨a,3,none⟩) o (.slice c j.length e);have z:=(((Q.put (p:=a) q n (.int .i64 k)).put (p:=⟨a,1,none⟩) q n (.int .i64 l)).put (p:=⟨a,2,none⟩) q n (.slice b g.length d)).put (p:=⟨a,3,none⟩) q n (.slice c j.length e);have D:=eW (i:=3) (eW (i:=2) (eW (i:=1) (eW (i:=0) R u dC (.int .i64 k)) b1 dC (.int .i64 l)) b2 dC (.slice b g.length d)) r dC (.slice c j.length e);have E:=eW (i:=3) (eW (i:=2) (eW (i:=1) (eW (i:=0) S u dC (.int .i64 k)) b1 dC (.int .i64 l)) b2 dC (.slice b g.length d)) r dC (.slice c j.length e);have M:Bk ((((w1.setCell a (.int .i64 k)).setCell ⟨a,1,none⟩ (.int .i64 l)).setCell ⟨a,2,none⟩ (.slice b g.length d)).setCell ⟨a,3,none⟩ (.slice c j.length e)) a 41 (iK ⟨k,l,g,j⟩ b d c e):=by simpa [iK] using L
 have A:=results_cell_row (P:=prog) (fn:=f25) (p:=4) (ty:=41) rfl y _ a 41 (iK ⟨k,l,g,j⟩ b d c e) (0,0) _ U M underlying41 rfl kR;rcases O with rfl | rfl;exact bodyPost_ret A rfl ⟨b,d,c,e,own',gl,rfl,C,z,D,E,F,G⟩;exact bodyPost_end A rfl ⟨b,d,c,e,own',gl,rfl,C,z,D,E,F,G⟩
end
structure DoW (w W:World) (B:Nat) (own:Nat->Nat) (gs gl most rate:Nat) (t:List UInt8) (kind p n:Int) (A:Option Addr) (m c:Nat):Prop where
 low:Below w.heap.size w W
 box:Bk W w.heap.size 44 #[.int .i64 kind,.int .i64 p,.int .i64 n,.slice A m c]
 res:Bk W (w.heap.size+1) 41 #[.int .i64 0,.int .i64 0,.slice none 0 0,.slice none 0 0]
 st:StAt W B own gs gl most rate t
 ap:Ap own gs (w.heap.size+1)
 sz:W.heap.size=w.heap.size+2
 fr:∀b,w.heap.size<=b->own b=0
 bs:B<=w.heap.size
theorem DoW.mk' {w:World} {B:Nat} {own:Nat->Nat} {gs gl most rate:Nat} {t:List UInt8} (e i g:Int) (b:Option Addr) (f c:Nat) (a:StAt w B own gs gl most rate t):
 DoW w ((w.alloc (.cells #[.int .i64 e,.int .i64 i,.int .i64 g,.slice b f c] 44)).alloc (.cells #[.int .i64 0,.int .i64 0,.slice none 0 0,.slice none 0 0] 41)) B own gs gl most rate t e i g b f c:=by
 have d:Below w.heap.size w ((w.alloc (.cells #[.int .i64 e,.int .i64 i,.int .i64 g,.slice b f c] 44)).alloc (.cells #[.int .i64 0,.int .i64 0,.slice none 0 0,.slice none 0 0] 41)):=(bR.alloc nL _).alloc (by simp) _;have j:=Bk.new (w.alloc (.cells #[.int .i64 e,.int .i64 i,.int .i64 g,.slice b f c] 44)) 41 #[.int .i64 0,.int .i64 0,.slice none 0 0,.slice none 0 0];rw [World.size_alloc] at j;exact ⟨d,(Bk.new w _ _).alloc _,j,a.vb (Vis.of_below d),⟨a.fresh oM,by have:=a.blk.lt;omega⟩,by rw [World.size_alloc,World.size_alloc],fun k d=>a.fresh d,a.size⟩
theorem pI (B:Nat) (own:Nat->Nat) (gs gl most rate:Nat) (t o:List UInt8) (d m l:Int) (g:Option Addr) (k i:Nat) (p:Int) (w:World) (r:StAt w B own gs gl most rate t) (G:d=1∨d=2∨d=3)
 (v:∀e,StAt e B own gs gl most rate t->LFS B gs w e own own->Calls prog 42 #[gs,.agg #[.int .i64 d,.int .i64 m,.int .i64 l,.slice g k i]] e fun q w'=>q=.returned (.int .i64 p)/\∃own',StAt w' B own' gs gl most rate o/\LFS B gs e w' own own'):
 Calls prog 25 #[gs,bZ d m l g k i] w (mP w B own gs most rate o ⟨p,0, [], []⟩):=by
 have c:=DoW.mk' d m l g k i r;have u:=v _ c.st (LFS.of_below B gs own c.low);have H:=c.box.cell 0;have I:=c.box.cell 1;have J:=c.box.cell 2;have K:=c.box.cell 3;obtain ⟨b,n⟩:=hqq2 c u;clear c u v r;unfold bZ;rcases G with rfl | rfl | rfl
 all_goals
  go_enter func25,ntmps25;go_wp2_with fail;refine n.out.mono ?_;rintro q w1 ⟨rfl,own',y,f⟩;have a:=f.bk b.out.res b.out.ap.col b.out.ap.ne dC dC;have s:=b.out.ap.step f b.out.res.lt;have x:=(LFS.of_below B gs own b.out.low).trans f;have A:=lhd b.out.bs;have P:=a.cell 0;have Q:=a.cell 1;have R:=a.cell 2;have S:=a.cell 3;have L:=a.frozen 0;have M:=a.frozen 1;have N:=a.frozen 2;have O:=a.frozen 3;obtain ⟨E,D,C,z⟩:=hqq4 a y x s;clear a y x f s n b;go_wp2_with fail;exact qQ (.inl rfl) rfl E.out D.out C.out A.out oM z.out rfl rfl (aM _ _ _) (aM _ _ _) (fun F j=>by cases j) (fun F j=>by cases j)
theorem yJ (B:Nat) (own:Nat->Nat) (gs gl most rate:Nat) (t:List UInt8) (I H:Int) (f:Option Addr) (G g:Nat) (w:World) (o:StAt w B own gs gl most rate t):
 Calls prog 25 #[gs,bZ 8 I H f G g] w (mP w B own gs most rate t ⟨0,0, [], []⟩):=by
 obtain ⟨b,e⟩:∃b,IsSuf (aJ t) b:=by obtain ⟨b,gk,Z,a4,e,_⟩:=o.tp;exact ⟨b,e⟩
 have i:=DoW.mk' 8 I H f G g o;have l:=yH B own gs gl most rate t b _ i.st e;unfold eJ at l;obtain ⟨R,q⟩:=eqx ((dK (aS (aJ t) b) b most rate t.length).length);rw [q] at l;have y:=fun f g w1 (d:StAt w1 B own gs gl most rate t)=>yI B own gs gl most rate most rate f R g t t b w1 d e d.n127 d.r1 d.r2 d.len d.max q;have S:=i.box.cell 0;obtain ⟨c,v,r⟩:=hqq3 i l y;clear i l y o q e;unfold bZ;go_enter func25,ntmps25;go_wp2_with fail;refine v.out.mono ?_;rintro Q w1 ⟨J,P,rfl,k,m⟩;have E:=c.out.st.vb m.1;have C:=(LFS.of_below B gs own c.out.low).trans (LFS.of_vb gs own m);have D:=m.1.bk c.out.res dC dC;have z:=r.out J P w1 E k.rd k.cap k.max;obtain ⟨s,u,n⟩:=hqq3 z C D;clear E C D z k m v r;go_wp2_with fail;refine s.out.mono ?_;rintro Q a5 ⟨rfl,own',Y,F,j⟩;have a:=j.bk n.out c.out.ap.col c.out.ap.ne dC dC;have x:=c.out.ap.step j n.out.lt;have A:=u.out.trans j;have a0:=a.cell 0;have a1:=a.cell 1;have a2:=a.cell 2;have a3:=a.cell 3;have U:=a.frozen 0;have V:=a.frozen 1;have W:=a.frozen 2;have X:=a.frozen 3;obtain ⟨N,M,L,K⟩:=hqq4 a F A x;clear a F A j x s u n;go_wp2_with fail;exact qQ (.inl rfl) rfl N.out M.out L.out c.out.bs oM K.out rfl rfl (aM _ _ _) (aM _ _ _) (fun O p=>by cases p) (fun O p=>by cases p)
theorem aBE:(prog.info? 41).map (fun a=>(a.zero.map (·.cells.size),a.size,a.bytes))=some (some 4,4,64):=by kernel_rfl
theorem mG:∃b c,prog.info? 41=some b/\b.zero=some c/\b.size=4/\b.bytes=64/\c.cells.size=4:=by
 have a:=aBE;cases e:prog.info? 41 with
 | none=>rw [e] at a;cases a
 | some b=>
   rw [e] at a;cases d:b.zero with
   | none=>simp [d] at a
   | some c=>
     simp [d] at a;exact ⟨b,c,rfl,d,a.2.1,a.2.2,a.1⟩
theorem StpsAt.get {w:World} {B:Nat}:∀ {g:List Sp} {a:List Value} {k:Nat} {s:Sp},StpsAt w B a g->g[k]?=some s->
 ∃b f c,a[k*4]?=some (.int .i64 s.kind)/\a[k*4+1]?=some (.int .i64 s.p)/\a[k*4+2]?=some (.int .i64 s.k)/\a[k*4+3]?=some (.slice b f c)/\DataAt w B b f c s.D
 | [],_,k,_,_,j=>by simp at j
 | s0::g,a,0,s,⟨b,f,c,ys,e,hd,j⟩,hk=>by have v:s0=s:=(by simpa using hk);subst v;exact ⟨b,f,c,by rw [e];rfl,by rw [e];rfl,by rw [e];rfl,by rw [e];rfl,hd⟩
 | s0::g,a,k+1,s,⟨b,f,c,ys,e,hd,j⟩,hk=>by
   obtain ⟨l,x,m,n,o,q,r,u⟩:=StpsAt.get j (k:=k) (s:=s) (by simpa using hk);have i:∀d,a[(k+1)*4+d]?=ys[k*4+d]?:=fun d=>by rw [e,show (k+1)*4+d=(k*4+d)+1+1+1+1 by omega];simp
   exact ⟨l,x,m,(i 0).trans n,(i 1).trans o,(i 2).trans q,(i 3).trans r,u⟩
section
variable {w w1 w' : World} {B gs : Nat} {own own' : Nat -> Nat}
def StpZ (w:World) (B:Nat) (own:Nat->Nat) (gs:Nat) (j:Option Addr) (i:Nat) (f:List Sp):Prop:=
 f.length=i/\(0 < i->∃a c,j=some ⟨a,c,none⟩/\a < w.heap.size/\(a < B∨(Ap own gs a/\∃l m,w.heap[a]?=some (.cells l 44 m)))/\
    ∀b d,f[b]?=some d->∃e g k,w.cell? ⟨a,c+b*4,none⟩=some (.int .i64 d.kind)/\w.cell? ⟨a,c+b*4+1,none⟩=some (.int .i64 d.p)/\w.cell? ⟨a,c+b*4+2,none⟩=some (.int .i64 d.k)/\w.cell? ⟨a,c+b*4+3,none⟩=some (.slice e g k)/\ArgZ w B own gs e g d.D)
theorem StpZ.step {i:Option Addr} {o:Nat} {j:List Sp} (m:StpZ w B own gs i o j) (d:LFS B gs w w' own own'):StpZ w' B own' gs i o j:=by
 refine ⟨m.1,fun r=>?_⟩;obtain ⟨b,E,rfl,g,n,z⟩:=m.2 r;have c:w'.heap[b]?=w.heap[b]?:=by rcases n with a |⟨a,k,l,e⟩;exact d.keep.block b g (by have G:b < B:=a;omega);exact d.vis.same e (fun f=>f.elim (fun f=>f a.col) a.ne) dC dC
 refine ⟨b,E,rfl,zAl g d.size,?_,fun C F A=>?_⟩;rcases n with a |⟨a,k,l,e⟩;exact .inl a;exact .inr ⟨a.step d g,k,l,c.trans e⟩
 · obtain ⟨p,D,q,s,u,v,x,y⟩:=z C F A;exact ⟨p,D,q,(World.cell?_of_block c).trans s,(World.cell?_of_block c).trans u,(World.cell?_of_block c).trans v,(World.cell?_of_block c).trans x,y.step d⟩
theorem StpZ.of_stps {k b1 d l:Nat} {f:Option Addr} {g:List Value} {e:List Sp} (o:w1.ownsRow k 44 4 (.slice f d l) d g) (u:StpsAt w1 b1 g e) (q:e.length=d) (a:Below w1.heap.size w1 w):StpZ w w1.heap.size own gs f d e:=
 ⟨q,fun p=>by
  obtain ⟨j,x,n,b,c⟩:=(Rd.of_own o).2 p;refine ⟨j,x,n,by have:=a.size;omega,.inl b,fun D E s=>?_⟩;obtain ⟨i,v,m,y,z,A,C,r⟩:=u.get s;exact ⟨i,v,m,(a.cell b).trans (c _ _ y),(a.cell b).trans (c _ _ z),(a.cell b).trans (c _ _ A),(a.cell b).trans (c _ _ C),ArgZ.old (r.rd.below a) nL a.size⟩⟩
structure AnsK (H:Nat->Prop) (w w':World) (B gs:Nat) (own:Nat->Nat):Prop where
 keep:Keep H w w'
 low:∀b,H b->B<=b
 ap:∀b,H b->Ap own gs b
 ty:∀b,H b->∃cs fr,w.heap[b]?=some (.cells cs 41 fr)
theorem AnsK.same {e:Nat->Prop} (d:AnsK e w w' B gs own) {b:Nat} {f:Array Value} {t:TypeId} {i:Nat×Nat} (c:w.heap[b]?=some (.cells f t i)) (j:t≠41):w'.heap[b]?=w.heap[b]?:=
 d.keep.block b (lt_of_block c) fun g=>by obtain ⟨k,l,a⟩:=d.ty b g;rw [c] at a;injection a with a;injection a with _ a;exact j a
theorem ArgZ.ans {o:Nat->Prop} {k:Option Addr} {j:Nat} {f:List UInt8} (c:ArgZ w B own gs k j f) (e:AnsK o w w' B gs own):ArgZ w' B own gs k j f:=by
 have A:=e.keep.size;rcases zAz j with d | d;subst d;have:f= []:=(by simpa using c.1.1);subst this;exact ⟨Rd.nil _ _ _ _,fun s=>absurd s oM⟩
 · obtain ⟨a,x,rfl,q,r⟩:=c.1.2 d;have n:w'.heap[a]?=w.heap[a]?:=by
    rcases c.2 d _ rfl with b |⟨b,l,m,g⟩;exact e.keep.block a q fun p=>by have:=e.low a p;have C:a < B:=b;omega
    exact e.same g dC
   refine ⟨⟨c.1.1,fun _=>⟨a,x,rfl,by omega,fun v y u=>by rw [<-r v y u];exact World.cell?_of_block n⟩⟩,fun _ z i=>?_⟩;injection i with i;subst i;rcases c.2 d _ rfl with b |⟨b,l,m,g⟩;exact .inl b;exact .inr ⟨b,l,m,n.trans g⟩
theorem StpZ.ans {p:Nat->Prop} {f:Option Addr} {n:Nat} {g:List Sp} (k:StpZ w B own gs f n g) (d:AnsK p w w' B gs own):StpZ w' B own gs f n g:=by
 refine ⟨k.1,fun s=>?_⟩;obtain ⟨a,F,rfl,m,l,A⟩:=k.2 s;have c:w'.heap[a]?=w.heap[a]?:=by
  rcases l with b |⟨b,i,j,e⟩;exact d.keep.block a m fun r=>by have:=d.low a r;have H:a < B:=b;omega
  exact d.same e dC
 refine ⟨a,F,rfl,zAl m d.keep.size,?_,fun D G C=>?_⟩;rcases l with b |⟨b,i,j,e⟩;exact .inl b;exact .inr ⟨b,i,j,c.trans e⟩
 · obtain ⟨o,E,q,u,v,x,y,z⟩:=A D G C;exact ⟨o,E,q,(World.cell?_of_block c).trans u,(World.cell?_of_block c).trans v,(World.cell?_of_block c).trans x,(World.cell?_of_block c).trans y,z.ans d⟩
theorem MadeZ.ans {k:Nat->Prop} {a:TypeId} {d:Option Addr} {c e:Nat} {f:List Value} (b:MadeZ w own gs a d c e f) (j:AnsK k w w' B gs own) (m:a≠41):MadeZ w' own gs a d c e f:=by
 have g:w'.ownsRow 0 a 1 (.slice d c e) c f:=aB b.1.own fun o p q i=>(j.same i m).trans i;refine ⟨⟨g,Rd.of_own g,b.1.cap,b.1.max⟩,fun l n=>?_⟩;have:=b.2 l n;exact ⟨zAl this.1 j.keep.size,this.2⟩
theorem LFS.ans {g:Nat->Prop} (b:LFS B gs w w1 own own') (c:Keep g w1 w') (i:∀a,g a->w.heap.size<=a/\B<=a):LFS B gs w w' own own':=
 ⟨b.old,⟨c.os.trans b.vis.os,c.tape.trans b.vis.tape,c.output.trans b.vis.output,zAk b.vis.size c.size,fun a d e=>by
  have j:w'.heap[a]?=w1.heap[a]?:=c.block a (zAl d b.vis.size) fun f=>by have:=(i a f).1;omega
  unfold Bk;rw [j];exact b.vis.block a d e⟩,⟨c.os.trans b.keep.os,c.tape.trans b.keep.tape,c.output.trans b.keep.output,zAk b.keep.size c.size,fun a d e=>(c.block a (zAl d b.keep.size) fun f=>by have:=(i a f).1;omega).trans (b.keep.block a d e)⟩⟩
theorem xJ {c:Value} (a:w.grownBy w' c.ownBlock):Keep (fun b=>c.ownBlock=some b) w w':=⟨a.os,a.tape,a.output,a.size,fun b e f=>a.block b e fun d=>f d.symm⟩
def ResZ (w:World) (own:Nat->Nat) (gs:Nat) (c:List Value) (b:Nat) (a:Told):Prop:=
 ∃d f e g,c[b*4]?=some (.int .i64 a.code)/\c[b*4+1]?=some (.int .i64 a.num)/\c[b*4+2]?=some (.slice d a.data.length f)/\c[b*4+3]?=some (.slice e a.places.length g)/\MadeZ w own gs 5 d a.data.length f (a.data.map bv)/\MadeZ w own gs 3 e a.places.length g (a.places.map nv)
theorem ResZ.step {d:List Value} {a:Nat} {c:Told} (j:ResZ w own gs d a c) (b:LFS B gs w w' own own'):ResZ w' own' gs d a c:=by
 obtain ⟨e,g,f,i,k,l,m,n,o,p⟩:=j;exact ⟨e,g,f,i,k,l,m,n,o.step b dC dC,p.step b dC dC⟩
theorem ResZ.ans {g:Nat->Prop} {d:List Value} {a:Nat} {c:Told} (k:ResZ w own gs d a c) (b:AnsK g w w' B gs own):ResZ w' own gs d a c:=by
 obtain ⟨e,i,f,j,l,m,n,o,p,q⟩:=k;exact ⟨e,i,f,j,l,m,n,o,p.ans b dC,q.ans b dC⟩
theorem ResZ.more {b i:List Value} {f:Nat} {g:Told} (n:ResZ w own gs b f g):ResZ w own gs (b++i) f g:=by
 obtain ⟨j,l,k,m,o,p,q,r,s⟩:=n;have a:∀(c:Nat) (d:Value),b[c]?=some d->(b++i)[c]?=some d:=fun c d e=>by rw [zAn (zAc.1 e).1];exact e
 exact ⟨j,l,k,m,a _ _ o,a _ _ p,a _ _ q,a _ _ r,s⟩
end
def zI (w:World) (B:Nat) (own:Nat->Nat) (gs most rate:Nat) (T:Nat->List UInt8) (f:Nat->Told) (b:Nat) (g:Ending) (w':World):Prop:=
 ∃c e own' i,g=.returned c/\w'.ownsRow w.heap.size 41 4 c b e/\(∀d,c.ownBlock=some d->Ap own' gs d)/\(∀a,a < b->ResZ w' own' gs e a (f a))/\StAt w' B own' gs i most rate (T b)/\LFS B gs w w' own own'
theorem yK (B:Nat) (own:Nat->Nat) (gs gl most rate:Nat) (T:Nat->List UInt8) (e:Nat->Told) (aj:Option Addr) (n bo:Nat) (Y:List Sp) (w:World) (Z:StAt w B own gs gl most rate (T 0)) (ae:StpZ w B own gs aj n Y) (bQ:n<=100000)
 (aA:∀a f own1 z w1 g aY i,Y[a]?=some f->StAt w1 B own1 gs z most rate (T a)->LFS B gs w w1 own own1->ArgZ w1 B own1 gs g aY f.D->Calls prog 25 #[gs,.agg #[.int .i64 f.kind,.int .i64 f.p,.int .i64 f.k,.slice g aY i]] w1 (mP w1 B own1 gs most rate (T (a+1)) (e a))):
 Calls prog 29 #[.func (Fn.func 25) #[gs] #[],.slice aj n bo] w (zI w B own gs most rate T e n):=by
 obtain ⟨bF,bI,bx,bB,bC,bD,bE⟩:=mG;have bO:B<=w.heap.size:=Z.size;obtain ⟨b4,b7,b6,b5⟩:=hqq4 Z ae aA ae.1;clear Z ae aA;unfold zI;go_enter func29,ntmps29;go_wp2_with fail;go_loopw [5,10] (fun b0 s wr=>∃(a:Nat) (o:List Value) (own1:Nat->Nat) (z:Nat),a<=n/\s=.int .i64 (a:Int)/\wr.ownsRow w.heap.size 41 4 b0 a o/\(∀b,b0.ownBlock=some b->Ap own1 gs b)/\(∀d,d < a->ResZ wr own1 gs o d (e d))/\StAt wr B own1 gs z most rate (T a)/\LFS B gs w wr own own1) (fun _ s _=>n -(intOf s).toNat)
 case atStart=>exact ⟨0, [],own,gl,by omega,rfl,World.ownsRow_nil _ _ _ _,fun b c=>(by cases c),fun d Q=>absurd Q oM,b4.out,LFS.refl _ _ _ _⟩
 case round=>
  obtain ⟨a,o,own1,z,bP,rfl,ab,a2,ad,S,C⟩:=hrel;by_cases bA:a < n
  · obtain ⟨f,af⟩:∃f,Y[a]?=some f:=⟨_,zAa (by rw [b5.out];exact bA)⟩;have aV:=C.size;have aR:=b7.out.step C;obtain ⟨bJ,bS,rfl,bN,_,ay⟩:=aR.2 oM;obtain ⟨M,U,O,aq,ar,au,bq,az⟩:=ay a f af;obtain ⟨ag,a5⟩:=eqx f.kind;obtain ⟨ai,ac⟩:=eqx f.p;obtain ⟨ah,a9⟩:=eqx f.k;have a4:=b6.out a f own1 z;rw [a5,ac,a9] at a4;rw [a5] at aq;rw [ac] at ar;rw [a9] at au;have J:Below wr.heap.size wr (wr.alloc (.cells #[.int .i64 ag,.int .i64 ai,.int .i64 ah,.slice M U O] 44)):=bR.alloc nL _;have aC:=a4 (wr.alloc (.cells #[.int .i64 ag,.int .i64 ai,.int .i64 ah,.slice M U O] 44)) M U O af (S.vb (Vis.of_below J)) (C.trans (LFS.of_below B gs own1 J)) (az.vis J);obtain ⟨al,ao,W,N,am,an,V,bn⟩:=hqq8 aC S ab a2 C ad J aV;clear S ab a2 C ad az aR ay a4 aC af a5 ac a9 J aV;go_wp2_with fail;refine al.out.mono ?_;rintro y w1 ⟨g,i,j,l,m,bt,rfl,aS,aE,E,F,b2,b3⟩;obtain ⟨q,a3⟩:=eqx ((e a).code);obtain ⟨x,aa⟩:=eqx ((e a).num);obtain ⟨u,a7⟩:=eqx ((e a).data.length);obtain ⟨v,a8⟩:∃bH,(e a).places.length=bH:=⟨_,rfl⟩;unfold iK;rw [a3,aa,a7,a8];have K:=(LFS.of_below B gs own1 V.out).trans aE;have bw:gs < (wr.alloc (.cells #[.int .i64 ag,.int .i64 ai,.int .i64 ah,.slice M U O] 44)).heap.size:=by have:=ao.out.blk.lt;have:=V.out.size;omega
    have aG:MadeZ w1 m gs 5 g (e a).data.length i ((e a).data.map bv):=⟨⟨aZ E.own (zAp _),E.rd,E.cap,E.max⟩,fun I a1=>by
        subst a1;have a0:=E.own.lt (k:=I.block) rfl;exact ⟨a0.2,b2 I rfl,by omega⟩⟩
    have aI:MadeZ w1 m gs 3 j (e a).places.length l ((e a).places.map nv):=⟨⟨aZ F.own (zAp _),F.rd,F.cap,F.max⟩,fun I a1=>by
        subst a1;have a0:=F.own.lt (k:=I.block) rfl;exact ⟨a0.2,b3 I rfl,by omega⟩⟩
    have av:∀b,u5.ownBlock=some b->Ap m gs b:=fun b c=>(N.out b c).step K (W.out.lt b c).2;have aL:=aB W.out fun b bL c bu=>K.bk bu (N.out b c).col (N.out b c).ne dC dC;have P:Below w1.heap.size w1 (w1.alloc (.cells #[.int .i64 q,.int .i64 x,.slice g u i,.slice j v l] 41)):=bR.alloc nL _;have aM:=aH aL P;have L:=LFS.of_below B gs m P;have aT:=aS.vb (Vis.of_below P);have a6:=(am.out.trans K).trans L;have aO:∀d,d < a->ResZ (w1.alloc (.cells #[.int .i64 q,.int .i64 x,.slice g u i,.slice j v l] 41)) m gs o d (e d):=fun d Q=>((an.out d Q).step K).step L;have aJ:=aG.step L dC dC;have aK:=aI.step L dC dC;have aW:=a6.size;obtain ⟨H,X,ba,bi,ak,bc,bd,bl,b9⟩:=hqq9 aM aT a6 aO av aJ aK aW a3;obtain ⟨bg,be,bf⟩:=hqq3 aa a7 a8;clear aL aM aS aT K a6 L aE E F b2 b3 aG aI aJ aK av aO P aW bw a3 aa a7 a8 ao W N am an V bn al aq ar au bq;go_wp2_with (at_builtin;refine aP _ rfl (.tmp 14) (.tmp 18) _ rfl w.heap.size 41 bF bI 4 64 underlying33 bx bB bC bD bE dC u5 a _ rfl H.out _ _ 1 1 _ rfl (oJ (Bk.new w1 41 #[.int .i64 q,.int .i64 x,.slice g u i,.slice j v l]) rfl) (by simp [Value.oneCell']) (by unfold maxLen;omega) oM bl.out ?_;intro bG b1 aN aD ax);have R:=xJ aD
    have A:AnsK (fun b=>u5.ownBlock=some b) (w1.alloc (.cells #[.int .i64 q,.int .i64 x,.slice g u i,.slice j v l] 41)) b1 B gs m:=by
        refine ⟨R,fun b c=>?_,ak.out,fun b c=>?_⟩;have:=(H.out.lt b c).1;omega
        · rcases H.out.2 with ⟨G,_⟩|⟨bM,bK,bp,br,_,bs,_⟩
          · have r:u5.ownBlock=some b:=c;rw [G] at r;cases r
          have r:u5.ownBlock=some b:=c;rw [br] at r;injection r with r;subst r;exact ⟨bp,_,bs⟩
    have aU:=X.out.far R A.ap;have aF:=ba.out.ans R fun b c=>⟨(H.out.lt b c).1,A.low b c⟩;have aX:o.length=a*4:=H.out.1;have aw:∀b,bG.ownBlock=some b->Ap m gs b:=fun b c=>by rcases ax with y | y;rw [y] at c;exact ak.out b c;rw [y] at c;injection c with c;subst c;exact ⟨X.out.fresh nL,by have:=X.out.blk.lt;omega⟩
    have aQ:∀d,d < a+1->ResZ b1 m gs (o++#[Value.int .i64 q,.int .i64 x,.slice g u i,.slice j v l].toList) d (e d):=fun d Q=>by
        by_cases y:d=a
        · subst y;have G:∀s,(o++#[Value.int .i64 q,.int .i64 x,.slice g u i,.slice j v l].toList)[d*4+s]?= [Value.int .i64 q,.int .i64 x,.slice g u i,.slice j v l][s]?:=fun s=>by rw [zAo oM,aX,Nat.add_sub_cancel_left]
          refine ⟨g,i,j,l,?_,?_,?_,?_,bc.out.ans A dC,bd.out.ans A dC⟩;rw [b9.out];exact G 0;rw [bg.out];exact G 1;rw [be.out];exact G 2;rw [bf.out];exact G 3
        exact ((bi.out d oM).ans A).more
    obtain ⟨bm,bb,b8,bj,bh⟩:=hqq5 aU aF aw aQ aN;clear aU aF aw aQ aN R A aX aD ax;go_roundw
    case rel=>exact ⟨a+1,_,m,bt,by omega,by go_num,bh.out,b8.out,bj.out,bm.out,bb.out⟩
    case measure=>simp [intOf];omega
  · have bz:a=n:=oM;subst bz;go_wp2_with fail;go_ret;exact ⟨_,o,own1,z,rfl,ab,a2,ad,S,C⟩
theorem aA2 (B:Nat) (own:Nat->Nat) (gs gl most rate:Nat) (T:Nat->List UInt8) (f:Nat->Told) (d:Option Addr) (a k:Nat) (e:List Sp) (w:World) (l:StAt w B own gs gl most rate (T 0)) (n:StpZ w B own gs d a e) (z:a<=100000)
 (m:∀c b own1 g w1 i q r,e[c]?=some b->StAt w1 B own1 gs g most rate (T c)->LFS B gs w w1 own own1->ArgZ w1 B own1 gs i q b.D->Calls prog 25 #[gs,.agg #[.int .i64 b.kind,.int .i64 b.p,.int .i64 b.k,.slice i q r]] w1 (mP w1 B own1 gs most rate (T (c+1)) (f c))):
 Calls prog 13 #[gs,.slice d a k] w (zI w B own gs most rate T f a):=by
 have o:=yK B own gs gl most rate T f d a k e w l n z m;have j:=lhd o;clear l n m o;unfold zI at j⊢;go_enter func13,ntmps13;go_wp2_with fail;refine j.out.mono ?_;rintro E w1 ⟨A,C,own1,g,rfl,s,u,v,x,y⟩;go_wp2_with fail;go_ret;exact ⟨A,C,own1,g,rfl,s,u,v,x,y⟩
end
end Go.Proofs.YtihaijbgmjdhgaaGreatDoor
