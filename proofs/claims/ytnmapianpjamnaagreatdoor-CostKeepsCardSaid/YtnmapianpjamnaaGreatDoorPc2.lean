/- Lemmas of the walk. Conditions: each its own. -/
import Derived.Test.YtnmapianpjamnaaGreatDoorPc0
import Derived.Test.YtnmapianpjamnaaGreatDoorProg
set_option linter.all false
set_option maxRecDepth 100000
set_option maxHeartbeats 1000000
namespace Go.Proofs.YtnmapianpjamnaaGreatDoor
open Tryz
section
open Go.RowKit
def aCg (e:World->World->Prop) (a:Value->World->Prop):Prop:=∀b c d,a b c->e c d->a b d
def mF (a:World->World->Prop) (b:Value):aCg a (is b):=fun _ _ _ c _=>c
def xI (a:World->World->Prop):aCg a cR:=fun _ _ _ _ _=>trivial
def eE {i:World->World->Prop} {c:List (Value->World->Prop)} (j:∀g∈c,aCg i g):∀b d e f,Vs c b d e->i e f->Vs c b d f:=by
 intro b d e f a k;unfold Vs at a⊢;rw [zAb] at a⊢;rcases hl:c[b]? with _ | g;rw [hl] at a;exact a;rw [hl] at a;exact j g (zAd hl) d e f a k
end
section
open Go.RowKit Go
section
variable {P : Program} {ops : Array Oper} {Q : Exit -> Act -> World -> Prop} {md : Region.Mode}
def bS (c b:Nat):Array Bool:=((List.range b).map fun a=>decide (a < c)).toArray
def vF (b a:Nat) (k:b<=a):(bS b a).toList.count false=a - b:=by
 unfold bS;rw [List.toList_toArray]
 induction a with
 | zero=>simp
 | succ a j=>
   rw [List.range_succ,zAz,zCc];rcases zBe a b with c | c
   · have:b=a+1:=oM;subst this;have d:(List.map (fun i=>decide (i < a+1)) (List.range a)).count false=0:=(by rw [List.count_eq_zero];intro f;obtain ⟨l,g,e⟩:=zAy.1 f;have:=zCi.1 g;simp at e;omega);rw [d];simp
   rw [j c];have:¬(a < b):=oM;simp [this];omega
def bW {a:Nat} {f:Array Bool} {b:Act} {g:World} (e:Region.ready md ops f= []) (d:Q .normal b g):wpAny P md ops Q a f b g:=by
 cases a with
 | zero=>exact ⟨e,d⟩
 | succ a=>exact ⟨fun _=>d,fun i c=>by rw [e] at c;cases c⟩
def bH {f:Nat} {a:Array Bool} {b:Act} {g:World} {i:Nat} (e:Region.ready md ops a= [i]) (j:wpOp P ops Q i (wpAny P md ops Q f (a.setIfInBounds i true)) b g):wpAny P md ops Q (f+1) a b g:=
 ⟨fun c=>(by rw [e] at c;cases c),fun k d=>(by rw [e] at d;cases List.mem_singleton.1 d;exact j)⟩
def pP (g:Nat) (D:World->Prop) (S:Nat->World->World->Prop) (K:Nat->World->Prop) (L:Nat->Value->World->Prop) (E:Act)
 (W:World) (ao:g<=ops.size) (a1:fM md ops E.tmps.size=true) (ax:((List.range ops.size).all fun e=>decide (e < g)||(List.range g).all fun a=>upB md ops ops.size e a)=true) (af:D W) (ah:∀a,K a W) (ae:∀b i x,b < g->D i->S b i x->D x)
 (ag:∀a b i x,b < g->a≠b->upB md ops ops.size b a=false->K a i->D i->S b i x->K a x)
 (au:∀a b C i x,b < g->a≠b->qX md ops a b=false->upB md ops ops.size a b=false->L a C i->D i->S b i x->L a C x)
 (av:∀b k,b < g->ops[b]?=some k->cE P ops Q md D S K L E b k)
 (a9:∀p i ac,D i->p.tmps.size=E.tmps.size->p.defers=E.defers->
  (∀v,(∀(e:Nat) (j:Oper),e < g->ops[e]?=some j->j.dst≠some v)->p.tmps.getD v undef=E.tmps.getD v undef)->
  (∀a k,a < g->ops[a]?=some k->∃C,(∀t,k.dst=some t->p.tmps.getD t undef=C)/\L a C i)->wpAny P md ops Q (ops.size - g+ac) (bS g ops.size) p i):
 wpAny P md ops Q ops.size (Array.replicate ops.size false) E W:=by
 have aA:∀f:Array Bool,f.size=ops.size->Region.ready md ops f= []->∀a,a < ops.size->f.getD a false=true:=by
  intro f J a3 a
  induction a using Nat.strongRecOn with
  | _ a a5=>
    intro l;cases z:f.getD a false with
    | true=>rfl
    | false=>
      exfalso;have V:a∈Region.ready md ops f:=(by refine mem_ready.2 ⟨?_,ops[a],zAq l,fun o q G=>?_⟩;have Z:a < f.size:=oM;simp [Z] at z⊢;exact z;have:=(cX a1 (zAq l)).1 o q G;exact a5 o.on this oM);rw [a3] at V;cases V
 have az:∀A f p i,f.size=ops.size->f.toList.count false<=A->Loose7 md ops D K L E f p i->(∀e,g<=e->f.getD e false=false)->wpAny P md ops Q A f p i:=by
  intro A
  induction A with
  | zero=>
    intro f p i J z c R
    have F:∀a,a < ops.size->f.getD a false=true:=by
        intro a l;have Z:a < f.size:=oM;cases I:f.getD a false with
        | true=>rfl
        | false=>
          exfalso;have:false∈f.toList:=(by simp [Z] at I;exact I ▸(by simp));have:=List.count_pos_iff.2 this;omega
    have aq:g=ops.size:=by
        rcases zBe g ops.size with u | u
        · have y:=F g u;rw [R g nL] at y;cases y
        omega
    have q:f=bS g ops.size:=by
        apply Array.ext
        · simp [bS,J]
        intro a u y;have r:=F a oM;simp [u] at r;simp [bS,r];omega
    have r:=a9 p i 0 c.world c.size c.defers (fun v ht=>c.old v fun e j d m=>absurd m (ht e j (by have:=(zAh.1 d).1;omega) d)) fun a k l n=>c.val a k n (F a (zAh.1 n).1);rw [<-q,<-aq,Nat.sub_self] at r;exact r
  | succ A a5=>
    intro f p i J z c R;by_cases F:∀a,a < g->f.getD a false=true
    · have q:f=bS g ops.size:=by
       apply Array.ext
       · simp [bS,J]
       intro a u y;rcases zBe a g with w | w;have r:=F a w;simp [u] at r;simp [bS,r];exact w;have r:=R a w;simp [u] at r;simp [bS,r];omega
      have aC:ops.size - g<=A+1:=(by rw [q,vF _ _ ao] at z;exact z);have r:=a9 p i (A+1 -(ops.size - g)) c.world c.size c.defers (fun v ht=>c.old v fun e j d m=>by
       rcases zBe e g with w | w;exact absurd m (ht e j w d)
       · exact R e w) fun a k l n=>c.val a k n (F a l)
      rw [<-q,show ops.size - g+(A+1 -(ops.size - g))=A+1 by omega] at r;exact r
    refine ⟨fun a3=>absurd (fun a l=>aA f J a3 a oM) F,fun b an=>?_⟩;obtain ⟨a7,k,n,T⟩:=mem_ready.1 an;have O:b < ops.size:=(zAh.1 n).1;have H:b < f.size:=oM;have B:f.getD b false=false:=(by simp [H] at a7⊢;exact a7);have U:b < g:=(by rcases zBe b g with w | w;exact w;exfalso;refine F fun a l=>?_;have a8:=zBf.1 ax b (zCi.2 O);have ad:¬(b < g):=oM;simp only [ad,decide_false,Bool.false_or] at a8;exact fA c.shut _ b a k n T (zBf.1 a8 a (zCi.2 l)));refine av b k U n p i c.world (c.pre b k n B) c.size c.defers (fun v ht=>c.old v fun e j d m=>?_) (fun o q G j t d m=>by obtain ⟨C,u,y⟩:=c.val o.on j d (T o q G);rw [u t m];exact y) _ fun C x X ai=>?_
    · rcases pC ht d m with rfl |⟨o,q,G,am⟩;exact B
      · cases s:f.getD e false with
        | false=>rfl
        | true=>
          have:=c.shut e j d s o q G;rw [am,B] at this;cases this
    · refine a5 _ _ _ (by simpa using J) ?_ ?_ (fun e s=>by rw [getD_set_ne false (by omega:b≠e)];exact R e s);have I:f.toList[b]'(by simpa using H)=false:=(by simp [H] at B⊢;exact B);rw [Array.toList_setIfInBounds,List.count_set (by simpa using H),I];simp;have V:false∈f.toList:=I ▸ zBj _;have:=List.count_pos_iff.2 V;rw [<-Array.count_toList];omega
      · have aw:(p.put k.dst C).tmps.size=E.tmps.size:=by
          rw [<-c.size];cases k.dst with
          | none=>rfl
          | some t=>simp [Act.put]
        refine ⟨ae b i x U c.world X,fun a j d l=>?_,aw,?_,fun v ht=>?_,fun a j d l=>?_,fun e j d s o q G=>?_⟩
        · have aa:a≠b:=fun o=>by rw [o,aX _ _ H] at l;cases l
          rw [getD_set_ne false aa.symm] at l;refine ag a b i x U aa ?_ (c.pre a j d l) c.world X;cases a4:upB md ops ops.size b a with
          | false=>rfl
          | true=>
            have:=fA c.shut _ b a k n T a4;rw [l] at this;cases this
        · rw [<-c.defers];cases k.dst <;> rfl
        · have ap:k.dst≠some v:=fun m=>by have:=ht b k n m;rw [aX _ _ H] at this;cases this
          have ar:=c.old v fun e j d m=>by
           have:=ht e j d m;cases s:f.getD e false with
           | false=>rfl
           | true=>
             by_cases ab:b=e
             · subst ab;rw [B] at s;cases s
             · rw [getD_set_ne false ab,s] at this;cases this
          rw [<-ar];cases a2:k.dst with
          | none=>rfl
          | some t=>
            have Y:t≠v:=fun c=>ap (by rw [a2,c]);simp [Act.put,zAm,Y]
        · rcases dJ _ _ _ l with rfl | M
          · rw [n] at d;injection d with d;subst d;refine ⟨C,fun t m=>?_,ai⟩;have al:=((cX a1 n).2 t m).1;rw [m];have:t < p.tmps.size:=(by rw [c.size];exact al);simp [Act.put,zAm,this]
          · by_cases a0:a=b
            · subst a0;rw [B] at M;cases M
            obtain ⟨aB,ay,I⟩:=c.val a j d M
            have aj:qX md ops a b=false:=by
              cases z:qX md ops a b with
              | false=>rfl
              | true=>
                exfalso;unfold qX at z;rw [d] at z;obtain ⟨o,q,y⟩:=List.any_eq_true.1 z;simp only [zBd,zCn] at y;have:=c.shut a j d M o (Array.mem_toList_iff.1 q) y.1;rw [y.2,B] at this;cases this
            have ak:upB md ops ops.size a b=false:=by
              cases a4:upB md ops ops.size a b with
              | false=>rfl
              | true=>
                have:=fA c.shut _ a b j d (c.shut a j d M) a4;rw [B] at this;cases this
            refine ⟨aB,fun t m=>?_,au _ _ _ _ _ U a0 aj ak I c.world X⟩;rw [<-ay t m];cases a2:k.dst with
            | none=>rfl
            | some a6=>
              have Y:a6≠t:=fun c=>a0 (((cX a1 n).2 a6 a2).2 a j d (c ▸ m));simp [Act.put,zAm,Y]
        rcases dJ _ _ _ s with rfl | s;rw [n] at d;injection d with d;subst d;have u:=T o q G;by_cases N:e=o.on;rw [<-N];exact aX _ _ H _;rw [getD_set_ne false N];exact u;have u:=c.shut e j d s o q G;by_cases N:b=o.on;rw [<-N];exact aX _ _ H _;rw [getD_set_ne false N];exact u
 refine az _ _ _ _ (by simp) (by simp) ⟨af,fun b _ _ _=>ah b,rfl,rfl,fun _ _=>rfl,fun a k n l=>?_,fun e j d s=>?_⟩ (fun e s=>by
  rw [zAm];rcases zBe e ops.size with c | c
  · simp [c]
  · rw [Array.getElem?_eq_none (by simpa using c)];rfl)
 · have O:a < ops.size:=(zAh.1 n).1;simp [O] at l
 · have O:e < ops.size:=(zAh.1 d).1;simp [O] at s
def oJ (d:Nat) (t:List Nat) (f:World->Prop) (l:Nat->World->World->Prop) (m:Nat->World->Prop) (g:Nat->Value->World->Prop) (i:Act)
 (p:World) (G:(ops.toList.take d).filterMap (·.dst)=t) (M:d<=ops.size) (L:fM md ops i.tmps.size=true) (U:((List.range ops.size).all fun q=>decide (q < d)||(List.range d).all fun a=>upB md ops ops.size q a)=true) (B:f p) (E:∀a,m a p) (A:∀c b e,c < d->f b->l c b e->f e)
 (D:∀a c b e,c < d->a≠c->upB md ops ops.size c a=false->m a b->f b->l c b e->m a e)
 (R:∀a c o b e,c < d->a≠c->qX md ops a c=false->g a o b->f b->l c b e->g a o e)
 (S:∀c r,c < d->ops[c]?=some r->cE P ops Q md f l m g i c r)
 (H:∀(x:Operand->Value) b u,f b->(∀a n,a < d->((ops[a]?).bind (·.dst))=some n->g a (x (.tmp n)) b)->wpAny P md ops Q (ops.size - d+u) (bS d ops.size) (cQ x t i) b):
 wpAny P md ops Q ops.size (Array.replicate ops.size false) i p:=by
 refine pP d f l m g i p M L U B E A D (fun a c o b e j v z _=>R a c o b e j v z) S fun s b u C T F N V=>?_;have j:=H s.eval b u C fun a n I k=>by
  cases w:ops[a]? with
  | none=>rw [w] at k;cases k
  | some r=>
    rw [w] at k;obtain ⟨o,j,v⟩:=V a r I w;have:=j n k;change g a (s.tmps.getD n undef) b;rw [this];exact v
 rw [<-kC s i t T F fun W ht=>N W fun q y J O k=>ht ?_] at j;exact j;rw [<-G];refine List.mem_filterMap.2 ⟨y,?_,k⟩;have K:(ops.toList.take d)[q]?=some y:=(by rw [zBs,zBx J,Array.getElem?_toList];exact O);exact zAd K
def bU {d:Nat} {a:Oper} {b:Act} {e:World} {c:Act->World->Prop} (i:ops[d]?=some a) (g:a.guard=none) (f:Oper.upon P a b c Q ((execOp b.eval a).run P e)):wpOp P ops Q d c b e:=by
 unfold wpOp;simp only [i];have j:Region.wanted a (yielded ops b.tmps)=true:=by unfold Region.wanted;rw [g]
 rw [zBx j];exact .inl f
end
def cF {P:Program} {ops:Array Oper} {Q:Exit->Act->World->Prop} {md:Region.Mode} (e:Nat) (r:List Nat) (i:Nat->Prop) (c:Nat) (t:List Nat) (o:World->Prop) (q:Value->World->Prop) (p:List (Value->World->Prop)) (l:Act) (j:World)
 (F:(ops.toList.take e).filterMap (·.dst)=r) (I:e<=ops.size) (H:fM md ops l.tmps.size=true) (O:((List.range ops.size).all fun d=>decide (d < e)||(List.range e).all fun a=>upB md ops ops.size d a)=true)
 (L:(t.all fun a=>a==c||upB md ops ops.size c a)=true)
 (K:o j) (J:∀b g,o b->Keep i j b->Grow b g->o g) (E:Stb q) (M:∀S∈p,sI i S)
 (N:∀k z,k < e->ops[k]?=some z->cE P ops Q md (Keep i j) (oT i c) (fun a b=>t.contains a=true->o b) (VsJ c q p) l k z)
 (G:∀(v:Operand->Value) b f,Keep i j b->(∀a u,a < e->((ops[a]?).bind (·.dst))=some u->VsJ c q p a (v (.tmp u)) b)->wpAny P md ops Q (ops.size - e+f) (bS e ops.size) (cQ v r l) b):
 wpAny P md ops Q ops.size (Array.replicate ops.size false) l j:=by
 refine oJ e r (Keep i j) (oT i c) (fun a b=>t.contains a=true->o b) (VsJ c q p) l j F I H O (Keep.refl _ _) (fun _ _=>K) (fun k b g _ C d=>C.trans (kZ d)) (fun a k b g _ s R m D d x=>?_) (fun a k A b g _ s _ n _ d=>?_) N G;by_cases y:k=c;exfalso;subst y;have w:=zBf.1 L a (by simpa using x);simp only [R,Bool.or_false,zCn] at w;exact s w;exact J b g (m x) D (d.2 y);unfold VsJ at n⊢;by_cases m:a=c;rw [zBx m] at n⊢;exact E A b g n (d.2 fun B=>s (m.trans B.symm));rw [zBw m] at n⊢;exact xL M a A b g n (kZ d)
def bM {e:Nat} {c:Nat->Oper->Prop} {d:List Oper} (f:∀a b,(d.take e)[a]?=some b->c (0+a) b):∀a b,a < e->d.toArray[a]?=some b->c a b:=by
 intro a b g i;have:=f a b (by rw [zBs,zBx g];simpa using i);rwa [zBi] at this
def aBt (e:World->World->Prop) (a b:Nat) (c d:World):Prop:=(b=a->e c d)/\(b≠a->Grow c d)
def aD {e:World->World->Prop} {a b:Nat} {c d:World} (g:Grow c d) (i:(b==a)=false):aBt e a b c d:=⟨fun f=>by simp [f] at i,fun _=>g⟩
def mK {b:World->World->Prop} {a:Nat} {c d:World} (f:b c d):aBt b a a c d:=⟨fun _=>f,fun e=>absurd rfl e⟩
def Pin (a:Value->World->Prop):Prop:=∀b c d,a b c->a b d
def aEU (a:Value):Pin (is a):=fun _ _ _ b=>b
def aDZ:Pin cR:=fun _ _ _ _=>trivial
def kM {P:Program} {ops:Array Oper} {Q:Exit->Act->World->Prop} {md:Region.Mode} (i:Nat) (s:List Nat) (k:World->Prop) (r:World->World->Prop) (d:Nat) (o:World->Prop) (q:Value->World->Prop) (n:List (Value->World->Prop)) (l:Act) (p:World)
 (H:(ops.toList.take i).filterMap (·.dst)=s) (K:i<=ops.size) (J:fM md ops l.tmps.size=true) (R:((List.range ops.size).all fun g=>decide (g < i)||(List.range i).all fun c=>upB md ops ops.size g c)=true)
 (F:k p) (M:o p) (z:∀a b,k a->Grow a b∨r a b->k b) (L:∀a b,o a->Grow a b->o b) (G:Stb q) (N:∀v∈n,Pin v)
 (O:∀j D,j < i->ops[j]?=some D->cE P ops Q md k (aBt r d) (fun c a=>c=d->o a) (VsJ d q n) l j D)
 (I:∀(x:Operand->Value) a f,k a->(∀c w,c < i->((ops[c]?).bind (·.dst))=some w->VsJ d q n c (x (.tmp w)) a)->wpAny P md ops Q (ops.size - i+f) (bS i ops.size) (cQ x s l) a):
 wpAny P md ops Q ops.size (Array.replicate ops.size false) l p:=by
 refine oJ i s k (aBt r d) (fun c a=>c=d->o a) (VsJ d q n) l p H K J R F (fun _ _=>M) (fun j a b _ y g=>?_) (fun c j a b _ u _ m _ g A=>?_) (fun c j E a b _ u _ e _ g=>?_) O I;by_cases B:j=d;exact z a b y (.inr (g.1 B));exact z a b y (.inl (g.2 B));exact L a b (m A) (g.2 fun t=>u (A.trans t.symm))
 · unfold VsJ at e⊢;by_cases m:c=d;rw [zBx m] at e⊢;exact G E a b e (g.2 fun t=>u (m.trans t.symm))
   · rw [zBw m] at e⊢;unfold Vs at e⊢;rw [zAb] at e⊢;cases C:n[c]? with
     | none=>simp
     | some v=>
       rw [C] at e;simp only [Option.getD_some] at e⊢;exact N v (zAd C) E a b e
end
section
open Go.RowKit
structure Shp where
 len:Int
 height:Int
 leaves:Int
 nodes:Int
def Shp.cells (a:Shp):List Value:= [iv a.len,iv a.height,iv a.leaves,iv a.nodes]
def Shp.val (a:Shp):Value:=.agg #[iv a.len,iv a.height,iv a.leaves,iv a.nodes]
def bJ (a:List Shp):List Value:=a.flatMap Shp.cells
def Shp.zero:Shp:=⟨0,0,0,0⟩
def Shp.add (a b:Shp):Shp:=⟨a.len+b.len,max a.height b.height,a.leaves+b.leaves,a.nodes+b.nodes⟩
def bZ (a:List Shp):Shp:=a.foldl Shp.add Shp.zero
def Shp.small (a:Shp):Prop:=(-1099511627776<=a.len/\a.len<=1099511627776)/\(-1099511627776<=a.leaves/\a.leaves<=1099511627776)/\(-1099511627776<=a.nodes/\a.nodes<=1099511627776)
def fZ (c:List Shp) (a d:Nat) (e:Shp) (b:c[a]?=some e) (i:d < 4):(bJ c)[a*4+d]?=e.cells[d]?:=by
 induction c generalizing a with
 | nil=>simp at b
 | cons g c f=>
   rcases a with _ | a
   · simp at b;subst b;simp only [bJ,List.flatMap_cons,Nat.zero_mul,zBi];rw [zAn (by simp [Shp.cells];omega)]
   simp only [List.getElem?_cons_succ] at b;have:=f a b;simp only [bJ,List.flatMap_cons] at this⊢;rw [zAo (by simp [Shp.cells];omega)];rw [<-this];congr 1;simp [Shp.cells];omega
def uK (a:List Shp):(bJ a).length=a.length*4:=by
 induction a with
 | nil=>rfl
 | cons b a e=>
   have d:b.cells.length=4:=rfl;have c:bJ (b::a)=b.cells++bJ a:=(by simp [bJ]);rw [c,zAi,e,d,zCf];omega
def xH (b:List Shp) (a:Nat) (d:Shp) (c:b[a]?=some d):bZ (b.take (a+1))=(bZ (b.take a)).add d:=by
 have e:a < b.length:=(zAc.1 c).1;rw [List.take_succ_eq_append_getElem e,(zAc.1 c).2];simp [bZ,List.foldl_append]
def uI (a:List Shp) (f:∀e∈a,e.small):let c:=bZ a;(-1099511627776*(a.length:Int)<=c.len/\c.len<=1099511627776*(a.length:Int))/\(-1099511627776*(a.length:Int)<=c.leaves/\c.leaves<=1099511627776*(a.length:Int))/\(-1099511627776*(a.length:Int)<=c.nodes/\c.nodes<=1099511627776*(a.length:Int)):=by
 have m:∀(a:List Shp),(∀e∈a,e.small)->∀(d:Shp) (b:Int),(-1099511627776*b<=d.len/\d.len<=1099511627776*b)/\(-1099511627776*b<=d.leaves/\d.leaves<=1099511627776*b)/\(-1099511627776*b<=d.nodes/\d.nodes<=1099511627776*b)->
  let c:=a.foldl Shp.add d;(-1099511627776*(b+a.length)<=c.len/\c.len<=1099511627776*(b+a.length))/\(-1099511627776*(b+a.length)<=c.leaves/\c.leaves<=1099511627776*(b+a.length))/\(-1099511627776*(b+a.length)<=c.nodes/\c.nodes<=1099511627776*(b+a.length)):=by
  intro a
  induction a with
  | nil=>intro _ d b g;simpa using g
  | cons e a l=>
    intro f d b g;have j:=f e (List.mem_cons_self ..);unfold Shp.small at j;have:=l (fun e k=>f e (List.mem_cons_of_mem _ k)) (d.add e) (b+1) (by simp only [Shp.add];omega);simp only [List.foldl_cons,zCf] at this⊢;have i:(b+1+(a.length:Int))=b+((a.length+1:Nat):Int):=oM;rw [i] at this;exact this
 have:=m a f Shp.zero 0 (by simp [Shp.zero]);simpa [bZ] using this
end
section
open Go.RowKit Go
section
variable {P : Program} {ops : Array Oper} {Q : Exit -> Act -> World -> Prop} {md : Region.Mode}
def pM (P:Program) (ops:Array Oper) (Q:Exit->Act->World->Prop) (md:Region.Mode) (o:(Operand->Value)->World->Prop) (p:Nat->Value->World->World->Prop) (q:Nat->World->Prop) (k:Nat->(Operand->Value)->Value->World->Prop) (d:Act) (b:Nat) (m:Oper):Prop:=
 ∀a c,o a.eval c->q b c->a.tmps.size=d.tmps.size->a.defers=d.defers->
    (∀f,mM md ops b f=true->a.tmps.getD f undef=d.tmps.getD f undef)->
    (∀e∈m.after,Region.binds md e=true->∀n l,ops[e.on]?=some n->n.dst=some l->k e.on a.eval (a.tmps.getD l undef) c)->
    ∀j:Act->World->Prop,(∀g i,p b g c i->k b a.eval g i->j (a.put m.dst g) i)->wpOp P ops Q b j a c
def eD {q:(Operand->Value)->World->Prop} {r:Nat->Value->World->World->Prop} {s:Nat->World->Prop} {n:Nat->(Operand->Value)->Value->World->Prop} {t:Act} {e:Nat} {b:Oper} (E:ops[e]?=some b) (C:b.guard=none)
 (w:∀a:Operand->Value,∀d,q a d->s e d->(∀f,a (.const f)=f)->(∀u,a (.func u)=.func (.func u) #[] #[])->(∀i,mM md ops e i=true->a (.tmp i)=t.eval (.tmp i))->
  (∀m k,b.after.toList.any (fun g=>Region.binds md g&&g.on==m)=true->((ops[m]?).bind (·.dst))=some k->n m a (a (.tmp k)) d)->
  ∀c j,c.eval=a->(∀f p,r e f d p->n e a f p->j (c.put b.dst f) p)->Oper.upon P b c j Q ((execOp a b).run P d)):pM P ops Q md q r s n t e b:=by
 intro c d z A K J F G j y;unfold wpOp;simp only [E];have H:Region.wanted b (yielded ops c.tmps)=true:=by unfold Region.wanted;rw [C]
 rw [zBx H];refine .inl (w c.eval d z A (fun _=>rfl) (fun _=>rfl) (fun i ht=>F i ht) (fun m k D l=>?_) c j rfl y);obtain ⟨g,B,v⟩:=List.any_eq_true.1 D;simp only [zBd,zCn] at v;obtain ⟨x,rfl⟩:=v;cases o:ops[g.on]? with
 | none=>rw [o] at l;cases l
 | some I=>rw [o] at l;exact G g (Array.mem_toList_iff.1 B) x I k o l
def aEJ {m:Nat} (k:fM md ops m=true):∀c b d,upB md ops c b d=true->d < b:=by
 intro c
 induction c with
 | zero=>intro b d a;cases a
 | succ c l=>
   intro b d a;unfold upB at a;cases f:ops[b]? with
   | none=>rw [f] at a;cases a
   | some o=>
     rw [f] at a;obtain ⟨i,j,e⟩:=List.any_eq_true.1 a;simp only [zBd,Bool.or_eq_true,zCn] at e;have n:=(cX k f).1 i (Array.mem_toList_iff.1 j) e.1;rcases e.2 with g | g;omega;have:=l _ _ g;omega
def zX {f:Nat} (d:fM md ops f=true) (c a b:Nat) (g:b<=a) (e:upB md ops c b a=true):False:=by
 have:=aEJ d c b a e;omega
structure LooseF (md:Region.Mode) (ops:Array Oper) (C:(Operand->Value)->World->Prop) (U:Nat->World->Prop) (V:Nat->(Operand->Value)->Value->World->Prop) (a0:Act) (listed:Array Bool) (a:Act) (w:World):Prop where
 world:C a.eval w
 pre:∀j o,ops[j]?=some o->listed.getD j false=false->U j w
 size:a.tmps.size=a0.tmps.size
 defers:a.defers=a0.defers
 old:∀t,(∀k p,ops[k]?=some p->p.dst=some t->listed.getD k false=false)->a.tmps.getD t undef=a0.tmps.getD t undef
 val:∀i o,ops[i]?=some o->listed.getD i false=true->∃v,(∀d,o.dst=some d->a.tmps.getD d undef=v)/\V i a.eval v w
 shut:∀k p,ops[k]?=some p->listed.getD k false=true->∀e∈p.after,Region.binds md e=true->listed.getD e.on false=true
def uF (y:(Operand->Value)->World->Prop) (S:Nat->Value->World->World->Prop) (G:Nat->World->Prop) (z:Nat->(Operand->Value)->Value->World->Prop) (u:Act)
 (X:World) (V:fM md ops u.tmps.size=true) (ab:y u.eval X) (ad:∀a,G a X) (aa:∀b c v w g f t,ops[b]?=some c->(∀l,c.dst=some l->w (.tmp l)=g)->(∀i,c.dst≠some i->w (.tmp i)=v (.tmp i))->y v f->S b g f t->y w t) (ac:∀a b g f t,a≠b->upB md ops ops.size b a=false->G a f->S b g f t->G a t)
 (am:∀b c v w g f,ops[b]?=some c->(∀i,c.dst≠some i->w (.tmp i)=v (.tmp i))->z b v g f->z b w g f)
 (an:∀a b c v w g a4 f t,ops[b]?=some c->(∀i,c.dst≠some i->w (.tmp i)=v (.tmp i))->a≠b->upB md ops ops.size a b=false->z a v g f->y v f->S b a4 f t->z a w g t)
 (ao:∀b c,ops[b]?=some c->pM P ops Q md y S G z u b c)
 (ah:∀k f,y k.eval f->k.tmps.size=u.tmps.size->k.defers=u.defers->
  (∀i,(∀(r:Nat) (n:Oper),ops[r]?=some n->n.dst≠some i)->k.tmps.getD i undef=u.tmps.getD i undef)->
  (∀a c,ops[a]?=some c->∃g,(∀l,c.dst=some l->k.tmps.getD l undef=g)/\z a k.eval g f)->Q .normal k f):
 wpAny P md ops Q ops.size (Array.replicate ops.size false) u X:=by
 have a6:∀d k f,d.size=ops.size->(∀a,a < ops.size->d.getD a false=true)->LooseF md ops y G z u d k f->Q .normal k f:=by intro d k f E T e;refine ah k f e.world e.size e.defers (fun i ht=>e.old i fun r n j o=>absurd o (ht r n j)) fun a c m=>e.val a c m (T a (zAh.1 m).1)
 have av:∀d:Array Bool,d.size=ops.size->Region.ready md ops d= []->∀a,a < ops.size->d.getD a false=true:=by
  intro d E R a
  induction a using Nat.strongRecOn with
  | _ a a3=>
    intro q;cases H:d.getD a false with
    | true=>rfl
    | false=>
      exfalso;have W:a∈Region.ready md ops d:=(by refine mem_ready.2 ⟨?_,ops[a],zAq q,fun p C B=>?_⟩;have M:a < d.size:=oM;simp [M] at H⊢;exact H;have:=(cX V (zAq q)).1 p C B;exact a3 p.on this oM);rw [R] at W;cases W
 have au:∀J d k f,d.size=ops.size->d.toList.count false<=J->LooseF md ops y G z u d k f->wpAny P md ops Q J d k f:=by
  intro J
  induction J with
  | zero=>
    intro d k f E H e
    have T:∀a,a < ops.size->d.getD a false=true:=by
        intro a q;have M:a < d.size:=oM;cases F:d.getD a false with
        | true=>rfl
        | false=>
          exfalso;have:false∈d.toList:=(by simp [M] at F;exact F ▸(by simp));have:=List.count_pos_iff.2 this;omega
    refine ⟨?_,a6 d k f E T e⟩;cases R:Region.ready md ops d with
    | nil=>rfl
    | cons a aw=>
      exfalso;have q:a∈Region.ready md ops d:=(by rw [R];exact List.mem_cons_self ..);obtain ⟨K,c,m,_⟩:=mem_ready.1 q;have I:a < ops.size:=(zAh.1 m).1;have x:=T a I;have M:a < d.size:=oM;simp [M] at K x;rw [K] at x;cases x
  | succ J a3=>
    intro d k f E H e;refine ⟨fun R=>a6 d k f E (av d E R) e,fun b aj=>?_⟩;obtain ⟨K,c,m,Z⟩:=mem_ready.1 aj;have I:b < ops.size:=(zAh.1 m).1;have D:b < d.size:=oM;have A:d.getD b false=false:=by simp [D] at K⊢;exact K
    have a2:∀g i,c.dst≠some i->(k.put c.dst g).eval (.tmp i)=k.eval (.tmp i):=by
        intro g i ht;cases O:c.dst with
        | none=>rfl
        | some l=>
          have L:l≠i:=fun p=>ht (by rw [O,p]);simp [Act.eval,Act.put,zAm,L]
    have ag:∀g l,c.dst=some l->(k.put c.dst g).eval (.tmp l)=g:=(by intro g l o;have a0:=((cX V m).2 l o).1;have:l < k.tmps.size:=(by rw [e.size];exact a0);simp [Act.eval,Act.put,zAm,o,this]);refine ao b c m k f e.world (e.pre b c m A) e.size e.defers (fun i ht=>e.old i fun r n j o=>?_) (fun p C B n l j o=>by obtain ⟨g,x,a9⟩:=e.val p.on n j (Z p C B);rw [x l o];exact a9) _ fun g t Y ae=>?_
    · rcases pC ht j o with rfl |⟨p,C,B,ai⟩;exact A
      · cases s:d.getD r false with
        | false=>rfl
        | true=>
          have:=e.shut r n j s p C B;rw [ai,A] at this;cases this
    · refine a3 _ _ _ (by simpa using E) ?_ ?_;have F:d.toList[b]'(by simpa using D)=false:=(by simp [D] at A⊢;exact A);rw [Array.toList_setIfInBounds,List.count_set (by simpa using D),F];simp;have W:false∈d.toList:=F ▸ zBj _;have:=List.count_pos_iff.2 W;rw [<-Array.count_toList];omega
      · have ap:(k.put c.dst g).tmps.size=u.tmps.size:=by
          rw [<-e.size];cases c.dst with
          | none=>rfl
          | some l=>simp [Act.put]
        refine ⟨aa b c _ _ g f t m (ag g) (a2 g) e.world Y,fun a n j q=>?_,ap,?_,fun i ht=>?_,fun a n j q=>?_,fun r n j s p C B=>?_⟩
        · have a7:a≠b:=fun p=>by rw [p,aX _ _ D] at q;cases q
          rw [getD_set_ne false a7.symm] at q;refine ac a b g f t a7 ?_ (e.pre a n j q) Y;cases ar:upB md ops ops.size b a with
          | false=>rfl
          | true=>
            have:=fA e.shut _ b a c m Z ar;rw [q] at this;cases this
        · rw [<-e.defers];cases c.dst <;> rfl
        · have ak:c.dst≠some i:=fun o=>by have:=ht b c m o;rw [aX _ _ D] at this;cases this
          have al:=e.old i fun r n j o=>by
           have:=ht r n j o;cases s:d.getD r false with
           | false=>rfl
           | true=>
             by_cases a8:b=r
             · subst a8;rw [A] at s;cases s
             · rw [getD_set_ne false a8,s] at this;cases this
          rw [<-al];cases O:c.dst with
          | none=>rfl
          | some l=>
            have L:l≠i:=fun e=>ak (by rw [O,e]);simp [Act.put,zAm,L]
        · rcases dJ _ _ _ q with rfl | U
          · rw [m] at j;injection j with j;subst j;refine ⟨g,fun l o=>?_,am _ _ _ _ _ _ m (a2 g) ae⟩;have a0:=((cX V m).2 l o).1;rw [o];have:l < k.tmps.size:=(by rw [e.size];exact a0);simp [Act.put,zAm,this]
          · by_cases a1:a=b
            · subst a1;rw [A] at U;cases U
            obtain ⟨a4,aq,F⟩:=e.val a n j U
            have af:upB md ops ops.size a b=false:=by
              cases H:upB md ops ops.size a b with
              | false=>rfl
              | true=>
                exfalso;have:=fA e.shut _ a b n j (e.shut a n j U) H;rw [A] at this;cases this
            refine ⟨a4,fun l o=>?_,an _ _ _ _ _ _ _ _ _ m (a2 g) a1 af F e.world Y⟩;rw [<-aq l o];cases O:c.dst with
            | none=>rfl
            | some a5=>
              have L:a5≠l:=fun e=>a1 (((cX V m).2 a5 O).2 a n j (e ▸ o));simp [Act.put,zAm,L]
        rcases dJ _ _ _ s with rfl | s;rw [m] at j;injection j with j;subst j;have x:=Z p C B;by_cases N:r=p.on;rw [<-N];exact aX _ _ D _;rw [getD_set_ne false N];exact x;have x:=e.shut r n j s p C B;by_cases N:b=p.on;rw [<-N];exact aX _ _ D _;rw [getD_set_ne false N];exact x
 refine au _ _ _ _ (by simp) (by simp) ⟨ab,fun b _ _ _=>ad b,rfl,rfl,fun _ _=>rfl,fun a c m q=>?_,fun r n j s=>?_⟩
 · have I:a < ops.size:=(zAh.1 m).1;simp [I] at q
 · have I:r < ops.size:=(zAh.1 j).1;simp [I] at s
def uE (u:List Nat) (m:(Operand->Value)->World->Prop) (p:Nat->Value->World->World->Prop) (q:Nat->World->Prop) (i:Nat->(Operand->Value)->Value->World->Prop) (n:Act) (r:World)
 (E:ops.toList.filterMap (·.dst)=u)
 (H:fM md ops n.tmps.size=true) (z:m n.eval r) (C:∀a,q a r) (y:∀c f d j e b l,ops[c]?=some f->(∀k,f.dst=some k->j (.tmp k)=e)->(∀g,f.dst≠some g->j (.tmp g)=d (.tmp g))->m d b->p c e b l->m j l) (B:∀a c e b l,a≠c->upB md ops ops.size c a=false->q a b->p c e b l->q a l)
 (J:∀c f d j e b,ops[c]?=some f->(∀g,f.dst≠some g->j (.tmp g)=d (.tmp g))->i c d e b->i c j e b)
 (L:∀a c f d j e R b l,ops[c]?=some f->(∀g,f.dst≠some g->j (.tmp g)=d (.tmp g))->a≠c->upB md ops ops.size a c=false->i a d e b->m d b->p c R b l->i a j e l)
 (M:∀c f,ops[c]?=some f->pM P ops Q md m p q i n c f)
 (F:∀(d:Operand->Value) b,m d b->(∀a k,((ops[a]?).bind (·.dst))=some k->i a d (d (.tmp k)) b)->(∀a,a < ops.size->∃e,i a d e b)->Q .normal (cQ d u n) b):
 wpAny P md ops Q ops.size (Array.replicate ops.size false) n r:=by
 refine uF m p q i n r H z C y B J L M fun s b A N D I x=>?_;have t:=F s.eval b A (fun a k o=>by
  cases w:ops[a]? with
  | none=>rw [w] at o;cases o
  | some f=>
    rw [w] at o;obtain ⟨e,t,v⟩:=x a f w;have:=t k o;change i a s.eval (s.tmps.getD k undef) b;rw [this];exact v) (fun a G=>by
  obtain ⟨e,_,v⟩:=x a _ (zAq G);exact ⟨e,v⟩)
 rw [<-kC s n u N D fun g ht=>I g fun S O K o=>ht ?_] at t;exact t;rw [<-E];exact List.mem_filterMap.2 ⟨O,Array.mem_toList_iff.2 (Array.mem_of_getElem? K),o⟩
end
def blk?:Value->Option Nat
 | .pointer (some a)=>some a.block
 | .slice (some a) _ _=>some a.block
 | _=>none
def zR (d:List Nat) (c:Operand->Value) (f:World):Prop:=
 (∀b∈d,∀a,blk? (c (.tmp b))=some a->a < f.heap.size)/\∀b∈d,∀e∈d,b≠e->∀a,blk? (c (.tmp b))=some a->blk? (c (.tmp e))≠some a
def aAS {d:List Nat} {c:Operand->Value} {j:World} (g:(d.all fun a=>(blk? (c (.tmp a))).isNone)=true):zR d c j:=by
 have i:∀a∈d,blk? (c (.tmp a))=none:=fun a b=>by simpa using zBf.1 g a b
 refine ⟨fun a b f e=>?_,fun a b _ _ _ f e=>?_⟩<;>(rw [i a b] at e;cases e)
def aDL (b:Value) (c d:World):Prop:=∀a,blk? b=some a->c.heap.size<=a/\a < d.heap.size
def uB (g:List Nat) (ops:Array Oper) (e:World->World->Prop) (d c:Nat) (i:Value) (a b:World):Prop:=a.heap.size<=b.heap.size/\(c=d->e a b)/\(c≠d->Grow a b)/\∀f∈g,((ops[c]?).bind (·.dst))=some f->aDL i a b
def gL {d:List Nat} {ops:Array Oper} {i:World->World->Prop} {c b:Nat} {o:Value} {f g:World} (e:Grow f g) (n:(b==c)=false) (m:(d.all fun a=>((ops[b]?).bind (·.dst))!= some a)=true):uB d ops i c b o f g:=
 ⟨e.size,fun j=>by simp [j] at n,fun _=>e,fun a k l=>by have:=zBf.1 m a k;simp [l] at this⟩
def kY {j:List Nat} {ops:Array Oper} {g:World->World->Prop} {c e:Nat} {f:Value} {a b:World} (d:Grow a b) (l:(e==c)=false) (k:aDL f a b):uB j ops g c e f a b:=
 ⟨d.size,fun i=>by simp [i] at l,fun _=>d,fun _ _ _=>k⟩
def aDa {f:List Nat} {ops:Array Oper} {e:World->World->Prop} {a:Nat} {n:Value} {c d:World} (i:e c d) (m:c.heap.size<=d.heap.size) (l:(f.all fun b=>((ops[a]?).bind (·.dst))!= some b)=true):uB f ops e a a n c d:=
 ⟨m,fun _=>i,fun g=>absurd rfl g,fun b j k=>by have:=zBf.1 l b j;simp [k] at this⟩
abbrev KP:=List Nat×((Operand->Value)->Value->World->Prop)
def k0 (a:Value->World->Prop):KP:=([],fun _ b c=>a b c)
def kEq (a:Nat):KP:=([a],fun b c _=>c=b (.tmp a))
def kLk (b c:Nat) (d:Value->Value->World->Prop):KP:=([b,c],fun a _ e=>d (a (.tmp b)) (a (.tmp c)) e)
def zN (a:KP):Prop:=∀b c:Operand->Value,(∀d∈a.1,c (.tmp d)=b (.tmp d))->∀e f,a.2 b e f->a.2 c e f
def aDq (b:Value->World->Prop):zN (k0 b):=fun _ _ _ _ _ a=>a
def aEk (a:Nat):zN (kEq a):=fun f b d e g c=>by
 show e=b (.tmp a);rw [d a (by simp [kEq])];exact c
def aEj (a b:Nat) (e:Value->Value->World->Prop):zN (kLk a b e):=fun i c d j g f=>by
 show e (c (.tmp a)) (c (.tmp b)) g;rw [d a (by simp [kLk]),d b (by simp [kLk])];exact f
def aAW (f:World->World->Prop) (b:KP):Prop:=∀a c d e,b.2 a c d->f d e->b.2 a c e
def iW {e:World->World->Prop} {d:Value->World->Prop} (f:∀a b c,d a b->e b c->d a c):aAW e (k0 d):=fun _ a b c g i=>f a b c g i
def aA5 (a:World->World->Prop) (b:Value):aAW a (k0 (is b)):=fun _ _ _ _ c _=>c
def xK (a:World->World->Prop):aAW a (k0 cR):=fun _ _ _ _ _ _=>trivial
def xJ (a:World->World->Prop) (c:Nat):aAW a (kEq c):=fun _ _ _ _ b _=>b
def mG {d:World->World->Prop} {k l:Nat} {c:Value->Value->World->Prop} (g:∀e f a b,c e f a->d a b->c e f b):aAW d (kLk k l c):=fun _ _ a b i j=>g _ _ a b i j
def VsQ (c:List KP) (b:Nat) (a:Operand->Value) (d:Value) (e:World):Prop:=(c.getD b (k0 cR)).2 a d e
def aA3 (a:List KP) (b:Nat):a.getD b (k0 cR)∈a∨a.getD b (k0 cR)=k0 cR:=by
 rw [zAb];cases c:a[b]? with
 | none=>exact .inr rfl
 | some d=>exact .inl (zAd c)
def zT {P:Program} {ops:Array Oper} {Q:Exit->Act->World->Prop} {md:Region.Mode} (M s:List Nat) (B:Nat) (C:World->World->Prop) (A:World->Prop) (g:List KP) (D:Act) (I:World)
 (r:ops.toList.filterMap (·.dst)=M) (T:fM md ops D.tmps.size=true)
 (ae:((List.range ops.size).all fun b=>(List.range ops.size).all fun c=>match ops[c]? with
  | some e=>upB md ops ops.size b c||(g.getD b (k0 cR)).1.all fun j=>e.dst != some j
  | none=>true)=true)
 (a3:A I) (a1:zR s D.eval I) (a2:∀a k,A a->(Grow a k∨C a k)->A k)
 (a9:∀G∈g,zN G) (L:∀G∈g,aAW Grow G) (ah:∀G∈g.eraseIdx B,aAW C G)
 (ai:∀c e,ops[c]?=some e->pM P ops Q md (fun d a=>A a/\zR s d a) (uB s ops C B) (fun _ _=>True) (VsQ g) D c e)
 (ab:∀(d:Operand->Value) a,A a->zR s d a->(∀b E,((ops[b]?).bind (·.dst))=some E->VsQ g b d (d (.tmp E)) a)->(∀b,b < ops.size->∃f,VsQ g b d f a)->Q .normal (cQ d M D) a):
 wpAny P md ops Q ops.size (Array.replicate ops.size false) D I:=by
 have a7:∀ {c f a k},uB s ops C B c f a k->Grow a k∨C a k:=fun {c f a k} p=>by by_cases v:c=B;exact .inr (p.2.1 v);exact .inl (p.2.2.1 v)
 have ag:∀c,upB md ops ops.size c c=false:=by
  intro c;cases R:upB md ops ops.size c c with
  | false=>rfl
  | true=>exact (zX T _ _ _ nL R).elim
 have aa:∀b,zN (g.getD b (k0 cR)):=fun b=>by rcases aA3 g b with p | p;exact a9 _ p;rw [p];exact aDq _
 have S:∀b c e (d o:Operand->Value) f a,b < ops.size->ops[c]?=some e->(∀j,e.dst≠some j->o (.tmp j)=d (.tmp j))->upB md ops ops.size b c=false->VsQ g b d f a->VsQ g b o f a:=by intro b c e d o f a y n q O z;have l:=zBf.1 (zBf.1 ae b (by simpa using y)) c (by simpa using (zAh.1 n).1);simp only [n,O,Bool.false_or] at l;exact aa b d o (fun j ht=>q j (by have:=zBf.1 l j ht;simpa using this)) f a z
 refine uE M (fun d a=>A a/\zR s d a) (uB s ops C B) (fun _ _=>True) (fun b d f a=>b < ops.size->VsQ g b d f a) D I r T ⟨a3,a1⟩ (fun _=>trivial) (fun c e d o f a k n x q p F=>⟨a2 a k p.1 (a7 F),?_⟩) (fun _ _ _ _ _ _ _ _ _=>trivial) (fun c e d o f a n q z v=>S c c e d o f a v n q (ag c) (z v)) (fun b c e d o f al a k n q ac O z R F y=>?_) (fun c e n W a l m X Y Z a0 V a4=>ai c e n W a l m X Y Z (fun J q a8 aj E U x=>a0 J q a8 aj E U x (zAh.1 U).1) V (fun f k a5 a6=>a4 f k a5 fun _=>a6)) (fun d a p l m=>ab d a p.1 p.2 (fun b E x=>l b E x (by
  cases n:ops[b]? with
  | none=>rw [n] at x;cases x
  | some e=>exact (zAh.1 n).1)) (fun b y=>(m b y).imp fun f z=>z y))
 · have ak:=F.1;obtain ⟨l,m⟩:=p.2;have N:∀i∈s,e.dst=some i->aDL (o (.tmp i)) a k:=fun i w r=>by rw [x i r];exact F.2.2.2 i w (by rw [n];exact r)
   refine ⟨fun i w t u=>?_,fun i w j ht L t u H=>?_⟩;by_cases r:e.dst=some i;exact (N i w r t u).2;rw [q i r] at u;have:=l i w t u;omega;by_cases r:e.dst=some i;have K:e.dst≠some j:=fun J=>L (by rw [r] at J;injection J);rw [q j K] at H;have:=(N i w r t u).1;have:=l j ht t H;omega;rw [q i r] at u;by_cases K:e.dst=some j;have:=(N j ht K t H).1;have:=l i w t u;omega;rw [q j K] at H;exact m i w j ht L t u H
 · have l:=S b c e d o f a y n q O (z y);unfold VsQ at l⊢;by_cases v:c=B
   · subst v
     have af:g.getD b (k0 cR)∈g.eraseIdx c∨g.getD b (k0 cR)=k0 cR:=by
        rw [zAb];cases ad:g[b]? with
        | none=>exact .inr rfl
        | some G=>exact .inl (List.mem_eraseIdx_iff_getElem?.2 ⟨b,ac,ad⟩)
     rcases af with m | m;exact ah _ m o f a k l (F.2.1 rfl)
     · rw [m];trivial
   · rcases aA3 g b with m | m;exact L _ m o f a k l (F.2.2.1 v)
     · rw [m];trivial
end
section
open Go.RowKit
def lX (a:Int):Int:=min (max a 0) 2147483648
def lH (a:Int):0<=lX a/\lX a<=2147483648:=by unfold lX;omega
def jZ (a:Int) (b:World):
 Calls prog 114 #[.int .i64 a] b fun c d=>c=.returned (.int .i64 (lX a))/\b=d:=by
 go_enter func114,ntmps114;go_wp2
 all_goals (go_ret;exact ⟨cT (by unfold lX;omega),rfl⟩)
def lW (a:Int):Int:=9*(8*(lX a+1)/ 128+1024)
def oG (a:Int) (c:World):
 Calls prog 32 #[.int .i64 a] c fun b d=>b=.returned (.int .i64 (lW a))/\c=d:=by
 have e:=(lH a).1;have f:=(lH a).2;go_enter func32,ntmps32;go_wp2_with (go_at_call 114;refine (jZ _ _).mono ?_;rintro b d ⟨rfl,rfl⟩);go_ret;exact ⟨rfl,rfl⟩
def uA (a:Int) (c:World):
 Calls prog 29 #[.int .i64 a] c fun b d=>b=.returned (.int .i64 (lX a+2))/\c=d:=by
 have e:=(lH a).1;have f:=(lH a).2;go_enter func29,ntmps29;go_wp2_with (go_at_call 114;refine (jZ _ _).mono ?_;rintro b d ⟨rfl,rfl⟩);go_ret;exact ⟨rfl,rfl⟩
def cH:Nat->Int×Int
 | 0=>(1,2)
 | k+1=>((cH k).2,min ((cH k).1+(cH k).2) 2147483648)
def iN (a:Nat):1<=(cH a).1/\(cH a).1<=(cH a).2/\(cH a).2<=2147483648:=by
 induction a with
 | zero=>decide
 | succ a b=>simp only [cH];omega
def lS (b a:Nat) (e:b<=a):(cH b).1<=(cH a).1:=by
 induction a with
 | zero=>have:b=0:=oM
         subst this;exact Int.le_refl _
 | succ a d=>
   by_cases c:b=a+1;subst c;exact Int.le_refl _;have:=d oM;have f:=iN a;simp only [cH];omega
def least (a:Int):Int:=if a < 0 then 0 else (cH (min a.toNat 45)).1
def aCk (c:Int) (k:World):
 Calls prog 196 #[.int .i64 c] k fun n o=>n=.returned (.int .i64 (least c))/\k=o:=by
 by_cases d:c < 0
 · go_enter func196,ntmps196;go_wp2
   all_goals (go_ret;exact ⟨cT (by simp [least,d]),rfl⟩)
 · obtain ⟨b,rfl⟩:=Int.eq_ofNat_of_zero_le (Int.not_lt.1 d);have i:least (b:Int)=(cH (min b 45)).1:=(by simp [least,d]);have f:=lhd i;clear i;go_enter func196,ntmps196;go_wp2
   all_goals
    rename_i x
    go_loop [3,4,9] (fun l m e=>∃a:Nat,a<=min b 45/\e=.int .i64 a/\l=.int .i64 (cH a).1/\m=.int .i64 (cH a).2) (fun _ _ e=>45 -(intOf e).toNat)
    case atStart=>exact ⟨0,zAp _,rfl,rfl,rfl⟩
    case round=>
        obtain ⟨a,s,rfl,rfl,rfl⟩:=hrel;have b1:=(iN a).1;have b2:=(iN a).2.1;have p:=(iN a).2.2;by_cases t:a < min b 45
        · have u:a < b:=oM;have v:a < 45:=oM;have w:(a:Int) < min (b:Int) 45:=oM;go_wp2
          all_goals
           go_round
           case rel=>exact ⟨a+1,by omega,by go_num,rfl,dF (by first |(simp only [cH];omega)| simp only [cH])⟩
           case measure=>simp [intOf];omega
        · have j:a=min b 45:=oM;have g:=lhd j;clear j;have q:b<=a∨45<=a:=oM;have r:¬(a:Int) < min (b:Int) 45:=oM;go_wp2
          all_goals (go_ret;exact ⟨cT (by first |(rw [f.out,<-g.out];done)|(rw [f.out,<-g.out];omega)),rfl⟩)
def eG:Nat->Int->Int->Int
 | 0,h,_=>h
 | f+1,h,l=>if least (h+1)<=l then eG f (h+1) l else h
def gA (a:Int):Int:=eG 45 (-1) a
def aDe (a:Int):0<=least a/\least a<=2147483648:=by
 unfold least;have:=iN (min a.toNat 45);split <;> omega
def aDH (b:Int) (i:World):
 Calls prog 119 #[.int .i64 b] i fun f j=>f=.returned (.int .i64 (gA b))/\i=j:=by
 go_enter func119,ntmps119;go_wp2
 go_loop [3] (fun d=>∃a:Nat,a<=45/\d=.int .i64 (44 -(a:Int))/\eG a (44 -(a:Int)) b=gA b) (fun d=>(44 - intOf d).toNat)
 case atStart=>exact ⟨45,zAs _,rfl,rfl⟩
 case round=>
  obtain ⟨a,m,rfl,g⟩:=hrel;have c:=lhd g;clear g;rcases a with _ | a
  · go_wp2;go_ret;exact ⟨cT (by rw [<-c.out];rfl),rfl⟩
  · have l:=aDe (44 -((a+1:Nat):Int)+1);go_wp2_with (go_at_call 196;refine (aCk _ _).mono ?_;rintro f j ⟨rfl,rfl⟩);have e:least (44 -((a:Int)+1)+1)<=b:=(by assumption);refine ⟨⟨a,by omega,dF oM,?_⟩,by simp [intOf];omega⟩;rw [<-c.out,eG,zBx (by simpa using e)];congr 1;omega
    · have e:b < least (44 -((a:Int)+1)+1):=(by assumption);go_ret;refine ⟨cT ?_,rfl⟩;have k:¬least (44 -((a+1:Nat):Int)+1)<=b:=Int.not_le.2 e;rw [<-c.out,eG,zBw k];omega
def nV (b:Nat):∀a c,a<=eG b a c/\eG b a c<=a+b:=by
 induction b with
 | zero=>intro a c;simp [eG]
 | succ b d=>
   intro a c;unfold eG;split;have:=d (a+1) c;omega;omega
def pD (a:Int):-1<=gA a/\gA a<=44:=by have:=nV 45 (-1) a;unfold gA;omega
def lG (a:Int):Int:=72*(gA (4*(lX a+1)/ 128+1)+2)
def rF (a:Int) (d:World):
 Calls prog 36 #[.int .i64 a] d fun b c=>b=.returned (.int .i64 (lG a))/\d=c:=by
 have e:=(lH a).1;have f:=(lH a).2;have g:=(pD (4*(lX a+1)/ 128+1)).1;have i:=(pD (4*(lX a+1)/ 128+1)).2;go_enter func36,ntmps36
 go_wp2_with (first
  |(go_at_call 114;refine (jZ _ _).mono ?_;rintro b c ⟨rfl,rfl⟩)
  |(go_at_call 119;refine (aDH _ _).mono ?_;rintro b c ⟨rfl,rfl⟩))
 go_ret;exact ⟨rfl,rfl⟩
def wK (C:Option Addr) (g M:Nat) (d:List Shp) (D:Nat) (a:World) (z:Rd a D 4 C g (bJ d)) (hB:D<=a.heap.size) (H:∀c∈d,c.small) (ao:g<=65536):
 Calls prog 30 #[.slice C g M] a fun V a7=>V=.returned (bZ d).val/\Below a.heap.size a a7:=by
 have F:d.length=g:=by have:=z.1;rw [uK] at this;omega
 obtain ⟨v,K,E⟩:=hqq3 F (z.mono hB) H;clear z H F;go_enter func30,ntmps30;go_wp2;go_loopw [8] (fun j wr=>∃b:Nat,b<=g/\j=.int .i64 b/\Bk wr a.heap.size 68 (Shp.zero.cells).toArray/\Bk wr (a.heap.size+1) 68 ((bZ (d.take b)).cells).toArray/\Below a.heap.size a wr) (fun j _=>g -(intOf j).toNat)
 case atStart=>refine ⟨0,zAp _,rfl,?_,?_,(bR.alloc nL _).alloc (by simp) _⟩;exact (Bk.new a _ _).alloc _;have:=Bk.new (a.alloc (.cells #[.int .i64 0,.int .i64 0,.int .i64 0,.int .i64 0] 68)) 68 #[.int .i64 0,.int .i64 0,.int .i64 0,.int .i64 0];rw [World.size_alloc] at this;exact this
 case round=>
  obtain ⟨b,ak,rfl,f,e,o⟩:=hrel;have ap:=o.size;have an:=e.lt;by_cases al:b < g
  · obtain ⟨c,i⟩:∃c,d[b]?=some c:=⟨d[b]'(by have:=v.out;omega),zAa (by have:=v.out;omega)⟩;obtain ⟨n,s,rfl,ai,k⟩:=(K.out.below o).2 oM;have a8:wr.cell? ⟨n,s+b*4,none⟩=some (.int .i64 c.len):=k (b*4+0) _ ((fZ d b 0 c i oM).trans rfl);have a9:wr.cell? ⟨n,s+b*4+1,none⟩=some (.int .i64 c.height):=(by rw [Nat.add_assoc];exact k (b*4+1) _ ((fZ d b 1 c i oM).trans rfl));have aa:wr.cell? ⟨n,s+b*4+2,none⟩=some (.int .i64 c.leaves):=(by rw [Nat.add_assoc];exact k (b*4+2) _ ((fZ d b 2 c i oM).trans rfl));have ab:wr.cell? ⟨n,s+b*4+3,none⟩=some (.int .i64 c.nodes):=(by rw [Nat.add_assoc];exact k (b*4+3) _ ((fZ d b 3 c i oM).trans rfl));have I:=E.out c (zAd i);have y:=uI (d.take b) (fun c a6=>E.out c (List.mem_of_mem_take a6));have m:(d.take b).length<=65536:=(by rw [zAj];omega);unfold Shp.small at I;simp only at y;generalize (d.take b).length=q at y m;generalize l:bZ (d.take b)=t at*
    obtain ⟨⟨aq,ar⟩,⟨au,av⟩,aw,ax⟩:=I;obtain ⟨⟨N,O⟩,⟨R,S⟩,T,U⟩:=y;have ac:-72057594037927936<=t.len:=oM;have ad:t.len<=72057594037927936:=oM;have ae:-72057594037927936<=t.leaves:=oM;have af:t.leaves<=72057594037927936:=oM;have ag:-72057594037927936<=t.nodes:=oM;have ah:t.nodes<=72057594037927936:=oM;clear N O R S T U m;have a0:wr.cell? ⟨a.heap.size+1,0,none⟩=some (.int .i64 t.len):=e.cell 0;have a1:wr.cell? ⟨a.heap.size+1,1,none⟩=some (.int .i64 t.height):=e.cell 1;have a2:wr.cell? ⟨a.heap.size+1,2,none⟩=some (.int .i64 t.leaves):=e.cell 2;have a3:wr.cell? ⟨a.heap.size+1,3,none⟩=some (.int .i64 t.nodes):=e.cell 3;have W:=e.frozen 0;have X:=e.frozen 1;have Y:=e.frozen 2;have Z:=e.frozen 3;obtain ⟨u,J,L,w⟩:=hqq4 f e i l;clear i k f e l;go_wp2;have A:=(((J.out.set 0 (.int .i64 (t.len+c.len))).set 2 (.int .i64 (t.leaves+c.leaves))).set 3 (.int .i64 (t.nodes+c.nodes))).set 1 (.int .i64 (if t.height < c.height then c.height else t.height));have r:∀j B (x:World),Bk x a.heap.size 68 (Shp.zero.cells).toArray->Bk (x.setCell ⟨a.heap.size+1,j,none⟩ B) a.heap.size 68 (Shp.zero.cells).toArray:=fun j B x a4=>a4.far (p:=⟨a.heap.size+1,j,none⟩) (by simp) B;refine ⟨⟨b+1,by omega,by go_num,(r _ _ _ (r _ _ _ (r _ _ _ (r _ _ _ u.out)))).alloc _,?_,?_⟩,by simp [intOf];omega⟩
    · rw [xH d b c L.out,w.out];have:=A.alloc (.cells #[Value.int IntKind.i64 c.len,Value.int IntKind.i64 c.height,Value.int IntKind.i64 c.leaves,Value.int IntKind.i64 c.nodes] 68);have G:(if t.height < c.height then c.height else t.height)=max t.height c.height:=(by split <;> omega);rw [G] at this
      first |(rw [G];exact this)| exact this
    exact ((((o.setCell (p:=⟨a.heap.size+1,0,none⟩) (by simp) _).setCell (p:=⟨a.heap.size+1,2,none⟩) (by simp) _).setCell (p:=⟨a.heap.size+1,3,none⟩) (by simp) _).setCell (p:=⟨a.heap.size+1,1,none⟩) (by simp) _).alloc (by simp [World.setCell];omega) _
  · have a5:b=g:=oM;have m:d.take b=d:=zAg (by have:=v.out;omega);rw [m] at e;generalize l:bZ d=t at*
    have a0:wr.cell? ⟨a.heap.size+1,0,none⟩=some (.int .i64 t.len):=e.cell 0;have a1:wr.cell? ⟨a.heap.size+1,1,none⟩=some (.int .i64 t.height):=e.cell 1;have a2:wr.cell? ⟨a.heap.size+1,2,none⟩=some (.int .i64 t.leaves):=e.cell 2;have a3:wr.cell? ⟨a.heap.size+1,3,none⟩=some (.int .i64 t.nodes):=e.cell 3;have ay:wr.cell? a.heap.size=some (.int .i64 0):=f.cell 0;have az:wr.cell? ⟨a.heap.size,1,none⟩=some (.int .i64 0):=f.cell 1;have aA:wr.cell? ⟨a.heap.size,2,none⟩=some (.int .i64 0):=f.cell 2;have aB:wr.cell? ⟨a.heap.size,3,none⟩=some (.int .i64 0):=f.cell 3;have W:=f.frozen 0;have X:=f.frozen 1;have Y:=f.frozen 2;have Z:=f.frozen 3;have am:=f.lt;have aj:g<=b:=oM;obtain ⟨u,w⟩:=hqq2 f l;clear f e m l a5;go_wp2;have A:=(((u.out.set 0 (.int .i64 t.len)).set 1 (.int .i64 t.height)).set 2 (.int .i64 t.leaves)).set 3 (.int .i64 t.nodes);refine bodyPost_ret (results_cell_row rfl _ _ a.heap.size 68 #[.int .i64 t.len,.int .i64 t.height,.int .i64 t.leaves,.int .i64 t.nodes] (0,0) _ rfl A underlying68 rfl kR) rfl ⟨by rw [w.out];rfl,?_⟩;exact (((o.setCell (p:=a.heap.size) (by simp) _).setCell (p:=⟨a.heap.size,1,none⟩) (by simp) _).setCell (p:=⟨a.heap.size,2,none⟩) (by simp) _).setCell (p:=⟨a.heap.size,3,none⟩) (by simp) _
def aDG (e:Option Addr) (d g:Nat) (c:List Shp) (f:Nat) (a:World) (b:Shp) (j:bZ c=b) (l:Rd a f 4 e d (bJ c)) (hB:f<=a.heap.size) (m:∀n∈c,n.small) (k:d<=65536):
 Calls prog 30 #[.slice e d g] a fun i o=>i=.returned (.agg #[.int .i64 b.len,.int .i64 b.height,.int .i64 b.leaves,.int .i64 b.nodes])/\Below a.heap.size a o:=by
 subst j;exact wK e d g c f a l hB m k
def zY (b:World):
 Calls prog 37 #[] b fun a j=>a=.returned (.bool true)/\Below b.heap.size b j:=by
 have f:=Below.refl b.heap.size b;have k:lX 0=0:=dC;have l:lX (-4)=0:=dC;have m:lW 0=9216:=dC;have n:lG 0=144:=dC;go_enter func37,ntmps37;go_wp2_with fail;refine (aDG _ _ _ [⟨1,2,3,5⟩,⟨4,1,2,3⟩] _ _ ⟨5,2,5,8⟩ rfl (Rd.made _ _ 4 2 _ rfl) nL (by simp [Shp.small]) oM).mono ?_;rintro a w1 ⟨rfl,d⟩;have c:=(f.alloc nL _).trans (d.mono (by simp));have i:=c.size;clear d
 go_wp2_with (first
  |(go_at_call 29;refine (uA _ _).mono ?_;rintro a e ⟨rfl,rfl⟩)
  |(go_at_call 32;refine (oG _ _).mono ?_;rintro a e ⟨rfl,rfl⟩)
  |(go_at_call 36;refine (rF _ _).mono ?_;rintro a e ⟨rfl,rfl⟩)
  |(go_at_call 30;refine (aDG _ _ _ [] 0 _ ⟨0,0,0,0⟩ rfl (Rd.nil _ _ _ _) (zAp _) (by simp) oM).mono ?_;rintro a o ⟨rfl,g⟩))
 go_ret;exact ⟨rfl,c.alloc i _ |>.trans (g.mono (by simp;omega))⟩
def vN (a:Int) (b:0<=a) (c:a<=1000000):lX a=a:=by unfold lX;omega
def uY (c:Nat):∀b a:Int,least b<=a->least (eG c b a)<=a:=by
 induction c with
 | zero=>intro b a d;exact d
 | succ c e=>
   intro b a d;unfold eG;split;exact e _ _ (by assumption);exact d
def aAu (a:Int) (b:1<=a):least (gA a)<=a/\0<=gA a:=by
 refine ⟨uY 45 (-1) a (by simp [least];omega),?_⟩;unfold gA;rw [eG,zBx (by simp [least,cH];omega)];have:=(nV 44 (-1+1) a).1;omega
end
end Go.Proofs.YtnmapianpjamnaaGreatDoor
