/- Lemmas of the walk. Conditions: each its own. -/
import Derived.Test.YtihaijbgmjdhgaaGreatDoorPp0
import Derived.Test.YtihaijbgmjdhgaaGreatDoorProg
set_option linter.all false
set_option maxRecDepth 100000
set_option maxHeartbeats 4000000
namespace Go.Proofs.YtihaijbgmjdhgaaGreatDoor
open Tryz
section
open Go.RowKit
theorem mN:(prog.info? 4).map (fun a=>(a.zero,a.size,a.bytes))=some (some (.bool false),1,1):=by kernel_rfl
theorem mD (a:World):
 Calls prog 108 #[.int .i64 268435456] a fun c b=>c=.returned (.pointer (some a.heap.size))/\Bk b a.heap.size 204 #[.slice none 0 0,.slice none 0 0,.int .i64 268435456]/\Below a.heap.size a b:=by
 go_enter func108,ntmps108;go_wp2;go_ret;exact ⟨rfl,Bk.new _ _ _,bR.alloc nL _⟩
theorem yT (b:Nat) (a:World) (c:Bk a b 204 #[.slice none 0 0,.slice none 0 0,.int .i64 268435456]):
 Calls prog 187 #[b] a fun d e=>d=.returned (.int .i64 0)/\Below a.heap.size a e:=by
 have f:a.cell? b=some (.slice none 0 0):=(c.cell 0).trans rfl;have g:a.cell? ⟨b,1,none⟩=some (.slice none 0 0):=(c.cell 1).trans rfl;go_enter func187,ntmps187;go_wp2;go_quiet (fail);go_wp2;go_ret;exact ⟨rfl,below_drewN bR _⟩
theorem aDw {c:World} {a:Nat} {g:TypeId} {f:Value} (d:Bk c a g #[f]):Rd c c.heap.size 1 (some ⟨a,0,none⟩) 1 [f]:=by
 refine ⟨rfl,fun _=>⟨a,0,rfl,d.lt,fun b i e=>?_⟩⟩;rw [zBh,d.cell b];rcases b with _ | b;exact e
 · simp at e
theorem yE (a:Nat) (c:World) (i:Bk c a 204 #[.slice none 0 0,.slice none 0 0,.int .i64 268435456]):
 Calls prog 116 #[a] c fun y s=>y=.returned (.tuple #[.int .i64 0,.int .i64 0])/\Keep (fun g=>g=a) c s/\∃t v,Bk s a 204 #[.slice t 1 v,.slice none 0 0,.int .i64 268435456]/\Made s c.heap.size 4 1 t 1 v [.bool true]:=by
 obtain ⟨R,J,M,N,O⟩:=info_parts mN;have I:=i.lt;obtain ⟨e,T⟩:=hqq2 i (Below.refl c.heap.size c);clear i;go_enter func116,ntmps116;go_wp2;refine wp_region_any kR ?_;refine aI [10,11,12,13,14,15,16,9] Grow (Vs [is a,is (.int .i64 0),is a,is a,is (.pointer (some ⟨a,2,none⟩)),is (.int .i64 268435456),is (.bool false),is (.bool false)]) _ _ rfl kR bR (fun _ _=>Grow.trans) (dQ tA0) ?_ ?_
 · refine aG ?_;refine pH 0 (.pointer (some a)) ?_;refine sC (fun _ d b _ _ _ m _ _ _ G=>?_) ?_
   · have X:_=_:=m 0 10 kR rfl;replace b:Grow c d:=gD b;go_simp;refine (yT a d (e.out.below b e.out.lt)).mono ?_;rintro y a1 ⟨rfl,H⟩;exact G _ _ H rfl
   refine pH 0 (.pointer (some a)) ?_;refine pV 2 12 ?_;refine pV 3 13 ?_;refine pL 4 14 (fun d b=>have b:Grow c d:=gD b;(((e.out.below b e.out.lt).cell 2).trans rfl:d.cell? ⟨a,2,none⟩=some (.int .i64 268435456))) ?_;refine pW 1 11 5 15 ?_;refine pV 6 16 ?_;exact aC
 · intro E k b m;replace b:Grow c k:=gD b;have D:E (.tmp 9)=.bool false:=m 7 9 rfl;simp only [zqq];rw [D];clear m;have f:=lhd (e.out.below b e.out.lt);have r:=Below.size b;have n:=lhd b;have w:k.cell? ⟨a,1,none⟩=some (.slice none 0 0):=(f.out.cell 1).trans rfl;clear b;have o:k.cell? a=some (.slice none 0 0):=(f.out.cell 0).trans rfl;have z:=f.out.frozen 0;have l:a < k.heap.size:=oM;revert f r o w z n l;generalize k=W2;intro f r n w o z l;have U:=(World.cell?_alloc_lt W2 (Obj.cells #[.bool true] 4) ⟨a,0,none⟩ l).trans o;go_wp2_with (at_builtin;refine aY _ rfl (.tmp 53) (.tmp 54) _ rfl c.heap.size 4 R (.bool false) 1 1 underlying144 J M N O rfl dC (.slice none 0 0) 0 [] rfl (World.ownsRow_nil _ _ _ _) rfl rfl (by simp [Value.oneCell']) (by unfold maxLen;omega) oM r ?_;intro a0 d B j Z Y;rw [zBh,List.nil_append] at B;obtain ⟨u,x,rfl,L⟩:=aF B;have A:Below W2.heap.size W2 d:=⟨j.os,j.tape,j.output,j.size,fun S K=>j.block S K (by simp [Value.ownBlock])⟩;have q:=f.out.below A l;have V:d.cell? a=some (.slice none 0 0):=(q.cell 0).trans rfl;have W:=q.frozen 0);go_ret2;have C:=Keep.setCell (F:=fun g=>g=a) (Keep.refl (fun g=>g=a) d) (p:=a) (.inl rfl) (.slice u 1 x);exact ⟨rfl,((Keep.of_below n.out).trans (Keep.of_below A)).trans C,u,x,q.set 0 _,(L.mono oM).keepF C (fun g i=>by subst i;exact I)⟩
end
section
open Go.RowKit Go
section
variable {P : Program} {ops : Array Oper} {Q : Exit -> Act -> World -> Prop} {md : Region.Mode}
def nV (P:Program) (ops:Array Oper) (Q:Exit->Act->World->Prop) (md:Region.Mode) (o:(Operand->Value)->World->Prop) (p:Nat->Value->World->World->Prop) (q:Nat->World->Prop) (k:Nat->(Operand->Value)->Value->World->Prop) (d:Act) (b:Nat) (m:Oper):Prop:=
 ∀a c,o a.eval c->q b c->a.tmps.size=d.tmps.size->a.defers=d.defers->
    (∀f,lC md ops b f=true->a.tmps.getD f undef=d.tmps.getD f undef)->
    (∀e∈m.after,Region.binds md e=true->∀n l,ops[e.on]?=some n->n.dst=some l->k e.on a.eval (a.tmps.getD l undef) c)->
    ∀j:Act->World->Prop,(∀g i,p b g c i->k b a.eval g i->j (a.put m.dst g) i)->wpOp P ops Q b j a c
theorem bP {q:(Operand->Value)->World->Prop} {r:Nat->Value->World->World->Prop} {s:Nat->World->Prop} {n:Nat->(Operand->Value)->Value->World->Prop} {t:Act} {e:Nat} {b:Oper} (E:ops[e]?=some b) (C:b.guard=none)
 (w:∀a:Operand->Value,∀d,q a d->s e d->(∀f,a (.const f)=f)->(∀u,a (.func u)=.func (.func u) #[] #[])->(∀i,lC md ops e i=true->a (.tmp i)=t.eval (.tmp i))->
  (∀m k,b.after.toList.any (fun g=>Region.binds md g&&g.on==m)=true->((ops[m]?).bind (·.dst))=some k->n m a (a (.tmp k)) d)->
  ∀c j,c.eval=a->(∀f p,r e f d p->n e a f p->j (c.put b.dst f) p)->Oper.upon P b c j Q ((execOp a b).run P d)):nV P ops Q md q r s n t e b:=by
 intro c d z A L K F H j y;unfold wpOp;simp only [E];have I:Region.wanted b (yielded ops c.tmps)=true:=by unfold Region.wanted;rw [C]
 rw [zBv I];refine .inl (w c.eval d z A (fun _=>rfl) (fun _=>rfl) (fun i G=>F i G) (fun m k D l=>?_) c j rfl y);obtain ⟨g,B,v⟩:=List.any_eq_true.1 D;simp only [zBc,zCl] at v;obtain ⟨x,rfl⟩:=v;cases o:ops[g.on]? with
 | none=>rw [o] at l;cases l
 | some J=>rw [o] at l;exact H g (Array.mem_toList_iff.1 B) x J k o l
theorem aDr {m:Nat} (k:eL md ops m=true):∀c b d,upB md ops c b d=true->d < b:=by
 intro c
 induction c with
 | zero=>intro b d a;cases a
 | succ c l=>
   intro b d a;unfold upB at a;cases f:ops[b]? with
   | none=>rw [f] at a;cases a
   | some o=>
     rw [f] at a;obtain ⟨i,j,e⟩:=List.any_eq_true.1 a;simp only [zBc,Bool.or_eq_true,zCl] at e;have n:=(bV k f).1 i (Array.mem_toList_iff.1 j) e.1;rcases e.2 with g | g;omega;have:=l _ _ g;omega
theorem wF {f:Nat} (d:eL md ops f=true) (c a b:Nat) (g:b<=a) (e:upB md ops c b a=true):False:=by
 have:=aDr d c b a e;omega
structure LooseF (md:Region.Mode) (ops:Array Oper) (C:(Operand->Value)->World->Prop) (U:Nat->World->Prop) (V:Nat->(Operand->Value)->Value->World->Prop) (a0:Act) (listed:Array Bool) (a:Act) (w:World):Prop where
 world:C a.eval w
 pre:∀j o,ops[j]?=some o->listed.getD j false=false->U j w
 size:a.tmps.size=a0.tmps.size
 defers:a.defers=a0.defers
 old:∀t,(∀k p,ops[k]?=some p->p.dst=some t->listed.getD k false=false)->a.tmps.getD t undef=a0.tmps.getD t undef
 val:∀i o,ops[i]?=some o->listed.getD i false=true->∃v,(∀d,o.dst=some d->a.tmps.getD d undef=v)/\V i a.eval v w
 shut:∀k p,ops[k]?=some p->listed.getD k false=true->∀e∈p.after,Region.binds md e=true->listed.getD e.on false=true
theorem rS (y:(Operand->Value)->World->Prop) (T:Nat->Value->World->World->Prop) (H:Nat->World->Prop) (z:Nat->(Operand->Value)->Value->World->Prop) (u:Act)
 (Y:World) (W:eL md ops u.tmps.size=true) (ac:y u.eval Y) (ae:∀a,H a Y) (ab:∀b c v w g f t,ops[b]?=some c->(∀l,c.dst=some l->w (.tmp l)=g)->(∀i,c.dst≠some i->w (.tmp i)=v (.tmp i))->y v f->T b g f t->y w t) (ad:∀a b g f t,a≠b->upB md ops ops.size b a=false->H a f->T b g f t->H a t)
 (an:∀b c v w g f,ops[b]?=some c->(∀i,c.dst≠some i->w (.tmp i)=v (.tmp i))->z b v g f->z b w g f)
 (ao:∀a b c v w g a5 f t,ops[b]?=some c->(∀i,c.dst≠some i->w (.tmp i)=v (.tmp i))->a≠b->upB md ops ops.size a b=false->z a v g f->y v f->T b a5 f t->z a w g t)
 (ap:∀b c,ops[b]?=some c->nV P ops Q md y T H z u b c)
 (ai:∀k f,y k.eval f->k.tmps.size=u.tmps.size->k.defers=u.defers->
  (∀i,(∀(r:Nat) (n:Oper),ops[r]?=some n->n.dst≠some i)->k.tmps.getD i undef=u.tmps.getD i undef)->
  (∀a c,ops[a]?=some c->∃g,(∀l,c.dst=some l->k.tmps.getD l undef=g)/\z a k.eval g f)->Q .normal k f):
 wpAny P md ops Q ops.size (Array.replicate ops.size false) u Y:=by
 have a7:∀d k f,d.size=ops.size->(∀a,a < ops.size->d.getD a false=true)->LooseF md ops y H z u d k f->Q .normal k f:=by intro d k f F U e;refine ai k f e.world e.size e.defers (fun i E=>e.old i fun r n j o=>absurd o (E r n j)) fun a c m=>e.val a c m (U a (zAh.1 m).1)
 have aw:∀d:Array Bool,d.size=ops.size->Region.ready md ops d= []->∀a,a < ops.size->d.getD a false=true:=by
  intro d F S a
  induction a using Nat.strongRecOn with
  | _ a a4=>
    intro q;cases I:d.getD a false with
    | true=>rfl
    | false=>
      exfalso;have X:a∈Region.ready md ops d:=(by refine mem_ready.2 ⟨?_,ops[a],zAq q,fun p C B=>?_⟩;have N:a < d.size:=oM;simp [N] at I⊢;exact I;have:=(bV W (zAq q)).1 p C B;exact a4 p.on this oM);rw [S] at X;cases X
 have av:∀K d k f,d.size=ops.size->d.toList.count false<=K->LooseF md ops y H z u d k f->wpAny P md ops Q K d k f:=by
  intro K
  induction K with
  | zero=>
    intro d k f F I e
    have U:∀a,a < ops.size->d.getD a false=true:=by
        intro a q;have N:a < d.size:=oM;cases G:d.getD a false with
        | true=>rfl
        | false=>
          exfalso;have:false∈d.toList:=(by simp [N] at G;exact G ▸(by simp));have:=List.count_pos_iff.2 this;omega
    refine ⟨?_,a7 d k f F U e⟩;cases S:Region.ready md ops d with
    | nil=>rfl
    | cons a ax=>
      exfalso;have q:a∈Region.ready md ops d:=(by rw [S];exact List.mem_cons_self ..);obtain ⟨L,c,m,_⟩:=mem_ready.1 q;have J:a < ops.size:=(zAh.1 m).1;have x:=U a J;have N:a < d.size:=oM;simp [N] at L x;rw [L] at x;cases x
  | succ K a4=>
    intro d k f F I e;refine ⟨fun S=>a7 d k f F (aw d F S) e,fun b ak=>?_⟩;obtain ⟨L,c,m,a0⟩:=mem_ready.1 ak;have J:b < ops.size:=(zAh.1 m).1;have D:b < d.size:=oM;have A:d.getD b false=false:=by simp [D] at L⊢;exact L
    have a3:∀g i,c.dst≠some i->(k.put c.dst g).eval (.tmp i)=k.eval (.tmp i):=by
        intro g i E;cases R:c.dst with
        | none=>rfl
        | some l=>
          have M:l≠i:=fun p=>E (by rw [R,p]);simp [Act.eval,Act.put,zAm,M]
    have ah:∀g l,c.dst=some l->(k.put c.dst g).eval (.tmp l)=g:=(by intro g l o;have a1:=((bV W m).2 l o).1;have:l < k.tmps.size:=(by rw [e.size];exact a1);simp [Act.eval,Act.put,zAm,o,this]);refine ap b c m k f e.world (e.pre b c m A) e.size e.defers (fun i E=>e.old i fun r n j o=>?_) (fun p C B n l j o=>by obtain ⟨g,x,aa⟩:=e.val p.on n j (a0 p C B);rw [x l o];exact aa) _ fun g t Z af=>?_
    · rcases lB E j o with rfl |⟨p,C,B,aj⟩;exact A
      · cases s:d.getD r false with
        | false=>rfl
        | true=>
          have:=e.shut r n j s p C B;rw [aj,A] at this;cases this
    · refine a4 _ _ _ (by simpa using F) ?_ ?_;have G:d.toList[b]'(by simpa using D)=false:=(by simp [D] at A⊢;exact A);rw [Array.toList_setIfInBounds,List.count_set (by simpa using D),G];simp;have X:false∈d.toList:=G ▸ zBi _;have:=List.count_pos_iff.2 X;rw [<-Array.count_toList];omega
      · have aq:(k.put c.dst g).tmps.size=u.tmps.size:=by
          rw [<-e.size];cases c.dst with
          | none=>rfl
          | some l=>simp [Act.put]
        refine ⟨ab b c _ _ g f t m (ah g) (a3 g) e.world Z,fun a n j q=>?_,aq,?_,fun i E=>?_,fun a n j q=>?_,fun r n j s p C B=>?_⟩
        · have a8:a≠b:=fun p=>by rw [p,aE _ _ D] at q;cases q
          rw [getD_set_ne false a8.symm] at q;refine ad a b g f t a8 ?_ (e.pre a n j q) Z;cases au:upB md ops ops.size b a with
          | false=>rfl
          | true=>
            have:=cO e.shut _ b a c m a0 au;rw [q] at this;cases this
        · rw [<-e.defers];cases c.dst <;> rfl
        · have al:c.dst≠some i:=fun o=>by have:=E b c m o;rw [aE _ _ D] at this;cases this
          have am:=e.old i fun r n j o=>by
           have:=E r n j o;cases s:d.getD r false with
           | false=>rfl
           | true=>
             by_cases a9:b=r
             · subst a9;rw [A] at s;cases s
             · rw [getD_set_ne false a9,s] at this;cases this
          rw [<-am];cases R:c.dst with
          | none=>rfl
          | some l=>
            have M:l≠i:=fun e=>al (by rw [R,e]);simp [Act.put,zAm,M]
        · rcases cE _ _ _ q with rfl | V
          · rw [m] at j;injection j with j;subst j;refine ⟨g,fun l o=>?_,an _ _ _ _ _ _ m (a3 g) af⟩;have a1:=((bV W m).2 l o).1;rw [o];have:l < k.tmps.size:=(by rw [e.size];exact a1);simp [Act.put,zAm,this]
          · by_cases a2:a=b
            · subst a2;rw [A] at V;cases V
            obtain ⟨a5,ar,G⟩:=e.val a n j V
            have ag:upB md ops ops.size a b=false:=by
              cases I:upB md ops ops.size a b with
              | false=>rfl
              | true=>
                exfalso;have:=cO e.shut _ a b n j (e.shut a n j V) I;rw [A] at this;cases this
            refine ⟨a5,fun l o=>?_,ao _ _ _ _ _ _ _ _ _ m (a3 g) a2 ag G e.world Z⟩;rw [<-ar l o];cases R:c.dst with
            | none=>rfl
            | some a6=>
              have M:a6≠l:=fun e=>a2 (((bV W m).2 a6 R).2 a n j (e ▸ o));simp [Act.put,zAm,M]
        rcases cE _ _ _ s with rfl | s;rw [m] at j;injection j with j;subst j;have x:=a0 p C B;by_cases O:r=p.on;rw [<-O];exact aE _ _ D _;rw [getD_set_ne false O];exact x;have x:=e.shut r n j s p C B;by_cases O:b=p.on;rw [<-O];exact aE _ _ D _;rw [getD_set_ne false O];exact x
 refine av _ _ _ _ (by simp) (by simp) ⟨ac,fun b _ _ _=>ae b,rfl,rfl,fun _ _=>rfl,fun a c m q=>?_,fun r n j s=>?_⟩
 · have J:a < ops.size:=(zAh.1 m).1;simp [J] at q
 · have J:r < ops.size:=(zAh.1 j).1;simp [J] at s
theorem rR (u:List Nat) (m:(Operand->Value)->World->Prop) (p:Nat->Value->World->World->Prop) (q:Nat->World->Prop) (i:Nat->(Operand->Value)->Value->World->Prop) (n:Act) (r:World)
 (E:ops.toList.filterMap (·.dst)=u)
 (H:eL md ops n.tmps.size=true) (z:m n.eval r) (C:∀a,q a r) (y:∀c f d j e b l,ops[c]?=some f->(∀k,f.dst=some k->j (.tmp k)=e)->(∀g,f.dst≠some g->j (.tmp g)=d (.tmp g))->m d b->p c e b l->m j l) (B:∀a c e b l,a≠c->upB md ops ops.size c a=false->q a b->p c e b l->q a l)
 (J:∀c f d j e b,ops[c]?=some f->(∀g,f.dst≠some g->j (.tmp g)=d (.tmp g))->i c d e b->i c j e b)
 (L:∀a c f d j e S b l,ops[c]?=some f->(∀g,f.dst≠some g->j (.tmp g)=d (.tmp g))->a≠c->upB md ops ops.size a c=false->i a d e b->m d b->p c S b l->i a j e l)
 (M:∀c f,ops[c]?=some f->nV P ops Q md m p q i n c f)
 (F:∀(d:Operand->Value) b,m d b->(∀a k,((ops[a]?).bind (·.dst))=some k->i a d (d (.tmp k)) b)->(∀a,a < ops.size->∃e,i a d e b)->Q .normal (cD d u n) b):
 wpAny P md ops Q ops.size (Array.replicate ops.size false) n r:=by
 refine rS m p q i n r H z C y B J L M fun s b A N D I x=>?_;have t:=F s.eval b A (fun a k o=>by
  cases w:ops[a]? with
  | none=>rw [w] at o;cases o
  | some f=>
    rw [w] at o;obtain ⟨e,t,v⟩:=x a f w;have:=t k o;change i a s.eval (s.tmps.getD k undef) b;rw [this];exact v) (fun a G=>by
  obtain ⟨e,_,v⟩:=x a _ (zAq G);exact ⟨e,v⟩)
 rw [<-gU s n u N D fun g O=>I g fun T R K o=>O ?_] at t;exact t;rw [<-E];exact List.mem_filterMap.2 ⟨R,Array.mem_toList_iff.2 (Array.mem_of_getElem? K),o⟩
end
def blk?:Value->Option Nat
 | .pointer (some a)=>some a.block
 | .slice (some a) _ _=>some a.block
 | _=>none
def wD (d:List Nat) (c:Operand->Value) (f:World):Prop:=
 (∀b∈d,∀a,blk? (c (.tmp b))=some a->a < f.heap.size)/\∀b∈d,∀e∈d,b≠e->∀a,blk? (c (.tmp b))=some a->blk? (c (.tmp e))≠some a
theorem pB {d:List Nat} {c:Operand->Value} {j:World} (g:(d.all fun a=>(blk? (c (.tmp a))).isNone)=true):wD d c j:=by
 have i:∀a∈d,blk? (c (.tmp a))=none:=fun a b=>by simpa using zBe.1 g a b
 refine ⟨fun a b f e=>?_,fun a b _ _ _ f e=>?_⟩<;>(rw [i a b] at e;cases e)
def aCw (b:Value) (c d:World):Prop:=∀a,blk? b=some a->c.heap.size<=a/\a < d.heap.size
def rM (g:List Nat) (ops:Array Oper) (e:World->World->Prop) (d c:Nat) (i:Value) (a b:World):Prop:=a.heap.size<=b.heap.size/\(c=d->e a b)/\(c≠d->Grow a b)/\∀f∈g,((ops[c]?).bind (·.dst))=some f->aCw i a b
theorem cF {d:List Nat} {ops:Array Oper} {i:World->World->Prop} {c b:Nat} {o:Value} {f g:World} (e:Grow f g) (n:(b==c)=false) (m:(d.all fun a=>((ops[b]?).bind (·.dst))!= some a)=true):rM d ops i c b o f g:=
 ⟨e.size,fun j=>by simp [j] at n,fun _=>e,fun a k l=>by have:=zBe.1 m a k;simp [l] at this⟩
theorem fM {j:List Nat} {ops:Array Oper} {g:World->World->Prop} {c e:Nat} {f:Value} {a b:World} (d:Grow a b) (l:(e==c)=false) (k:aCw f a b):rM j ops g c e f a b:=
 ⟨d.size,fun i=>by simp [i] at l,fun _=>d,fun _ _ _=>k⟩
theorem aBR {f:List Nat} {ops:Array Oper} {e:World->World->Prop} {a:Nat} {n:Value} {c d:World} (i:e c d) (m:c.heap.size<=d.heap.size) (l:(f.all fun b=>((ops[a]?).bind (·.dst))!= some b)=true):rM f ops e a a n c d:=
 ⟨m,fun _=>i,fun g=>absurd rfl g,fun b j k=>by have:=zBe.1 l b j;simp [k] at this⟩
abbrev KP:=List Nat×((Operand->Value)->Value->World->Prop)
def k0 (a:Value->World->Prop):KP:=([],fun _ b c=>a b c)
def kEq (a:Nat):KP:=([a],fun b c _=>c=b (.tmp a))
def kLk (b c:Nat) (d:Value->Value->World->Prop):KP:=([b,c],fun a _ e=>d (a (.tmp b)) (a (.tmp c)) e)
def wA (a:KP):Prop:=∀b c:Operand->Value,(∀d∈a.1,c (.tmp d)=b (.tmp d))->∀e f,a.2 b e f->a.2 c e f
theorem xV (b:Value->World->Prop):wA (k0 b):=fun _ _ _ _ _ a=>a
theorem zD (a:Nat):wA (kEq a):=fun f b d e g c=>by
 show e=b (.tmp a);rw [d a (by simp [kEq])];exact c
theorem aC4 (a b:Nat) (e:Value->Value->World->Prop):wA (kLk a b e):=fun i c d j g f=>by
 show e (c (.tmp a)) (c (.tmp b)) g;rw [d a (by simp [kLk]),d b (by simp [kLk])];exact f
def yG (f:World->World->Prop) (b:KP):Prop:=∀a c d e,b.2 a c d->f d e->b.2 a c e
theorem fG {e:World->World->Prop} {d:Value->World->Prop} (f:∀a b c,d a b->e b c->d a c):yG e (k0 d):=fun _ a b c g i=>f a b c g i
theorem nP (a:World->World->Prop) (b:Value):yG a (k0 (is b)):=fun _ _ _ _ c _=>c
theorem tZ (a:World->World->Prop):yG a (k0 dJ):=fun _ _ _ _ _ _=>trivial
theorem kS (a:World->World->Prop) (c:Nat):yG a (kEq c):=fun _ _ _ _ b _=>b
theorem kQ {d:World->World->Prop} {k l:Nat} {c:Value->Value->World->Prop} (g:∀e f a b,c e f a->d a b->c e f b):yG d (kLk k l c):=fun _ _ a b i j=>g _ _ a b i j
def VsQ (c:List KP) (b:Nat) (a:Operand->Value) (d:Value) (e:World):Prop:=(c.getD b (k0 dJ)).2 a d e
theorem yW (a:List KP) (b:Nat):a.getD b (k0 dJ)∈a∨a.getD b (k0 dJ)=k0 dJ:=by
 rw [zAb];cases c:a[b]? with
 | none=>exact .inr rfl
 | some d=>exact .inl (zAd c)
theorem nZ {P:Program} {ops:Array Oper} {Q:Exit->Act->World->Prop} {md:Region.Mode} (N s:List Nat) (B:Nat) (C:World->World->Prop) (A:World->Prop) (g:List KP) (D:Act) (J:World)
 (r:ops.toList.filterMap (·.dst)=N) (U:eL md ops D.tmps.size=true)
 (af:((List.range ops.size).all fun b=>(List.range ops.size).all fun c=>match ops[c]? with
  | some e=>upB md ops ops.size b c||(g.getD b (k0 dJ)).1.all fun j=>e.dst != some j
  | none=>true)=true)
 (a4:A J) (a2:wD s D.eval J) (a3:∀a k,A a->(Grow a k∨C a k)->A k)
 (aa:∀G∈g,wA G) (M:∀G∈g,yG Grow G) (ai:∀G∈g.eraseIdx B,yG C G)
 (aj:∀c e,ops[c]?=some e->nV P ops Q md (fun d a=>A a/\wD s d a) (rM s ops C B) (fun _ _=>True) (VsQ g) D c e)
 (ac:∀(d:Operand->Value) a,A a->wD s d a->(∀b E,((ops[b]?).bind (·.dst))=some E->VsQ g b d (d (.tmp E)) a)->(∀b,b < ops.size->∃f,VsQ g b d f a)->Q .normal (cD d N D) a):
 wpAny P md ops Q ops.size (Array.replicate ops.size false) D J:=by
 have a8:∀ {c f a k},rM s ops C B c f a k->Grow a k∨C a k:=fun {c f a k} p=>by by_cases v:c=B;exact .inr (p.2.1 v);exact .inl (p.2.2.1 v)
 have ah:∀c,upB md ops ops.size c c=false:=by
  intro c;cases S:upB md ops ops.size c c with
  | false=>rfl
  | true=>exact (wF U _ _ _ nL S).elim
 have ab:∀b,wA (g.getD b (k0 dJ)):=fun b=>by rcases yW g b with p | p;exact aa _ p;rw [p];exact xV _
 have T:∀b c e (d o:Operand->Value) f a,b < ops.size->ops[c]?=some e->(∀j,e.dst≠some j->o (.tmp j)=d (.tmp j))->upB md ops ops.size b c=false->VsQ g b d f a->VsQ g b o f a:=by intro b c e d o f a y n q R z;have l:=zBe.1 (zBe.1 af b (by simpa using y)) c (by simpa using (zAh.1 n).1);simp only [n,R,Bool.false_or] at l;exact ab b d o (fun j I=>q j (by have:=zBe.1 l j I;simpa using this)) f a z
 refine rR N (fun d a=>A a/\wD s d a) (rM s ops C B) (fun _ _=>True) (fun b d f a=>b < ops.size->VsQ g b d f a) D J r U ⟨a4,a2⟩ (fun _=>trivial) (fun c e d o f a k n x q p F=>⟨a3 a k p.1 (a8 F),?_⟩) (fun _ _ _ _ _ _ _ _ _=>trivial) (fun c e d o f a n q z v=>T c c e d o f a v n q (ah c) (z v)) (fun b c e d o f am a k n q ad R z S F y=>?_) (fun c e n X a l m Y Z a0 a1 W a5=>aj c e n X a l m Y Z a0 (fun K q a9 ak E V x=>a1 K q a9 ak E V x (zAh.1 V).1) W (fun f k a6 a7=>a5 f k a6 fun _=>a7)) (fun d a p l m=>ac d a p.1 p.2 (fun b E x=>l b E x (by
  cases n:ops[b]? with
  | none=>rw [n] at x;cases x
  | some e=>exact (zAh.1 n).1)) (fun b y=>(m b y).imp fun f z=>z y))
 · have al:=F.1;obtain ⟨l,m⟩:=p.2;have O:∀i∈s,e.dst=some i->aCw (o (.tmp i)) a k:=fun i w r=>by rw [x i r];exact F.2.2.2 i w (by rw [n];exact r)
   refine ⟨fun i w t u=>?_,fun i w j I M t u H=>?_⟩;by_cases r:e.dst=some i;exact (O i w r t u).2;rw [q i r] at u;have:=l i w t u;omega;by_cases r:e.dst=some i;have L:e.dst≠some j:=fun K=>M (by rw [r] at K;injection K);rw [q j L] at H;have:=(O i w r t u).1;have:=l j I t H;omega;rw [q i r] at u;by_cases L:e.dst=some j;have:=(O j I L t H).1;have:=l i w t u;omega;rw [q j L] at H;exact m i w j I M t u H
 · have l:=T b c e d o f a y n q R (z y);unfold VsQ at l⊢;by_cases v:c=B
   · subst v
     have ag:g.getD b (k0 dJ)∈g.eraseIdx c∨g.getD b (k0 dJ)=k0 dJ:=by
        rw [zAb];cases ae:g[b]? with
        | none=>exact .inr rfl
        | some G=>exact .inl (List.mem_eraseIdx_iff_getElem?.2 ⟨b,ad,ae⟩)
     rcases ag with m | m;exact ai _ m o f a k l (F.2.1 rfl)
     · rw [m];trivial
   · rcases yW g b with m | m;exact M _ m o f a k l (F.2.2.1 v)
     · rw [m];trivial
end
section
open Go.RowKit
def fC (b a:List UInt8) (d:Nat):List Nat:=(List.range d).filter fun c=>a.isPrefixOf (b.drop c)
def iS (b a:List UInt8):List Nat:=fC b a (b.length+1 - a.length)
def nv (a:Nat):Value:=iv (a:Int)
theorem xL (c b:List UInt8) (a:Nat) (d:b.isPrefixOf (c.drop a)=true):fC c b (a+1)=fC c b a++ [a]:=by
 simp [fC,List.range_succ,List.filter_append,d]
theorem aAw (b a:List UInt8) (c:Nat) (d:a.isPrefixOf (b.drop c)=false):fC b a (c+1)=fC b a c:=by
 simp [fC,List.range_succ,List.filter_append,d]
theorem rA (c b:List UInt8) (a:Nat):(fC c b a).length<=a:=by
 have:=zCn (fun d=>b.isPrefixOf (c.drop d)) (List.range a);rw [zCe] at this;exact this
structure Told where
 code:Int
 num:Int
 data:List UInt8
 places:List Nat
def iK (a:Told) (b:Option Addr) (d:Nat) (c:Option Addr) (e:Nat):Array Value:=#[.int .i64 a.code,.int .i64 a.num,.slice b a.data.length d,.slice c a.places.length e]
def bZ (d f c:Int) (a:Option Addr) (e b:Nat):Value:=.agg #[.int .i64 d,.int .i64 f,.int .i64 c,.slice a e b]
theorem aM (c:World) (a:Nat) (b:TypeId):Made c a b 1 none 0 0 []:=⟨World.ownsRow_nil _ _ _ _,Rd.nil _ _ _ _,zAs _,zAp _⟩
def dL (c:Nat) (a b:Int):Bool:=decide (0<=a/\0<=b/\a<=(c:Int)/\b<=(c:Int) - a)
def doM (a:List UInt8) (f d b e:Int) (c:List UInt8):List UInt8×Told:=
 if d=1 then
    if dL a.length b 0=false then (a,⟨2,0, [], []⟩) else if f -(a.length:Int) < (c.length:Int) then (a,⟨3,0, [], []⟩) else (a.take b.toNat++(c++a.drop b.toNat),⟨0,0, [], []⟩)
 else if d=2 then
    if dL a.length b e=false then (a,⟨2,0, [], []⟩) else (a.take b.toNat++a.drop (b.toNat+e.toNat),⟨0,0, [], []⟩)
 else if d=5 then
    if dL a.length b e=false then (a,⟨2,0, [], []⟩) else (a,⟨0,0,(a.drop b.toNat).take e.toNat, []⟩)
 else if d=3 then
    if dL a.length b (c.length:Int)=false then (a,⟨2,0, [], []⟩) else (a.take b.toNat++(c++a.drop (b.toNat+c.length)),⟨0,0, [], []⟩)
 else if d=4 then (a,⟨0,(a.length:Int), [], []⟩)
 else if d=6 then (a,⟨0,((iS a c).length:Int), [], []⟩)
 else if d=7 then (a,⟨0,((iS a c).length:Int), [],iS a c⟩)
 else if d=8 then (a,⟨0,0, [], []⟩)
 else (a,⟨1,0, [], []⟩)
theorem lJ {f:Nat} {b a:Int} (e:dL f b a=true):∃c d:Nat,b=(c:Int)/\a=(d:Int)/\c+d<=f:=by
 unfold dL at e;have:=of_decide_eq_true e;exact ⟨b.toNat,a.toNat,by omega,by omega,by omega⟩
theorem fT:(prog.info? 5).map (fun a=>(a.zero,a.size,a.bytes))=some (some (.int .u8 0),1,1):=by kernel_rfl
theorem uV:(prog.info? 3).map (fun a=>(a.zero,a.size,a.bytes))=some (some (.int .i64 0),1,8):=by kernel_rfl
theorem rP (j:Option Addr) (b d l:Nat) (k:List UInt8) (a:World) (i:Rd a l 1 j b (k.map bv)) (q:l<=a.heap.size) (C:b<=1099511627776):
 Calls prog 67 #[.slice j b d] a fun p n=>∃f g,p=.returned (.slice f b g)/\Made n a.heap.size 5 1 f b g (k.map bv)/\Below a.heap.size a n:=by
 obtain ⟨A,t,x,y,z⟩:=info_parts fT;have D:∀(a:World) (c:Option Addr) (b d:Nat),(binOp .eql 22 (.slice c b d) (.slice none 0 0)).run prog a=.ok (.bool c.isNone) a:=fun a c b d=>Lib.run_eql_slice_nil a _ _ c b d _ _ underlying22;rcases j with _ | c
 · have w:b=0:=by
    rcases zAz b with e | e;exact e
    · obtain ⟨_,_,e,_⟩:=i.2 e;cases e
   subst w;have u:k= []:=(by have:=i.1;simp only [zBb,Nat.zero_mul] at this;exact zBj this);subst u;go_enter func67,ntmps67;go_wp2;go_ret;exact ⟨none,0,rfl,⟨World.ownsRow_nil _ _ _ _,Rd.nil _ _ _ _,zAs _,zAp _⟩,Below.refl _ _⟩
 · have o:=lhd i;clear i;go_enter func67,ntmps67;go_wp2_with (at_builtin;refine aP _ rfl (.tmp 5) (.tmp 6) _ rfl a.heap.size 5 A (.int .u8 0) 1 1 underlying22 t x y z rfl dC (.slice (some ⟨a.heap.size,0,none⟩) 0 0) 0 [] rfl (jJ a 5 1) a.heap.size (some c) b d _ rfl ((o.out.mono q).alloc nL _) (eP _) (by unfold maxLen;omega) oM (by simp) ?_;intro E F m s B);have r:=aL ((Below.refl a.heap.size a).alloc nL _) (jJ a 5 1) s (by simp);rw [zBh,List.nil_append] at m;obtain ⟨f,g,rfl,v⟩:=aF m;go_wp2;go_ret;exact ⟨f,g,rfl,v,r⟩
theorem uW (a:Nat) (b:World) (s:a<=1099511627776):
 Calls prog 105 #[.slice none 0 0,(a:Int)] b fun k g=>∃f,k=.returned f/\g.ownsRow b.heap.size 5 1 f 0 []/\Below b.heap.size b g:=by
 obtain ⟨p,l,n,t,o⟩:=info_parts fT;rcases zAz a with c | c
 · subst c;go_enter func105,ntmps105;go_wp2;go_ret;exact ⟨_,rfl,World.ownsRow_nil _ _ _ _,Below.refl _ _⟩
 · have d:=Lib.run_append_nil_zeros (P:=prog) b 22 3 22 5 p (.int .u8 0) .i64 .i64 underlying22 underlying3 l n a c oM oM (by rw [o];omega);have r:=grownCap_ge b a 0 5;have m:=grownCap_le_maxLen b a 0 5 (by unfold maxLen;omega);generalize grownCap b a 0 5=cp at*
   have e:(Builtin.zeroCells (Value.int .u8 0).cells a++Builtin.zeroCells (Value.int .u8 0).cells (cp - a)).size=cp*1:=(by simp [Builtin.zeroCells,Value.cells];omega);obtain ⟨j,i⟩:=hqq2 e d;clear e d;have q:¬((a:Int) < 0):=oM;go_enter func105,ntmps105;go_wp2_with (at_builtin;refine Lib.wpList_append_run _ rfl (.tmp 20) (.tmp 21) _ _ rfl _ _ rfl rfl _ _ i.out ?_);go_ret;exact ⟨_,rfl,World.ownsRow_made _ _ _ nL m j.out,bR.drew.alloc nL _⟩
structure MoSl where
 A:Option Addr
 n:Nat
 c:Nat
 l:List UInt8
def aBP (a:MoSl):Value:=.slice a.A a.n a.c
def bQ (a:List MoSl):List UInt8:=a.flatMap (·.l)
theorem lE (b:List MoSl) (a:Nat) (c:MoSl) (d:b[a]?=some c):bQ (b.take (a+1))=bQ (b.take a)++c.l:=by
 rw [zAu,d];simp [bQ]
theorem nN (a:List MoSl) (b:Nat):(bQ (a.take b)).length<=(bQ a).length:=by
 have:bQ a=bQ (a.take b)++bQ (a.drop b):=by unfold bQ;rw [<-List.flatMap_append,zAt]
 rw [this,zAi];omega
theorem qB (I:Option Addr) (f a2 v:Nat) (d:List MoSl) (x:List UInt8) (o:Nat) (z:bQ d=x) (T:x.length=o) (g:World) (E:Rd g v 1 I f (d.map aBP)) (F:∀b∈d,Rd g v 1 b.A b.n (b.l.map bv)) (S:v<=g.heap.size) (an:f<=1099511627776) (ab:o<=1099511627776):
 Calls prog 59 #[.slice I f a2] g fun R Z=>∃t u,R=.returned (.slice t o u)/\Made Z g.heap.size 5 1 t o u (x.map bv)/\Below g.heap.size g Z:=by
 obtain ⟨aj,a8,ag,ah,ai⟩:=info_parts fT;have U:d.length=f:=by simpa using E.1
 have V:∀a,(bQ (d.take a)).length<=1099511627776:=fun a=>by have:=nN d a;rw [z] at this;omega
 have X:∀a b,d[a]?=some b->b.l.length=b.n/\(bQ (d.take (a+1))).length=(bQ (d.take a)).length+b.n:=fun a b e=>by
  have p:=(F b (zAd e)).1;have i:b.l.length=b.n:=by simpa using p
  rw [lE d a b e,zAi,i];exact ⟨rfl,rfl⟩
 obtain ⟨m,M,O,N,a0,K,J⟩:=hqq7 U V X (E.mono S) (fun b e=>(F b e).mono S) z T;clear U V X E F z T;go_enter func59,ntmps59;go_wp2;go_loopw [3,11] (fun H k wr=>∃a:Nat,a<=f/\k=.int .i64 a/\H=.int .i64 ((bQ (d.take a)).length:Int)/\g=wr) (fun _ k _=>f -(intOf k).toNat)
 case atStart=>exact ⟨0,zAp _,rfl,by simp [bQ],rfl⟩
 case round=>
  obtain ⟨a,a9,rfl,rfl,rfl⟩:=hrel;by_cases D:a < f
  · obtain ⟨b,e⟩:∃b,d[a]?=some b:=⟨d[a]'(by have:=m.out;omega),zAa (by have:=m.out;omega)⟩;obtain ⟨a1,ak,al,rfl,a5,j,B⟩:=N.out.get D;rw [zAf,e] at j;simp at j;subst j;unfold aBP at B;obtain ⟨p,i⟩:=O.out a b e;have y:=M.out (a+1);generalize W:(bQ (d.take a)).length=G at*
    have w:=lhd i;rw [i] at y;clear p i e W;have ao:¬((G:Int)+(b.n:Int) < 0):=oM;go_wp2;go_roundw
    case rel=>exact ⟨a+1,by omega,by go_num,by rw [w.out];go_num,trivial⟩
    case measure=>simp [intOf];omega
  · have C:a=f:=oM;have a7:f<=a:=oM;have s:d.take a=d:=zAg (by have:=m.out;omega);rw [s,K.out,J.out];clear C s;go_wp2_with fail;refine (uW o _ ab).mono ?_;rintro R w1 ⟨ap,rfl,ac,a4⟩;go_wp2_with fail;go_loopw [6,27] (fun H k wr=>∃a:Nat,a<=f/\k=.int .i64 a/\wr.ownsRow g.heap.size 5 1 H (bQ (d.take a)).length ((bQ (d.take a)).map bv)/\Below g.heap.size g wr) (fun _ k _=>f -(intOf k).toNat)
    case atStart=>exact ⟨0,zAp _,rfl,ac,a4⟩
    case round=>
        obtain ⟨a,a9,rfl,r,q⟩:=hrel;have Y:=q.size;by_cases D:a < f
        · obtain ⟨b,e⟩:∃b,d[a]?=some b:=⟨d[a]'(by have:=m.out;omega),zAa (by have:=m.out;omega)⟩;obtain ⟨a1,ak,al,rfl,a5,j,B⟩:=(N.out.below q).get D;rw [zAf,e] at j;simp at j;subst j;unfold aBP at B;have ae:=lhd ((a0.out b (zAd e)).below q);obtain ⟨p,i⟩:=O.out a b e;have y:=M.out (a+1);obtain ⟨af,w⟩:=hqq2 (lE d a b e) i;generalize W:(bQ (d.take a)).length=G at*
          rw [i] at y;have L:=lhd r;clear p i e r;go_wp2_with (at_builtin;refine aP _ rfl (.tmp 31) (.tmp 32) _ rfl g.heap.size 5 aj (.int .u8 0) 1 1 underlying22 a8 ag ah ai rfl dC _ G _ rfl L.out g.heap.size b.A b.n b.c _ rfl ae.out (eP _) (by unfold maxLen;omega) oM Y ?_;intro aq ar ad a6 am);have a3:=aL q L.out a6 Y;go_roundw
          case rel=>refine ⟨a+1,by omega,by go_num,?_,a3⟩;rw [w.out,af.out,zAy];exact ad
          case measure=>simp [intOf];omega
        · have C:a=f:=oM;have a7:f<=a:=oM;have s:d.take a=d:=zAg (by have:=m.out;omega);rw [s,K.out,J.out] at r;obtain ⟨t,u,rfl,aa⟩:=aF r;clear C s r;go_wp2;go_ret;exact ⟨t,u,rfl,aa,q⟩
theorem fU:∀a,(sizeOf 5).run prog a=.ok 1 a:=fun a=>by
 obtain ⟨f,b,d,c,e⟩:=info_parts fT;simp [sizeOf,typeInfo,b,c]
theorem uU {a:World} {f e:Nat} {b:Option Addr} {d:List UInt8} (g:Rd a f 1 b e (d.map bv)):∀c,(convert 22 9 (.slice b e c)).run prog a=.ok (.string ⟨d.toArray⟩) a:=
 fun c=>eN (P:=prog) 22 9 5 underlying22 underlying5 underlying9 g
theorem kM (b c:Option Addr) (i m j n k l:Nat) (d e:List UInt8) (a:World) (f:Rd a k 1 b i (d.map bv)) (g:Rd a l 1 c j (e.map bv)):
 Calls prog 32 #[.slice b i m,.slice c j n] a fun o p=>o=.returned (.bool (decide (d=e)))/\a=p:=by
 have q:=uU f;have r:=uU g;clear f g;go_enter func32,ntmps32;go_wp2;go_ret;exact ⟨bF (by rw [Bool.eq_iff_iff];simp),rfl⟩
theorem pO (m o:Option Addr) (d f a w s t:Nat) (b c:List UInt8) (l:World) (g:Rd l s 1 m d (b.map bv)) (i:Rd l t 1 o a (c.map bv)) (A:d<=f):
 Calls prog 120 #[.slice m d f,.slice o a w] l fun p r=>p=.returned (.bool (c.isPrefixOf b))/\l=r:=by
 have q:b.length=d:=by simpa using g.1
 have n:c.length=a:=by simpa using i.1
 by_cases y:a<=d
 · have hcut:=hQ (P:=prog) 22 5 1 underlying22 fU m d f a oM;have z:=lhd (g.cut_hi0 (k:=a) (cap:=f) y);have x:decide ((a:Int)<=(d:Int))=true:=(by simp;omega);have u:=lhd i;have j:decide ((b.take a)=c)=c.isPrefixOf b:=(by rw [Bool.eq_iff_iff];simp only [zBy,List.isPrefixOf_iff_prefix];constructor;intro e;rw [<-e];exact List.take_prefix _ _;intro e;rw [<-n];exact (List.prefix_iff_eq_take.1 e).symm);have v:=lhd j;clear g i q n j;go_enter func120,ntmps120;go_wp2_with fail;refine (kM _ _ _ _ _ _ _ _ (b.take a) c _ (by have:=z.out;rwa [zBk,<-List.map_take] at this) u.out).mono ?_;rintro p r ⟨rfl,rfl⟩;go_wp2;go_ret;exact ⟨bF (by rw [<-v.out]),rfl⟩
 · have x:decide ((a:Int)<=(d:Int))=false:=(by simp;omega);have j:c.isPrefixOf b=false:=by
    cases e:c.isPrefixOf b with
    | false=>rfl
    | true=>
      have:=(List.isPrefixOf_iff_prefix.1 e).length_le;omega
   clear g i q n;go_enter func120,ntmps120;go_wp2;go_ret;exact ⟨bF (by simp [j]),rfl⟩
theorem fI (g:Nat) (l:Option Addr) (c m:Nat) (a b:Int) (e:World) (q:e.cell? g=some (.slice l c m)) (s:c<=1099511627776) (t:-9223372036854775808<=a/\a<=9223372036854775807) (r:-9223372036854775808<=b/\b<=9223372036854775807):
 Calls prog 65 #[g,.int .i64 a,.int .i64 b] e fun o p=>o=.returned (.bool (dL c a b))/\e=p:=by
 unfold dL;by_cases i:0<=a
 · by_cases j:0<=b
   · by_cases k:a<=(c:Int)
     · have d:decide (a>=0)=true:=(by simp;omega);have f:decide (b>=0)=true:=(by simp;omega);have n:decide (a<=(c:Int))=true:=(by simp;omega);go_enter func65,ntmps65;go_wp2;go_ret;exact ⟨bF (by simp [i,j,k]),rfl⟩
     · have d:decide (a>=0)=true:=(by simp;omega);have f:decide (b>=0)=true:=(by simp;omega);have n:decide (a<=(c:Int))=false:=(by simp;omega);go_enter func65,ntmps65;go_wp2;go_ret;exact ⟨bF (by simp [k]),rfl⟩
   · have d:decide (a>=0)=true:=(by simp;omega);have f:decide (b>=0)=false:=(by simp;omega);go_enter func65,ntmps65;go_wp2;go_ret;exact ⟨bF (by simp [j]),rfl⟩
 · have d:decide (a>=0)=false:=(by simp;omega);go_enter func65,ntmps65;go_wp2;go_ret;exact ⟨bF (by simp [i]),rfl⟩
def plV (g e b:Nat) (f:List UInt8):Value->World->Prop:=fun _ d=>∃a c,Bk d g 63 #[.slice a b c]/\Made d e 5 1 a b c (f.map bv)
theorem yZ (i d e:Nat) (f:List UInt8):Stb (plV i d e f):=fun _ _ _ ⟨c,g,a,j⟩ b=>⟨c,g,Bk.below a b a.lt,j.below b⟩
theorem Rd.made3 {c:World} {b:Nat} {e:TypeId} {a:Array Value} (d:Bk c b e a) {n:Nat} (f:a.size=n:=by rfl):Rd c c.heap.size 1 (some ⟨b,0,none⟩) n a.toList:=by
 refine ⟨by simp [f],fun _=>⟨b,0,rfl,d.lt,fun i j g=>?_⟩⟩;rw [zBh,d.cell i];rw [<-g];simp
theorem Rd.keepF {i:Nat->Prop} {e f:World} {g q c:Nat} {a:Option Addr} {r:List Value} (l:Rd e g q a c r) (o:Keep i e f) (w:g<=e.heap.size) (t:0 < c->∀j,a=some j->¬i j.block):Rd f f.heap.size q a c r:=
 ⟨l.1,fun m=>by
   obtain ⟨b,d,k,x,s⟩:=l.2 m;exact ⟨b,d,k,by have:=o.size;omega,fun n v u=>(o.cell (p:=⟨b,d+n,none⟩) (by simp only;omega) (by exact t m ⟨b,d,none⟩ k)).trans (s n v u)⟩⟩
theorem jW (b:Nat) (d r:Option Addr) (f a s w g A t R:Nat) (u C v:List UInt8) (m:World) (z:Bk m b 63 #[.slice d f a]) (a6:Rd m m.heap.size 1 d f (u.map bv)) (a4:0 < f->∀D,d=some D->D.block≠b)
 (ag:f<=a) (a0:Rd m R 1 r s (C.map bv)) (ad:R<=m.heap.size) (a1:0 < s->∀D,r=some D->D.block≠b) (c:Nat) (aO:g+A=c) (a5:c<=f) (W:u.take g++(C++u.drop c)=v) (X:v.length=t) (aM:f<=1099511627776) (aI:t<=1099511627776):
 Calls prog 66 #[b,(g:Int),(A:Int),.slice r s w] m fun V N=>(V=.returned (.tuple #[]))/\Keep (fun e=>e=b) m N/\∃O S,Bk N b 63 #[.slice O t S]/\Made N m.heap.size 5 1 O t S (v.map bv):=by
 have a2:=z.lt;have Z:bQ [⟨cC d a 0 1,g,a,u.take g⟩,⟨r,s,w,C⟩,⟨cC d a c 1,f - c,a - c,u.drop c⟩]=v:=by rw [<-W];simp [bQ]
 have a8:∀i,Keep (fun e=>e=b) m i->∀L∈([⟨cC d a 0 1,g,a,u.take g⟩,⟨r,s,w,C⟩,⟨cC d a c 1,f - c,a - c,u.drop c⟩]:List MoSl),Rd i i.heap.size 1 L.A L.n (L.l.map bv):=by
  intro i a3 L y;have a7:=Rd.keepF a6 a3 nL a4;have ae:=Rd.keepF a0 a3 ad a1;have T:=a7.cut_hi0 (k:=g) (cap:=a) oM;have U:=a7.cut (k:=c) (cap:=a) a5 ag;rw [zBk,<-List.map_take] at T;rw [zBk,<-List.map_drop] at U;rcases List.mem_cons.1 y with rfl | y;exact T;rcases List.mem_cons.1 y with rfl | y;exact ae;rcases List.mem_cons.1 y with rfl | y;exact U
  · cases y
 have aK:=hQ (P:=prog) 22 5 1 underlying22 fU d f a g oM;have aL:=eO (P:=prog) 22 5 1 underlying22 fU d f a c a5;obtain ⟨ac,ab,aa⟩:=hqq3 a8 Z X;clear a8 Z X W a6 a0 a4 a1;go_enter func66,ntmps66;go_wp2;refine wp_region_any kR ?_;refine bB [8,9,10,11,12,13,14,15,16,17,18,19,20,21,22,23,24,25,26,27] (fun e=>e=b) 20 [4,11,20] (fun w1=>Bk w1 b 63 #[.slice d f a]) (plV b m.heap.size t v) [is b,is b,is b,is b,is (.slice d f a),is (g:Int),is (.slice (cC d a 0 1) g a),is (.slice r s w),is b,is b,is b,is (.slice d f a),is (g:Int),is (A:Int),is (c:Int),is (.slice (cC d a c 1) (f - c) (a - c)),oS (fun e=>e=b) 22 #[.slice (cC d a 0 1) g a,.slice r s w,.slice (cC d a c 1) (f - c) (a - c)] fun M=>.slice (some ⟨M,0,none⟩) 3 3,fV m.heap.size 5 1 t (v.map bv),is b,is b,dJ] _ _ rfl kR kR (z) (fun w1 aQ K _ af=>Bk.below K af K.lt) (yZ _ _ _ _) (by repeat' (first | exact eS _ _ | exact dN _ | exact jV _ _ _ _ | exact gN (fun e z=>by subst z;exact a2) _ _ _ _ |(refine zAe.2 ⟨?_,?_⟩)|(intro g ah;cases ah))) ?_ ?_
 · refine aG ?_;refine pH3 0 (.pointer (some b)) ?_;refine pH3 0 (.pointer (some b)) ?_;refine pV3 1 9 ?_;refine pV3 2 10 ?_;refine sC3 (fun _ i _ G _ _ _ j _ _ _ q=>?_) ?_
   · have x:=G rfl;have aq:_=_:=j 3 11 kR rfl;have an:i.cell? b=some (.slice d f a):=(x.cell 0).trans rfl;go_simp;exact kq q rfl
   refine pH3 1 (.int .i64 (g:Int)) ?_;refine pW3 4 12 5 13 ?_;refine pH3 3 (.slice r s w) ?_;refine pH3 0 (.pointer (some b)) ?_;refine pV3 8 16 ?_;refine pV3 9 17 ?_;refine sC3 (fun _ i _ G _ _ _ j _ _ _ q=>?_) ?_
   · have x:=G rfl;have av:_=_:=j 10 18 kR rfl;have ao:i.cell? b=some (.slice d f a):=(x.cell 0).trans rfl;go_simp;exact kq q rfl
   refine pH3 1 (.int .i64 (g:Int)) ?_;refine pH3 2 (.int .i64 (A:Int)) ?_;refine sC3 (fun _ _ _ _ _ _ _ j _ _ _ q=>?_) ?_
   · have aw:_=_:=j 12 20 kR rfl;have ax:_=_:=j 13 21 kR rfl;go_simp;exact q _ _ (aA bR) (cS (by rw [IntKind.wrap_i64];omega))
   refine pW3 11 19 14 22 ?_;refine sC3 (fun _ i o _ _ _ _ j _ _ _ q=>?_) ?_
   · replace o:Keep (fun e=>e=b) m i:=kD o;have ar:_=_:=j 6 14 kR rfl;have au:_=_:=j 7 15 kR rfl;have ay:_=_:=j 15 23 kR rfl;go_simp;exact q _ _ (aA (bR.alloc nL _)) ⟨_,rfl,Bk.new _ _ _,fun K=>by have:=o.size;have aH:i.heap.size=b:=K;omega⟩
   refine sC3 (fun J i o _ _ _ _ j _ _ _ q=>?_) ?_
   · replace o:Keep (fun e=>e=b) m i:=kD o;have aj:(oS (fun e=>e=b) 22 #[.slice (cC d a 0 1) g a,.slice r s w,.slice (cC d a c 1) (f - c) (a - c)] fun M=>.slice (some ⟨M,0,none⟩) 3 3) (J (.tmp 24)) i:=j 16 24 kR rfl;obtain ⟨aF,az,H,aN⟩:=aj;have ai:=Rd.made3 (n:=3) H;have aJ:=o;go_simp;refine (qB _ _ _ i.heap.size [⟨cC d a 0 1,g,a,u.take g⟩,⟨r,s,w,C⟩,⟨cC d a c 1,f - c,a - c,u.drop c⟩] v t ab.out aa.out i ai (ac.out i o) nL oM oM).mono ?_;rintro V aR ⟨B,E,rfl,I,H⟩;exact q _ _ (aA H) ⟨B,E,rfl,I.mono o.size⟩
   refine pV3 0 8 ?_;refine pV3 18 26 ?_;refine sC3 (fun J i _ G _ _ _ j _ _ _ q=>?_) ?_
   · have x:=G rfl;have aD:_=_:=j 19 27 kR rfl;have ak:(fV m.heap.size 5 1 t (v.map bv)) (J (.tmp 25)) i:=j 17 25 kR rfl;obtain ⟨B,E,aB,I⟩:=ak;have ap:i.cell? b=some (.slice d f a):=(x.cell 0).trans rfl;have aE:=x.frozen 0;go_simp;refine q (.bool true) _ (aV (Keep.setCell (F:=fun e=>e=b) (Keep.refl _ _) (p:=b) (.inl rfl) _)) ⟨B,E,?_,?_⟩;exact x.set 0 _;exact I.keepF (Keep.setCell (F:=fun e=>e=b) (Keep.refl _ _) (p:=b) (.inl rfl) _) (fun e z=>by subst z;exact a2)
   exact aC
 · intro J a9 o j Y;replace o:Keep (fun e=>e=b) m a9:=kD o;obtain ⟨aP,al⟩:∃am,(plV b m.heap.size t v) am a9:=Y 20 dC;simp only [zqq];clear j Y;obtain ⟨B,E,H,I⟩:=al;go_wp2;exact bodyPost_end (results_none rfl _ _ _) rfl ⟨rfl,o,B,E,H,I⟩
end
end Go.Proofs.YtihaijbgmjdhgaaGreatDoor
