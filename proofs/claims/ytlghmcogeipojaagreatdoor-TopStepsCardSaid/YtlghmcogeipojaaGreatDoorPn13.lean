/- Lemmas of the walk. Conditions: each its own. -/
import Derived.Test.YtlghmcogeipojaaGreatDoorPn12
set_option linter.all false
set_option maxRecDepth 100000
set_option maxHeartbeats 8000000
open Go.Proofs.Tryz
namespace Go.Proofs.YtlghmcogeipojaaGreatDoor
open Go.RowKit
def ResM (w:World) (b0:Nat) (b:List Value) (a:Nat) (r:Told):Prop:=
 ∃c e d f,b[a*4]?=some (.int .i64 r.code)/\b[a*4+1]?=some (.int .i64 r.num)/\b[a*4+2]?=some (.slice c r.data.length e)/\b[a*4+3]?=some (.slice d r.places.length f)/\Made w b0 5 1 c r.data.length e (r.data.map bv)/\Made w b0 3 1 d r.places.length f (r.places.map nv)
def Made.same {w w' c n f b A g} (e:Made w c b 1 A n f g) (l:∀a d,c<=a->Bk w a b d->Bk w' a b d):Made w' c b 1 A n f g:=by
 have i:w'.ownsRow c b 1 (.slice A n f) n g:=aC e.own λa d k j=>l a d (e.own.lt a k).1 j;exact ⟨i,Rd.s i,e.cap,e.max⟩
def ResM.same {w w' b0 g f r} (m:ResM w b0 g f r) (q:∀a c b,b0<=a->c=5∨c=3->Bk w a c b->Bk w' a c b):ResM w' b0 g f r:=by
 obtain ⟨i,k,j,l,o,p,s,t,u,x⟩:=m;exact ⟨i,k,j,l,o,p,s,t,u.same λa b e d=>q a _ b e (.inl rfl) d,x.same λa b e d=>q a _ b e (.inr rfl) d⟩
def ResM.more {w b0 a f e r} (l:ResM w b0 a e r):ResM w b0 (a++f) e r:=by
 obtain ⟨g,j,i,k,m,o,p,s,t⟩:=l;have q:∀(b:Nat) (c:Value),a[b]?=some c->(a++f)[b]?=some c:=λb c d=>by rw [zAn (zAc.1 d).1];exact d
 exact ⟨g,j,i,k,q _ _ m,q _ _ o,q _ _ p,q _ _ s,t⟩
section
variable {w w' : World} {b0 B gs n q : Nat} {own own' : Nat -> Nat} {v : Value} {R : Nat -> Told} {L : List Sp} {aA : Int}
def AnsAt (w:World) (b0:Nat) (v:Value) (n:Nat) (R:Nat->Told):Prop:=∃b,w.ownsRow b0 29 4 v n b/\∀a,a < n->ResM w b0 b a (R a)
def AnsAt.same (i:AnsAt w b0 v n R) (g:∀a b c,b0<=a->b=29∨b=5∨b=3->Bk w a b c->Bk w' a b c):AnsAt w' b0 v n R:=by
 obtain ⟨m,f,j⟩:=i;exact ⟨m,aC f λa c e d=>g a _ c (f.lt a e).1 (.inl rfl) d,λl k=>(j l k).same λa b c e ht d=>g a b c e (.inr ht) d⟩
def AnsAt.below (b:AnsAt w b0 v n R) (c:Below w.heap.size w w'):AnsAt w' b0 v n R:=b.same λe f d _ _ a=>a.below c a.lt
def AnsAt.keep {gx a d} (e:AnsAt w b0 v n R) (g:Keep (λc=>c=gx) w w') (f:Bk w gx a d) (k:29≠a) (l:5≠a) (m:3≠a):AnsAt w' b0 v n R:=
 e.same λj o i _ ht b=>g.d b (Bk.ne b f (by rcases ht with rfl | rfl | rfl <;> assumption))
def AnsAt.slice (d:AnsAt w b0 v n R):∃A a,v=.slice A n a/\n<=a/\a<=maxLen:=by
 obtain ⟨f,e,_⟩:=d;obtain ⟨A,a,c,b⟩:=aR e;exact ⟨A,a,c,b.cap,b.max⟩
def AnsAt.get {A i} (j:AnsAt w b0 (.slice A n i) n R) (s:0 < n):∃a b,A=some ⟨a,b,none⟩/\a < w.heap.size/\∀k,k < n->∃c e d f,w.cell? ⟨a,b+k*4,none⟩=some (.int .i64 (R k).code)/\w.cell? ⟨a,b+k*4+1,none⟩=some (.int .i64 (R k).num)/\w.cell? ⟨a,b+k*4+2,none⟩=some (.slice c (R k).data.length e)/\w.cell? ⟨a,b+k*4+3,none⟩=some (.slice d (R k).places.length f)/\Made w b0 5 1 c (R k).data.length e ((R k).data.map bv)/\Made w b0 3 1 d (R k).places.length f ((R k).places.map nv):=by
 obtain ⟨D,l,m⟩:=j;obtain ⟨a,b,rfl,o,g⟩:=(Rd.s l).2 s;refine ⟨a,b,rfl,o,λk p=>?_⟩;obtain ⟨c,e,d,f,x,y,z,C,t,u⟩:=m k p;exact ⟨c,e,d,f,g _ _ x,g _ _ y,g _ _ z,g _ _ C,t,u⟩
def AnsAt.da {b} (g:w'.ownsRow w.heap.size 29 4 v q b) (i:∀a,a < q->ResZ w' own' gs b a (R a)):AnsAt w' 0 v q R:=
 ⟨b,cG g (zAp _),λa j=>by
  obtain ⟨c,e,d,f,m,o,p,s,k,l⟩:=i a j;exact ⟨c,e,d,f,m,o,p,s,k.1,l.1⟩⟩
end
def txM (aA:Int) (L:List Sp):Nat->List UInt8
 | 0=> []
 | k+1=>match L[k]? with
  | some a=>(doM (txM aA L k) aA a.kind a.p a.k a.D).1
  | none=>txM aA L k
def anM (aA:Int) (L:List Sp) (b:Nat):Told:=match L[b]? with
 | some a=>(doM (txM aA L b) aA a.kind a.p a.k a.D).2
 | none=>⟨0,0, [], []⟩
def aO9 {aA L b a} (c:L[b]?=some a):doM (txM aA L b) aA a.kind a.p a.k a.D=(txM aA L (b+1),anM aA L b):=by
 simp only [txM,anM,c]
def aHG (aA:Nat) (L:List Sp):∀a,(txM (aA:Int) L a).length<=aA
 | 0=>zAp _
 | a+1=>by have b:=aHG aA L a;unfold txM;split;exact aEZ _ _ aA _ _ _ b;exact b
section
variable {w w' : World} {v vl : Value} {B gs gl gx N0 N2 aA rate q : Nat} {own own' : Nat -> Nat} {T T2 : List UInt8} {r : Told} {L : List Sp}
def RdN.b {k l n A f} (a:RdN w k l A n f) (j:Vis w w'):RdN w' k l A n f:=by
 rcases zBa n with b | b;subst b;have:f= []:=(by simpa using a.1.1);subst this;exact RdN.nil _ _ _ _;obtain ⟨c,C,rfl,u,x⟩:=a.1.2 b;obtain ⟨t,m,o,s,g,d⟩:=a.2 b _ rfl;have i:w'.heap[c]?=w.heap[c]?:=j.same g (λp=>p) (by rcases d with rfl | rfl <;> decide) (by rcases d with rfl | rfl <;> decide);refine ⟨⟨a.1.1,λ_=>⟨c,C,rfl,zAl u j.size,λz D y=>by rw [<-x z D y];exact zDd i⟩⟩,λ_ E e=>?_⟩;injection e with e;subst e;exact ⟨t,m,o,s,i.trans g,d⟩
def PyB.b (f:PyB gx N0 aA T2 r v w) (a:Vis w w'):PyB gx N0 aA T2 r v w':=by
 obtain ⟨b,d,c,e,g,i,j,k⟩:=f;exact ⟨b,d,c,e,g,i.b a,a.made j dC dC,a.d k dC dC⟩
section
variable {own1 : Nat -> Nat} {A : Option Addr} {n : Nat}
structure FrT (w w':World) (B:Nat) (own:Nat->Nat) (gs:Nat):Prop where
 size:w.heap.size<=w'.heap.size
 H:∀b,b < B->w'.heap[b]?=w.heap[b]?
 same:∀b cs t fr,Ap own gs b->t=32∨t=5->w.heap[b]?=some (.cells cs t fr)->w'.heap[b]?=w.heap[b]?
def FrT.refl (w B own gs):FrT w w B own gs:=⟨zAs _,λ_ _=>rfl,λ_ _ _ _ _ _ _=>rfl⟩
def FrT.trans {w1} (b:FrT w w1 B own gs) (g:FrT w1 w' B own gs):FrT w w' B own gs:=⟨zAk b.size g.size,λa j=>(g.H a j).trans (b.H a j),λa c i d e ht f=>(g.same a c i d e ht ((b.same a c i d e ht f).trans f)).trans (b.same a c i d e ht f)⟩
def FrT.j (b:Below w.heap.size w w') (hB:B<=w.heap.size):FrT w w' B own gs:=⟨b.size,λa f=>b.block a oM,λa d g e _ _ c=>b.block a (zAh.1 c).1⟩
def FrT.C (a:VB B w w') (hB:B<=w.heap.size):FrT w w' B own gs:=⟨a.1.size,λb d=>(VB.e a hB).block b d,λb f i g _ ht e=>a.1.same e (λc=>c) (by rcases ht with rfl | rfl <;> decide) (by rcases ht with rfl | rfl <;> decide)⟩
def FrT.O {g} (d:Keep (λb=>b=gx) w w') (hB:B<=w.heap.size) (k:B<=gx) (a:Bk w gx 35 g):FrT w w' B own gs:=⟨d.size,λb a=>d.block b oM (λc=>by have e:b=gx:=c;omega),λb i l j _ ht f=>d.block b (zAh.1 f).1 (λc=>by
 have e:b=gx:=c;subst e;unfold Bk at a;rw [f] at a;injection a with a;injection a with _ a;rcases ht with rfl | rfl <;> revert a <;> decide)⟩
def FrT.cj (b:LFS B gs w w' own own') (hB:B<=w.heap.size):FrT w w' B own gs:=⟨b.size,λc e=>(b.below hB).block c e,λc g j i d ht f=>b.b.same f (λa=>a.elim (λa=>a d.x) d.ne) (by rcases ht with rfl | rfl <;> decide) (by rcases ht with rfl | rfl <;> decide)⟩
def ArgZ.a7 {d} (b:ArgZ w B own gs A n d) (g:FrT w w' B own gs):ArgZ w' B own gs A n d:=by
 rcases zBa n with c | c;subst c;have:d= []:=(by simpa using b.1.1);subst this;exact ⟨Rd.nil _ _ _ _,λo=>absurd o oM⟩;obtain ⟨a,t,rfl,l,m⟩:=b.1.2 c;have k:w'.heap[a]?=w.heap[a]?:=(by rcases b.2 c _ rfl with q |⟨q,i,j,e⟩;exact g.H a q;exact g.same a _ _ _ q (.inr rfl) e);refine ⟨⟨b.1.1,λ_=>⟨a,t,rfl,zAl l g.size,λs u p=>by rw [<-m s u p];exact zDd k⟩⟩,λ_ x f=>?_⟩;injection f with f;subst f;rcases b.2 c _ rfl with q |⟨q,i,j,e⟩;exact .inl q;exact .inr ⟨q,i,j,k.trans e⟩
def StpZ.a7 (g:StpZ w B own gs A n L) (c:FrT w w' B own gs):StpZ w' B own gs A n L:=by
 refine ⟨g.1,λk=>?_⟩;obtain ⟨a,C,rfl,t,hB,u⟩:=g.2 k;have b:w'.heap[a]?=w.heap[a]?:=by rcases hB with q |⟨q,e,f,d⟩;exact c.H a q;exact c.same a _ _ _ q (.inl rfl) d
 refine ⟨a,C,rfl,zAl t c.size,?_,λy D x=>?_⟩;rcases hB with q |⟨q,e,f,d⟩;exact .inl q;exact .inr ⟨q,e,f,b.trans d⟩
 .obtain ⟨i,z,j,l,m,o,p,s⟩:=u y D x;exact ⟨i,z,j,(zDd b).trans l,(zDd b).trans m,(zDd b).trans o,(zDd b).trans p,s.a7 c⟩
end
section
variable {A3 : Option Addr}
def QdA (B gs gx N0 aA rate:Nat) (A3:Option Addr) (q:Nat) (L:List Sp) (T2:List UInt8) (r:Told) (v:Value) (w:World):Prop:=∃own1 e,StAt w B own1 gs e aA rate T2/\Ap own1 gs gx/\StpZ w B own1 gs A3 q L/\∃a c b d,v=.agg (iD r a c b d)/\Made w N0 5 1 a r.data.length c (r.data.map bv)/\Made w N0 3 1 b r.places.length d (r.places.map nv)
def QdA.below (i:QdA B gs gx N0 aA rate A3 q L T2 r v w) (a:Below w.heap.size w w'):QdA B gs gx N0 aA rate A3 q L T2 r v w':=by
 obtain ⟨own1,g,b,j,o,c,e,d,f,k,l,m⟩:=i;exact ⟨own1,g,b.G (kb a),j,o.a7 (FrT.j a b.size),c,e,d,f,k,l.below a,m.below a⟩
def QdA.keep (o:QdA B gs gx N0 aA rate A3 q L T2 r v w) (c:Keep (λa=>a=gx) w w') (z:gx < N0) (x:B<=gx) {l} (y:Bk w gx 35 l):QdA B gs gx N0 aA rate A3 q L T2 r v w':=by
 obtain ⟨own1,m,e,f,u,g,j,i,k,p,s,t⟩:=o;exact ⟨own1,m,e.m c (λa b=>by have d:a=gx:=b;rw [d];exact f),f,u.a7 (FrT.O c e.size x y),g,j,i,k,p,s.o c (λa b=>by have d:a=gx:=b;omega),t.o c (λa b=>by have d:a=gx:=b;omega)⟩
def QdA.b (i:QdA B gs gx N0 aA rate A3 q L T2 r v w) (a:VB B w w'):QdA B gs gx N0 aA rate A3 q L T2 r v w':=by
 obtain ⟨own1,g,b,j,o,c,e,d,f,k,l,m⟩:=i;exact ⟨own1,g,b.G a.1,j,o.a7 (FrT.C a b.size),c,e,d,f,k,a.1.made l dC dC,a.1.made m dC dC⟩
def QdS (B gs gx:Nat) (own:Nat->Nat) (aA rate:Nat) (T2:List UInt8) (a:Nat) (w w':World):Prop:=(a=5->DoS B gs own aA rate T2 w w')/\(a=11->Keep (λb=>b=gx) w w'/\MdX w' gx aA T2)/\(a=20->VB B w w')/\(a≠5->a≠11->a≠20->Below w.heap.size w w')
def QdC (a:World) (B gs gx N0 aA:Nat) (own:Nat->Nat) (w:World):Prop:=Below B a w/\B<=w.heap.size/\N0<=w.heap.size/\FrT a w B own gs/\∃b,MdX w gx aA b
def QdU (B gs gl gx:Nat) (own:Nat->Nat) (aA rate:Nat) (T:List UInt8) (a:Nat) (w:World):Prop:=(a=5->StAt w B own gs gl aA rate T)/\(a=11->MdX w gx aA T)
def QdC.step {o k} (z:QdC o B gs gx N0 aA own w) (l:QdS B gs gx own aA rate T2 k w w') (p:Ap own gs gx) (C:B<=gx):QdC o B gs gx N0 aA own w':=by
 obtain ⟨f,a,g,i,m,c⟩:=z;by_cases s:k=5;obtain ⟨own',F,_,d⟩:=l.1 s;exact ⟨f.trans (d.below a),zAk a d.size,zAk g d.size,i.trans (FrT.cj d a),m,d.d c p.x p.ne dC dC⟩;by_cases t:k=11;obtain ⟨j,D⟩:=l.2.1 t;exact ⟨f.trans (j.e a λx b y=>by have E:x=gx:=y;omega),zAk a j.size,zAk g j.size,i.trans (FrT.O j a C c),T2,D⟩;by_cases u:k=20;have e:=l.2.2.1 u;exact ⟨f.trans (VB.e e a),zAk a e.1.size,zAk g e.1.size,i.trans (FrT.C e a),m,e.1.d c dC dC⟩;have b:=l.2.2.2 s t u;exact ⟨f.trans (b.mono a),zAk a b.size,zAk g b.size,i.trans (FrT.j b a),m,kf c b (Bk.lt c)⟩
def QdC.drew {a} (d:QdC a B gs gx N0 aA own w):QdC a B gs gx N0 aA own w.drew:=by
 obtain ⟨e,b,f,g,c,i⟩:=d;exact ⟨e.trans (dD w B),b,f,g.trans (FrT.j (dD w _) b),c,i⟩
def QdU.drew {c} (b:QdU B gs gl gx own aA rate T c w):QdU B gs gl gx own aA rate T c w.drew:=⟨λa=>(b.1 a).G (kb (dD _ _)),λa=>b.2 a⟩
def QdU.step {b c} (d:QdU B gs gl gx own aA rate T b w) (f:QdS B gs gx own aA rate T2 c w w') (g:Ap own gs gx) (j:b≠c) (k:b=5->c≠11) (l:b=5->c≠20) (m:b=11->c≠20):QdU B gs gl gx own aA rate T b w':=by
 refine ⟨λa=>?_,λa=>?_⟩;exact (d.1 a).G (kb (f.2.2.2 (λe=>j (a.trans e.symm)) (k a) (l a)));by_cases i:c=5;obtain ⟨own',s,_,p⟩:=f.1 i;exact p.d (d.2 a) g.x g.ne dC dC;have o:=f.2.2.2 i (λe=>j (a.trans e.symm)) (m a);exact kf (d.2 a) o (Bk.lt (d.2 a))
def dS {b} (c:b≠5) (d:b≠11) (e:b≠20) (f:Below w.heap.size w w'):QdS B gs gx own aA rate T2 b w w':=⟨λa=>absurd a c,λa=>absurd a d,λa=>absurd a e,λ_ _ _=>f⟩
def aKP (j:Ap own gs gx) (s:gx < w.heap.size) (f:N0<=w.heap.size) (t:StpZ w B own gs A3 q L) (p:StDone w B own gs aA rate T2 r (.returned v) w'):QdA B gs gx N0 aA rate A3 q L T2 r v w'/\QdS B gs gx own aA rate T2 5 w w':=by
 obtain ⟨g,k,i,l,own',d,c,e,b,m,o,_,_⟩:=p;injection c with c;exact ⟨⟨own',d,e,j.step b s,t.step b,g,k,i,l,c,m.mono f,o.mono f⟩,λ_=>⟨own',d,e,b⟩,λa=>absurd a dC,λa=>absurd a dC,λa=>absurd rfl a⟩
def aKO (d:N0<=w.heap.size) (l:fP gx (aA:Int) T2 r w w' (.returned v)):PyB gx N0 aA T2 r v w'/\QdS B gs gx own aA rate T2 11 w w':=by
 obtain ⟨e,g,f,i,b,m,j,k,c⟩:=l;injection b with b;exact ⟨⟨e,g,f,i,b,j.mono d,k.mono d,c⟩,λa=>absurd a dC,λ_=>⟨m,c⟩,λa=>absurd a dC,λ_ a=>absurd rfl a⟩
def QdG (B gs gx aA rate:Nat) (T2:List UInt8) (a:Bool) (v:Value) (w:World):Prop:=v=.bool a/\MdX w gx aA T2/\∃own1 b,StAt w B own1 gs b aA rate T2
def QdG.b {a} (d:QdG B gs gx aA rate T2 a v w) (b:Vis w w'):QdG B gs gx aA rate T2 a v w':=by
 obtain ⟨e,f,own1,c,g⟩:=d;exact ⟨e,b.d f dC dC,own1,c,g.G b⟩
end
end
def aIH {w B gl gk C rate e own O u T k b} (f:TxM w B own gl gk C rate O (aG u) T e k b) (X:u.length=e) (D:Smp b 0) (H:sX (Smp b) rate e) (M:1<=rate):SampOk b k rate e/\b.length<=1000:=by
 have J:k.length=e+1:=by have E:=f.aa.len;rw [aO] at E;omega
 obtain ⟨S,V,vl,a0,a1,Z,j,x,Y,U,_,F,W,G,g⟩:=f.live.ad;have I:∀a,a < b.length->∃d,b[a]?=some d/\aF b a=d.1/\aS b a=d.2/\d∈b:=λa c=>by refine ⟨b[a],zAa c,?_,?_,zBj c⟩;unfold aF;rw [zAb,zAa c];rfl;unfold aS;rw [zAb,zAa c];rfl
 refine ⟨⟨λa c=>?_,λa c=>?_,D,H,J,M⟩,by rw [g,zBc];exact G⟩;obtain ⟨d,_,y,z,N⟩:=I a c;have t:=f.right d N;obtain ⟨P,Q⟩:=zAc.1 t;rw [y,z];refine ⟨by omega,?_,t⟩;have:=f.aa.lt (p:=d.2) (by rw [<-Q];exact zBj P);rw [aO] at this;omega
 .have o:a < j.length:=(by rw [g,zBc] at c;omega);have s:a+1 < j.length:=(by rw [g,zBc] at c;omega);have K:=zAr.1 F a (a+1) o s oM;have l:∀i (m:i < j.length),aF b i=aF x (j[i]):=λi m=>by unfold aF;rw [zAb,g,zAf,zAa m];rfl
  rw [l a o,l (a+1) s];exact K
def aFJ {gl:Nat} {j b k} {d R i:Nat} {c w} (f:Bk w gl 89 #[j,d,b,k]) (e:PermR w d R i c):
 Calls prog 72 #[gl] w (nN w c):=by
 have o:=f.cell 1;have a:=vM e;unfold nN at a⊢;obtain ⟨n,g⟩:=eqx c.length;rw [g] at a⊢;clear e g f;go_enter func72,ntmps72;go_wp2_with fail;refine a.mono ?_;rintro p s ⟨A,b,rfl,l,m⟩;clear a;go_wp2_with fail;go_ret;exact ⟨A,b,rfl,l,m⟩
def xH (w:World) (rate c:Nat) (f:List Nat) (e:Ending) (w':World):Prop:=∃A d b a,e=.returned (.slice A a d)/\b.length=a/\a<=1000/\SampOk b f rate c/\Rd w' w'.heap.size 2 A a (bU b)/\Below w.heap.size w w'
def TxM.cq {w B gl gk g rate a own t e T d b} (c:TxM w B own gl gk g rate t (aG e) T a d b) (l:e.length=a) (i:Smp b 0) (o:sX (Smp b) rate a) (s:1<=rate):
 Calls prog 72 #[gl] w (xH w rate a d):=by
 obtain ⟨j,k⟩:=aIH c l i o s;refine (aFJ c.live.a c.live.ad).mono ?_;rintro u w' ⟨A,f,rfl,p,m⟩;exact ⟨A,f,b,_,rfl,rfl,k,j,p.rd,m⟩
def aFo {B own gs gl aA rate g f k w} (c:StAt w B own gs gl aA rate f) (i:f.length=g) (o:IsSuf (aG f) k):
 Calls prog 34 #[gs] w (xH w rate g k):=by
 obtain ⟨gk,x,y,T,z,j,a,d,b⟩:=c.live;obtain rfl:=a.aa.unique o;rw [i] at a b;have t:=c.a.cell 0;have e:=a.cq i d b.1 c.r1;unfold xH at e⊢;clear a d b c;go_enter func34,ntmps34;go_wp2_with fail;refine e.mono ?_;rintro u C ⟨A,l,j,s,rfl,a,d,b,m,p⟩;clear e;go_wp2_with fail;go_ret;exact ⟨A,l,j,s,rfl,a,d,b,m,p⟩
def aDI {B own gs gl aA rate f i w} (b:StAt w B own gs gl aA rate i) (g:i.length=f):
 Calls prog 36 #[gs] w (tS w f):=by
 obtain ⟨gk,y,z,T,D,C,a,c,d⟩:=b.live;rw [g] at a;have u:=b.a.cell 0;have k:=b.n127;have e:=a.ch g oM;unfold tS at e⊢;clear a c d b k;go_enter func36,ntmps36;go_wp2_with fail;refine e.mono ?_;rintro x E ⟨A,j,s,t,rfl,a,c,d,l,m,o,p⟩;clear e;go_wp2_with fail;go_ret;exact ⟨A,j,s,t,rfl,a,c,d,l,m,o,p⟩
def aBo {B own gs gl aA rate c w} (b:StAt w B own gs gl aA rate c):
 Calls prog 13 #[gs,.string ⟨c.toArray⟩] w λa w'=>a=.returned (.bool true)/\VB B w w':=by
 obtain ⟨d,g⟩:=eqx c.length;have aP:d<=895:=by rw [<-g];exact b.n127
 have b6:(⟨c.toArray⟩:ByteArray).size=d:=(rW c).trans g;have aR:=b.r1;have ax:=b.r2;have hB:=b.size;obtain ⟨f,e,aN⟩:=hqq3 b g hB;clear b g hB;go_enter func13,ntmps13;go_wp2_with fail;refine (qQ w e.out oM).mono ?_;rintro a w1 ⟨aJ,am,aW,rfl,ac,a4,Y⟩;have af:VB B w w1:=kc Y;obtain ⟨m,D,o⟩:=hqq3 ac a4 af;clear ac a4 af Y;go_wp2_with fail;refine (aA5 (d+1) (f.out.G o.out.1) m.out (by rw [e.out])).mono ?_;rintro a aF ⟨aK,an,rfl,a5,z⟩;have ae:=o.out.trans z;obtain ⟨E,I,Q⟩:=hqq3 (z.1.made D.out dC dC) a5 ae;clear a5 z ae D o;go_wp2_with fail;refine (qR aF e.out oM).mono ?_;rintro a aY ⟨A3,ao,ag,rfl,ad,a6,i⟩;obtain rfl:=ad.unique m.out;obtain ⟨F,J,K,S⟩:=hqq4 ((kb i).made E.out dC dC) ((kb i).made I.out dC dC) a6 (Q.out.trans (kc i));clear ad a6 i E I Q;go_wp2_with fail;refine (xT an ao J.out.rd K.out.rd oM oM).mono ?_;rintro a aZ ⟨rfl,x⟩;have a2:decide (aH (aG c) ag=aH (aG c) ag)=true:=zBz rfl;rw [a2];obtain ⟨G,p⟩:=hqq2 ((kb x).made F.out dC dC) (S.out.trans (kc x));clear a2 x F J K S;go_wp2_with fail;refine (aFo (f.out.G p.out.1) e.out m.out).mono ?_;rintro a b1 ⟨aL,ap,aV,aT,rfl,a7,au,a8,a9,y⟩;obtain ⟨H,s,N,O,M⟩:=hqq5 ((kb y).made G.out dC dC) (p.out.trans (kc y)) a8 a9 a7;clear a7 a8 a9 y G p;go_wp2_with fail;refine (aA3 (f.out.G s.out.1)).mono ?_;rintro a b2 ⟨rfl,rfl⟩;go_wp2_with fail;refine (aFw ap am O.out H.out.rd nL nL M.out rfl au oM ax N.out).mono ?_;rintro a b3 ⟨rfl,a0⟩;have t:=lhd (s.out.trans (kc a0));clear a0 N O M H s;go_wp2_with fail;refine (aDI (f.out.G t.out.1) e.out).mono ?_;rintro a b4 ⟨aM,W,aB,aU,rfl,_,av,aa,⟨aD,R,X,az⟩,a3,aw,a1⟩;obtain ⟨U,l,aj,C⟩:=hqq4 (t.out.trans (kc a1)) aa X a3;clear aa X a3 a1 t;have aq:IntKind.i64.wrap ((d:Int)+1)=((d+1:Nat):Int):=by rw [wI0];omega
 go_wp2_with fail;refine (aJy W R l.out nL oM aD aj.out az C.out).mono ?_;rintro a b5 ⟨rfl,j⟩;obtain ⟨V,P⟩:=hqq2 (U.out.trans (kc j)) (l.out.below j);have ab:=j.size;clear j U l aq;go_wp2_with fail;refine (aKM W P.out ab av (λaC ay=>by have b:=C.out aC ay;have:=b.len;have:=b.leaves;have:=b.nodes;omega)).mono ?_;rintro a aE ⟨⟨al,ai,ah,rfl⟩,Z⟩;obtain ⟨k,ar⟩:=eqx ((eF aB).nodes);rw [ar] at aw⊢;have ak:=lhd (V.out.trans (kc Z));clear Z V P ab;have aQ:∀u,(Instr.field 79 (.agg #[(al:Int),(ai:Int),(ah:Int),(k:Int)]) 3).run prog u=.ok (.int .i64 k) u:=λu=>by kernel_rfl
 go_wp2_with fail;refine (aGw d aE oM).mono ?_;rintro a aX ⟨⟨aI,rfl,aS⟩,rfl⟩;have aO:decide (k<=aI)=true:=zBz oM;go_wp2_with fail;go_ret;exact ⟨rfl,ak.out⟩
def Good (n:Nat) (aA a b c:Int) (d:Nat):Prop:=(a=1/\dK n b 0=true/\¬aA -(n:Int) < d)∨a=2/\dK n b c=true∨a=5/\dK n b c=true∨a=6∨a=7∨a=8
def xF {B:Nat} {own} {gs gl aA rate:Nat} {t D T2 r} {kind p n:Int} {A} {m:Nat} (b:Nat) {w} (a:doM t (aA:Int) kind p n D=(T2,r)) (C:Good t.length (aA:Int) kind p n D.length) (f:StAt w B own gs gl aA rate t) (l:ArgZ w B own gs A m D) (x:m<=1000000) (E:TabW w) (s:0 < B) (u:T2.length<=895):
 Calls prog 7 #[gs,bK kind p n A m b] w (StDone w B own gs aA rate T2 r):=by
 have z:D.length=m:=by simpa using l.1.1
 have y:∀c,LFS B gs w c own own->TabW c:=λc e=>E.below (e.below f.size) s;unfold doM at a;rcases C with ⟨rfl,d,F⟩|⟨rfl,d⟩|⟨rfl,d⟩| rfl | rfl | rfl;rw [zBx rfl,zBw (by rw [d];decide),zBw F] at a;cases a;obtain ⟨g,i,rfl,J,o⟩:=dT d;rw [zBr] at u⊢;have G:=uP (t:=t) D (k:=g) oM;exact fO _ _ n A m b 0 f (.inl rfl) λc j e=>(qL _ g n b false j rfl (l.step e) oM (zBy oM) (λ_=>by rw [<-z,<-G];exact u)).mono λI w' H=>H.2 rfl;rw [zBw dC,zBx rfl,zBw (by rw [d];decide)] at a;cases a;obtain ⟨g,i,rfl,rfl,o⟩:=dT d;rw [zBr,zBr];exact fO _ _ _ A m b 0 f (.inr (.inl rfl)) λc j e=>sR A m b j (y c e) s rfl o;rw [zBw dC,zBw dC,zBx rfl,zBw (by rw [d];decide)] at a;cases a;obtain ⟨g,i,rfl,rfl,o⟩:=dT d;rw [zBr,zBr];exact oT _ _ A m b f ((t.drop g).take i) 0 i (by rw [zAj,zAw];omega) λc j e=>aCD g i j.tp (y c e) s o;rw [zBw dC,zBw dC,zBw dC,zBw dC,zBw dC,zBx rfl] at a;cases a;exact sT p n b f l x;rw [zBw dC,zBw dC,zBw dC,zBw dC,zBw dC,zBw dC,zBx rfl] at a;cases a;exact qM p n b f l x;rw [zBw dC,zBw dC,zBw dC,zBw dC,zBw dC,zBw dC,zBw dC,zBx rfl] at a;cases a;exact aA7 p n A m b f
def xK:List Sp:= [⟨1,0,0, [98,97,110,97,110,97]⟩,⟨6,0,0, [97,110,97]⟩,⟨7,0,0, [97,110,97]⟩,⟨5,1,3, []⟩]
def aOe:txM ((20:Nat):Int) xK 4= [98,97,110,97,110,97]:=by rfl
def aOi:anM ((20:Nat):Int) xK 1=⟨0,2, [], []⟩:=by rfl
def aOh:anM ((20:Nat):Int) xK 2=⟨0,2, [], [1,3]⟩:=by rfl
def aOg:anM ((20:Nat):Int) xK 3=⟨0,0, [97,110,97], []⟩:=by rfl
def aIX {c b} (a:xK[c]?=some b):Good (txM ((20:Nat):Int) xK c).length ((20:Nat):Int) b.kind b.p b.k b.D.length:=by
 rcases c with _ | _ | _ | _ | c;cases a;exact .inl ⟨rfl,by decide,by decide⟩;cases a;exact .inr (.inr (.inr (.inl rfl)));cases a;exact .inr (.inr (.inr (.inr (.inl rfl))));cases a;exact .inr (.inr (.inl ⟨rfl,by decide⟩))
 .simp [xK] at a
def aDs {w B gs a n own b f c} (e:w.heap[a]?=some (.cells b 5 f)) (i:Ap own gs a) (g:b.toList=c.map bv) (j:c.length=n):ArgZ w B own gs (some ⟨a,0,none⟩) n c:=
 ⟨⟨by simp [j],λ_=>⟨a,0,rfl,(zAh.1 e).1,λl o k=>by rw [zBi,cell_of_row w a l b _ f e,<-zDz,g];exact k⟩⟩,λ_ m d=>by
  injection d with d;subst d;exact .inr ⟨i,b,_,e⟩⟩
def nC {w w'} {a:Nat} {c:Obj} (b:w.heap[a]?=some c) (d:Below w.heap.size w w'):w'.heap[a]?=some c:=(d.block a (zAh.1 b).1).trans b
def kC {w} (a4:TabW w):Calls prog 5 #[] w λx w'=>x=.returned (.bool true)/\Below w.heap.size w w':=by
 have ay:=a4.pos;obtain ⟨B,hB⟩:=eqx w.heap.size;have a3:0 < B:=oM;have Z:=lhd hB;clear ay hB;go_enter func5,ntmps5;go_wp2_with fail;refine (nM 20 4 w oM oM oM).mono ?_;rintro x w1 ⟨gs,gl,own,rfl,g,s⟩;rw [Z.out] at g s;obtain ⟨c,i⟩:=eqx (w1.alloc (.cells #[.int .u8 98,.int .u8 97,.int .u8 110,.int .u8 97,.int .u8 110,.int .u8 97] 5 (6,7)));obtain ⟨d,j⟩:=eqx (c.alloc (.cells #[.int .u8 97,.int .u8 110,.int .u8 97] 5 (3,4)));obtain ⟨wc,k⟩:=eqx (d.alloc (.cells #[.int .u8 97,.int .u8 110,.int .u8 97] 5 (3,4)));obtain ⟨o,O⟩:∃o:Array Value,#[.int .i64 1,.int .i64 0,.int .i64 0,.slice (some w1.heap.size) 6 6,.int .i64 6,.int .i64 0,.int .i64 0,.slice (some c.heap.size) 3 3,.int .i64 7,.int .i64 0,.int .i64 0,.slice (some d.heap.size) 3 3,.int .i64 5,.int .i64 1,.int .i64 3,.slice none 0 0]=o:=⟨_,rfl⟩;obtain ⟨t,e⟩:=eqx (wc.alloc (.cells o 32));have K:Below w1.heap.size w1 c:=by rw [<-i];exact bR.alloc nL _
 have u:Below c.heap.size c d:=by rw [<-j];exact bR.alloc nL _
 have l:Below d.heap.size d wc:=by rw [<-k];exact bR.alloc nL _
 have m:Below wc.heap.size wc t:=by rw [<-e];exact bR.alloc nL _
 have ad:c.heap[w1.heap.size]?=some (.cells #[.int .u8 98,.int .u8 97,.int .u8 110,.int .u8 97,.int .u8 110,.int .u8 97] 5 (6,7)):=by rw [<-i];exact heap_alloc_new w1 _
 have af:d.heap[c.heap.size]?=some (.cells #[.int .u8 97,.int .u8 110,.int .u8 97] 5 (3,4)):=by rw [<-j];exact heap_alloc_new c _
 have ah:wc.heap[d.heap.size]?=some (.cells #[.int .u8 97,.int .u8 110,.int .u8 97] 5 (3,4)):=by rw [<-k];exact heap_alloc_new d _
 have a:Bk t wc.heap.size 32 o:=by rw [<-e];exact kd _ _ _
 have f:=K.size;have y:=u.size;have a6:=l.size;have M:=(K.trans (u.mono f)).trans ((l.mono (zAk f y)).trans (m.mono (zAk f (zAk y a6))));have ae:=nC (nC (nC ad u) l) m;have ag:=nC (nC af l) m;have ai:=nC ah m;have aD:=g.a.lt;have p:∀J,w1.heap.size<=J->Ap own gs J:=λJ s=>⟨g.fresh s,by omega⟩;have C:=g.G (kb M);have N:=s.trans (M.mono g.size);have ac:StpZ t B own gs (some ⟨wc.heap.size,0,none⟩) 4 xK:=⟨rfl,λ_=>⟨_,0,rfl,a.lt,.inr ⟨p _ oM,o,_,a⟩,λE Y b=>by
  subst O;rcases E with _ | _ | _ | _ | E;injection b with b;subst b;exact ⟨_,_,_,(a.cell 0).trans rfl,(a.cell 1).trans rfl,(a.cell 2).trans rfl,(a.cell 3).trans rfl,aDs ae (p _ nL) rfl rfl⟩;injection b with b;subst b;exact ⟨_,_,_,(a.cell 4).trans rfl,(a.cell 5).trans rfl,(a.cell 6).trans rfl,(a.cell 7).trans rfl,aDs ag (p _ f) rfl rfl⟩;injection b with b;subst b;exact ⟨_,_,_,(a.cell 8).trans rfl,(a.cell 9).trans rfl,(a.cell 10).trans rfl,(a.cell 11).trans rfl,aDs ai (p _ (zAk f y)) rfl rfl⟩;injection b with b;subst b;exact ⟨_,_,_,(a.cell 12).trans rfl,(a.cell 13).trans rfl,(a.cell 14).trans rfl,(a.cell 15).trans rfl,Rd.nil _ _ _ _,λax=>absurd ax oM⟩
  .cases b⟩⟩
 have aa:Calls prog 14 #[gs,.slice (some wc.heap.size) 4 4] t (aFn t B own gs 20 4 (txM ((20:Nat):Int) xK) (anM ((20:Nat):Int) xK) 4):=
  aJF (anM ((20:Nat):Int) xK) 4 C ac oM λE Y aZ aQ aH aL aG au S aF aE a5=>by have aU:Y.D.length=aG:=(by simpa using a5.1.1);have aW:Y.D.length<=6:=(by have:=zAd S;simp only [xK,zDf,zDh,or_false] at this;rcases this with rfl | rfl | rfl | rfl <;> decide);have aC:Below B w aH:=N.trans (aE.below C.size);exact xF au (aO9 S) (aIX S) aF a5 oM ((show TabW w from a4).below aC a3) a3 (zj (aHG 20 xK (E+1)))
 obtain ⟨G,H,I⟩:=hqq3 i j k;have a1:=e;have a0:=lhd O;clear ac p aD ad af ah a ae ag ai K u l m M f y a6 g s i j k e O;have aj:(convert 22 22 (.slice (some w1.heap.size) 6 6)).run prog (w1.alloc (.cells #[.int .u8 98,.int .u8 97,.int .u8 110,.int .u8 97,.int .u8 110,.int .u8 97] 5))=.ok (.slice (some w1.heap.size) 6 6) (w1.alloc (.cells #[.int .u8 98,.int .u8 97,.int .u8 110,.int .u8 97,.int .u8 110,.int .u8 97] 5 (6,7))):=kU w1 #[.int .u8 98,.int .u8 97,.int .u8 110,.int .u8 97,.int .u8 110,.int .u8 97] 6 6;rw [G.out] at aj;have ak:(convert 22 22 (.slice (some c.heap.size) 3 3)).run prog (c.alloc (.cells #[.int .u8 97,.int .u8 110,.int .u8 97] 5))=.ok (.slice (some c.heap.size) 3 3) (c.alloc (.cells #[.int .u8 97,.int .u8 110,.int .u8 97] 5 (3,4))):=kU c #[.int .u8 97,.int .u8 110,.int .u8 97] 3 3;rw [H.out] at ak;have al:(convert 22 22 (.slice (some d.heap.size) 3 3)).run prog (d.alloc (.cells #[.int .u8 97,.int .u8 110,.int .u8 97] 5))=.ok (.slice (some d.heap.size) 3 3) (d.alloc (.cells #[.int .u8 97,.int .u8 110,.int .u8 97] 5 (3,4))):=kU d #[.int .u8 97,.int .u8 110,.int .u8 97] 3 3;rw [I.out] at al;have i:=G.out;have j:=H.out;have k:=I.out;have e:=a1;rw [<-a0.out] at e;go_wp2_with fail;clear aj ak al i j k e;refine aa.mono ?_;rintro x F ⟨b2,b5,aY,aP,rfl,a8,az,a9,U,a7⟩;rw [aOe] at U;have V:=AnsAt.da a8 a9;obtain ⟨aK,aN,rfl,aV,aR⟩:=V.slice;obtain ⟨aO,aX,aw,aT,z⟩:=V.get oM;subst aw;obtain ⟨_,_,_,_,_,an,_⟩:=z 1 oM;obtain ⟨_,_,aJ,aM,_,_,_,ao,_,W⟩:=z 2 oM;obtain ⟨A3,ar,_,_,_,_,ap,_,X,_⟩:=z 3 oM;rw [aOi] at an;rw [aOh] at ao W;rw [aOg] at ap X;obtain ⟨a2,am,av,aS,Q⟩:=W.rd.2 dC;subst av;have aI:F.cell? ⟨a2,am+0,none⟩=some (.int .i64 1):=Q 0 (.int .i64 1) rfl;have b4:F.cell? ⟨a2,am+1,none⟩=some (.int .i64 3):=Q 1 (.int .i64 3) rfl;rw [zBq] at aI;have b1:(convert 22 9 (.slice A3 3 ar)).run prog F=.ok (.string ⟨#[97,110,97]⟩) F:=(nX (P:=prog) 22 9 5 underlying22 underlying5 underlying9 X.rd).trans rfl;have aB:=N.trans (a7.below C.size);simp only [zCg,zDM,zBi,Nat.reduceAdd,Nat.reduceMul] at an ao ap;clear a8 az a9 a7 V z W X Q C N aa G H I a1 a0;go_wp2_with fail;refine (aBo U).mono ?_;rintro x b3 ⟨rfl,ab⟩;have aq:=(aB.trans (VB.e ab U.size));clear ab;go_wp2_with fail;go_ret;exact ⟨rfl,by rw [Z.out];exact aq⟩
def aMz {j g r l own m b} (v:Rd j g 4 m l (gE b)) (t:b.length=l) (s:∀d∈b,Rd j g 1 d.A d.n (d.D.map bv)) (hB:g<=j.heap.size):StpZ j g own r m l (b.map λd=>⟨d.kind,d.p,d.k,d.D⟩):=by
 refine ⟨by simp [t],λu=>?_⟩;obtain ⟨o,w,q,n,i⟩:=v.2 u;refine ⟨o,w,q,zAl n hB,.inl n,λa d f=>?_⟩;rw [zAf] at f;cases e:b[a]? with
 | none=>rw [e] at f;cases f
 | some k=>
  rw [e] at f;cases f;exact ⟨k.A,k.n,k.c,i (a*4+0) _ ((dF b a 0 _ e oM).trans rfl),i (a*4+1) _ ((dF b a 1 _ e oM).trans rfl),i (a*4+2) _ ((dF b a 2 _ e oM).trans rfl),i (a*4+3) _ ((dF b a 3 _ e oM).trans rfl),ArgZ.H (s k (zAd e)) nL hB⟩
def aDF {aA a} (f n j) {b} (k:TabW b) (p:-9223372036854775808<=aA/\aA<=9223372036854775807) (m:aA < 0∨aA > 2147483648∨a < 1∨a > 64):
 Calls prog 4 #[(aA:Int),(a:Int),.slice f n j] b λc d=>c=.returned (.bool true)/\Below b.heap.size b d:=by
 have e:Calls prog 6 #[(aA:Int),(a:Int)] b λc d=>c=.returned (.tuple #[.pointer none,(1:Int)])/\b=d:=by by_cases i:aA < 0∨aA > 2147483648;exact sQ a b i;obtain ⟨o,rfl⟩:=zDB (show 0<=aA by omega);exact sP (rate:=a) o b oM oM
 go_enter func4,ntmps4;go_wp2_with fail;refine e.mono ?_;rintro c w1 ⟨rfl,rfl⟩;clear e;rcases (show decide (aA < 0)=true∨(decide (aA < 0)=false/\(decide (aA > 2147483648)=true∨(decide (aA > 2147483648)=false/\(decide (a < 1)=true∨(decide (a < 1)=false/\decide (a > 64)=true))))) by
  have:=m;simp only [zCa,decide_eq_false_iff_not];omega) with g |⟨g,g |⟨g1,g |⟨g2,g⟩⟩⟩<;>
 .go_wp2_with fail;refine (kC k).mono ?_;rintro c q ⟨rfl,l⟩;go_wp2_with fail;go_ret;exact ⟨rfl,l⟩
def aBF (aA ah G l u X w) (bs:-9223372036854775808<=aA/\aA<=9223372036854775807) (au:Rd w w.heap.size 4 G l (gE X)) (ar:X.length=l) (a4:∀c∈X,c.bf w) (bt:l<=u) (bm:u<=maxLen) (ac:TabW w):
 Calls prog 4 #[(aA:Int),(ah:Int),.slice G l u] w λf a5=>f=.returned (.bool true)/\Below w.heap.size w a5:=by
 by_cases bj:aA < 0∨aA > 2147483648∨ah < 1∨ah > 64;exact aDF G l u ac bs bj;obtain ⟨j,rfl⟩:=zDB (show 0<=aA by omega);obtain ⟨y,rfl⟩:=zDB (show 0<=ah by omega);have cu:=zn ((j:Int) < 0);have cv:=zn ((j:Int) > 2147483648);have cw:=zn ((y:Int) < 1);have cx:=zn ((y:Int) > 64);have cZ:1<=y:=oM;have d0:y<=64:=oM;have cX:j<=2147483648:=oM;have ci:=ac.pos;obtain ⟨m,hB⟩:=eqx w.heap.size;have am:0 < m:=oM;rw [hB] at au;have bq:=λ(w1:World) (L:Below m w w1)=>aFP u 30 (au.below L) ar (zAk bt bm) (λc N=>zAk (a4 c N).2.2.2.2.1 (a4 c N).2.2.2.2.2);have aN:∀c∈X,Rd w m 1 c.A c.n (c.D.map bv):=λc N=>by have:=(a4 c N).2.2.2.1;rw [hB] at this;exact this
 obtain ⟨J,an⟩:∃J:List Sp,(X.map λc=>(⟨c.kind,c.p,c.k,c.D⟩:Sp))=J:=⟨_,rfl⟩;have bD:∀(a:World) (own:Nat->Nat) (k:Nat),Below m w a->m<=a.heap.size->StpZ a m own k G l J:=λa own k L N=>by rw [<-an];exact aMz (au.below L) ar (λc C=>(aN c C).below L) N
 have bd:J.length=l:=by rw [<-an,zBc,ar]
 have be:∀ab:(∀c∈X,c.n<=60),∀c∈J,(-9223372036854775808<=c.p/\c.p<=9223372036854775807)/\(-9223372036854775808<=c.k/\c.k<=9223372036854775807)/\c.D.length<=60:=λab c N=>by
  rw [<-an] at N;obtain ⟨aC,aw,rfl⟩:=zAy.1 N;refine ⟨(a4 aC aw).2.1,(a4 aC aw).2.2.1,?_⟩;have:=(aN aC aw).1;have:=ab aC aw;simp at*
  omega
 obtain ⟨ai,bN⟩:=hqq2 hB bd;clear ci hB au ar a4 aN bm bt bd an bj bs;go_enter func4,ntmps4;go_wp2_with fail;refine (nM j y w oM oM oM).mono ?_;rintro f w1 ⟨k,b8,az,rfl,S,a1⟩;rw [ai.out] at S a1;have bp:=bq w1 a1;clear bq;go_wp2_with fail;refine bp.mono ?_;clear bp;rintro f aW ⟨rfl,rfl⟩;cases bo:aDf X l 30 with
 | false=>
  go_wp2_with fail;refine (kC ((show TabW w from ac).below a1 am)).mono ?_;rintro f d6 ⟨rfl,bh⟩;have bP:=(a1.trans (bh.mono S.size));clear bh;go_wp2_with fail;go_ret;exact ⟨rfl,by rw [ai.out];exact bP⟩
 | true=>
  obtain ⟨cW,ab⟩:=aCn bo;have bQ:=(be ab);have aI:MdX (w1.alloc (.cells #[.string ⟨#[]⟩,(j:Int)] 35)) w1.heap.size j []:=kd w1 35 #[.string ⟨#[]⟩,(j:Int)];obtain ⟨q,ae⟩:=eqx w1.heap.size;have ba:m<=q:=(by rw [<-ae];exact S.size);have cS:k < q:=(by rw [<-ae];exact S.a.lt);have aK:Below w1.heap.size w1 (w1.alloc (.cells #[.string ⟨#[]⟩,(j:Int)] 35)):=bR.alloc nL _;have aS:=S.G (kb aK);have Q:Ap az k q:=⟨S.fresh oM,by omega⟩;have aJ:=a1.trans (aK.mono S.size);rw [ae] at aI;have b5:=(bD _ az k aJ aS.size);have aZ:=Q;have b2:=lhd ae;clear ab aK Q ae bo S a1 be bD cu cv cw cx;go_wp2_with fail;rw [b2.out];go_loopw [10] (λF wr=>∃(d:Nat) (t:List UInt8) (own:Nat->Nat) (aa:Nat),d<=l/\F=.int .i64 d/\StAt wr m own k aa j y t/\MdX wr q j t/\Ap own k q/\StpZ wr m own k G l J/\Below m w wr) (λF _=>l -(intOf F).toNat)
  case atStart=>exact ⟨0, [],az,b8,zAp _,rfl,aS,aI,aZ,b5,aJ⟩
  case round=>
   clear aS aI aZ b5 aJ b8 az b2 w1;obtain ⟨d,t,own,aa,cT,rfl,ag,R,Q,ax,L⟩:=hrel;obtain ⟨O,c4⟩:=eqx t.length;have aT:=ag.size;have bW:wr.cell? ⟨q,0,none⟩=some (.string ⟨t.toArray⟩):=(Bk.cell R 0).trans rfl;have d7:(⟨t.toArray⟩:ByteArray).size=O:=(rW t).trans c4;by_cases br:d < l/\O < 300
   .obtain ⟨cc,cP⟩:=br;have d3:=zy ((d:Int) < l);have d4:=zy ((O:Int) < 300);obtain ⟨v,E,c1,bk,bi,bl⟩:=ax.2 oM;subst c1;obtain ⟨c,aR⟩:∃c,J[d]?=some c:=⟨_,zAa (by rw [bN.out];exact cc)⟩;obtain ⟨Z,Y,W,aE,aF,aG,b7,a2⟩:=bl d c aR;obtain ⟨aP,aO,bx⟩:=bQ c (zAd aR);obtain ⟨T,U,nd,aD⟩:=c;simp only at aE aF aG a2 aP aO bx;have cd:Y<=60:=(by have:=a2.1.1;simp at this;omega);obtain ⟨z,e,M⟩:∃z e,doM t (j:Int) T U nd aD=(z,e):=⟨_,_,rfl⟩;have bf:z.length<=895:=(by have:=aH6 t aD (j:Int) T U nd;rw [M] at this;simp only at this;omega);have aQ:e.places.length<=1099511627776:=(by have:=tJ t aD (j:Int) T U nd;rw [M] at this;simp only at this;omega);have af:∀a,FrT wr a m own k->a.heap[v]?=wr.heap[v]?:=λa H=>by rcases bi with f |⟨f,bV,c2,a0⟩;exact H.H _ f;exact H.same _ _ _ _ f (.inl rfl) a0
    have aL:∀a,FrT wr a m own k->a.cell? ⟨v,E+d*4,none⟩=some (.int .i64 T)/\a.cell? ⟨v,E+d*4+1,none⟩=some (.int .i64 U)/\a.cell? ⟨v,E+d*4+2,none⟩=some (.int .i64 nd)/\a.cell? ⟨v,E+d*4+3,none⟩=some (.slice Z Y W):=λa H=>
     ⟨(zDd (af a H)).trans aE,(zDd (af a H)).trans aF,(zDd (af a H)).trans aG,(zDd (af a H)).trans b7⟩
    have bn:0 < Y->∀ak,Z=some ak->ak.block≠q:=λc3 ak c7 f=>by rcases a2.2 c3 ak c7 with cA |⟨_,bV,c2,a0⟩;omega;rw [f] at a0;have C:=R;unfold MdX Bk at C;rw [a0] at C;injection C with C;injection C with _ C;revert C;decide
    have a3:∀a,StAt a m own k aa j y t->FrT wr a m own k->Below m wr a->Calls prog 7 #[.pointer (some ⟨k,0,none⟩),.agg #[(T:Int),(U:Int),(nd:Int),.slice Z Y W]] a (StDone a m own k j y z e):=λa H aV bS=>
     aFp W M H (a2.a7 aV) oM ((show TabW w from ac).below (L.trans bS) am) am bf
    have bw:∀a,MdX a q j t->FrT wr a m own k->Calls prog 9 #[.pointer (some ⟨q,0,none⟩),.agg #[(T:Int),(U:Int),(nd:Int),.slice Z Y W]] a λf a5=>fP q (j:Int) z e a a5 f:=λa H aV=>
     aNv W M H (a2.a7 aV).1 nL bn oM oM aP aO oM
    have av:∀a (G a6 a7 a8:Option Addr) (u V a9 P:Nat),Rd a a.heap.size 1 G e.data.length (e.data.map bv)->Rd a a.heap.size 1 a7 e.data.length (e.data.map bv)->Rd a a.heap.size 1 a6 e.places.length (e.places.map nv)->Rd a a.heap.size 1 a8 e.places.length (e.places.map nv)->Calls prog 8 #[.agg #[(e.code:Int),(e.num:Int),.slice G e.data.length u,.slice a6 e.places.length V],.agg #[(e.code:Int),(e.num:Int),.slice a7 e.data.length a9,.slice a8 e.places.length P]] a λf a5=>f=.returned (.bool true)/\Below a.heap.size a a5:=λa G a6 a7 a8 u V a9 P cl cm cn co=>
     (yH e.code e.code e.num e.num u a9 V P cl cm cn co nL nL nL nL aQ aQ).mono (by rintro f a5 ⟨rfl,C⟩;exact ⟨by simp,C⟩)
    obtain ⟨K,ao⟩:=eqx wr.heap.size;have bC:q < K:=(by rw [<-ao];exact Bk.lt R);have aX:Hid (QdC wr m k q K j own wr):=lhd ⟨kg _ _,aT,zCv ao.symm,FrT.refl _ _ _ _,t,R⟩;have aY:Hid (∀F,QdU m k aa q own j y t F wr):=lhd λF=>⟨λ_=>ag,λ_=>R⟩;have b1:=a3;have b3:=av;have d2:(d:Int) < l:=oM;have cR:v < K:=(by rw [<-ao];exact bk);clear ag R aT bl bk bi aR a2 aE aF aG b7 bx cd M aQ aP aO af bn a3 av ao bf;go_wp2_with fail;refine wp_region_any kR<|iG 14 [67,68,69,70,71,72,73,74,75,76,77,78,79,80] (QdC wr m k q K j own) (QdS m k q own j y z) (QdU m k aa q own j y t) (Vs [is (.pointer (some ⟨k,0,none⟩)),is (.slice (some ⟨v,E,none⟩) l u),is (d:Int),is (.pointer (some ⟨v,E+d*4,none⟩)),is (.agg #[(T:Int),(U:Int),(nd:Int),.slice Z Y W]),QdA m k q K j y (some ⟨v,E,none⟩) l J z e,is (.pointer (some ⟨q,0,none⟩)),is (.slice (some ⟨v,E,none⟩) l u),is (d:Int),is (.pointer (some ⟨v,E+d*4,none⟩)),is (.agg #[(T:Int),(U:Int),(nd:Int),.slice Z Y W]),PyB q K j z e,is (.bool true),is (.bool false)]) _ _ rfl dC kR kR aX.drew (λF=>(aY F).drew) (λay w1 aW _ C d=>C.step d Q ba) ?_ ?_ ?_ ?_
    .intro F ay w1 aW cb aq bz ch bb d;refine ch.step d Q aq (λf al=>?_) (λf al=>?_) (λf al=>?_)
     .subst f;subst al;rw [show upB _ _ _ _ _=true from by kernel_rfl] at bz;cases bz
     omega;omega
    .intro F ay bJ w1 aW cb aq bg x bb d;rcases F with _ | _ | _ | _ | _ | _ | _ | _ | _ | _ | _ | _ | _ | _ | F;exact x;exact x;exact x;exact x;exact x;obtain ⟨cy,c6⟩:=bb.2.2.2.2;by_cases b6:ay=11;exact QdA.keep x (d.2.1 b6).1 bC ba c6;exact QdA.below x (d.2.2.2 (λf=>aq f.symm) b6 oM);exact x;exact x;exact x;exact x;exact x
     .by_cases P:ay=5
      .subst P;rw [show aDt _ _ _ _=true from by kernel_rfl] at bg;cases bg
      exact PyB.below x (d.2.2.2 P (λf=>aq f.symm) oM)
     exact x;exact x;exact trivial
    .refine bB<|sC3 (λs _ b i _ _ I _ _ _ _ o=>?_) ?_
     .have cE:s (.tmp 7)=.pointer (some ⟨k,0,none⟩):=I 7 kR;clear i b;go_simp;exact o _ _ (dS dC dC dC bR) rfl
     refine sC3 (λs _ b i _ _ I _ _ _ _ o=>?_) ?_
     .have a0:s (.tmp 2)=.slice (some ⟨v,E,none⟩) l u:=I 2 kR;clear i b;go_simp;exact o _ _ (dS dC dC dC bR) rfl
     refine sC3 (λs _ b i _ _ I _ _ _ _ o=>?_) ?_
     .have bX:s (.tmp 10)=.int .i64 d:=I 10 kR;clear i b;go_simp;exact o _ _ (dS dC dC dC bR) rfl
     refine sC3 (λ_ _ b i _ _ _ r _ _ _ o=>?_) ?_
     .have cC:_=_:=r 1 68 kR rfl;have cD:_=_:=r 2 69 kR rfl;clear i b;go_simp;exact o _ _ (dS dC dC dC bR) rfl
     refine sC3 (λ_ a b i _ _ _ r _ _ _ o=>?_) ?_
     .have cF:_=_:=r 3 70 kR rfl;obtain ⟨bT,u,V,bU⟩:=aL a b.2.2.2.1;clear i b;go_simp;exact o _ _ (dS dC dC dC bR) rfl
     refine sC3 (λ_ a b i _ _ _ r _ _ _ o=>?_) ?_
     .have cB:_=_:=r 0 67 kR rfl;have cG:_=_:=r 4 71 kR rfl;have a3:=b1 a (i.1 rfl) b.2.2.2.1 b.1;have aU:=ax.a7 b.2.2.2.1;have aj:=b.2.2.1;clear i b;go_simp;refine a3.mono ?_;intro f bL ad;cases f with
      | returned bJ=>
       obtain ⟨aH,M⟩:=aKP Q (zAl bC aj) aj aU ad;exact o _ _ M aH
      | _=>obtain ⟨_,_,_,_,_,_,aM,_⟩:=ad;cases aM
     refine sC3 (λs _ b i _ _ I _ _ _ _ o=>?_) ?_
     .have cN:s (.tmp 9)=.pointer (some ⟨q,0,none⟩):=I 9 kR;clear i b;go_simp;exact o _ _ (dS dC dC dC bR) rfl
     refine sC3 (λs _ b i _ _ I _ _ _ _ o=>?_) ?_
     .have a0:s (.tmp 2)=.slice (some ⟨v,E,none⟩) l u:=I 2 kR;clear i b;go_simp;exact o _ _ (dS dC dC dC bR) rfl
     refine sC3 (λs _ b i _ _ I _ _ _ _ o=>?_) ?_
     .have bX:s (.tmp 10)=.int .i64 d:=I 10 kR;clear i b;go_simp;exact o _ _ (dS dC dC dC bR) rfl
     refine sC3 (λ_ _ b i _ _ _ r _ _ _ o=>?_) ?_
     .have cI:_=_:=r 7 74 kR rfl;have cJ:_=_:=r 8 75 kR rfl;clear i b;go_simp;exact o _ _ (dS dC dC dC bR) rfl
     refine sC3 (λ_ a b i _ _ _ r _ _ _ o=>?_) ?_
     .have cK:_=_:=r 9 76 kR rfl;obtain ⟨bT,u,V,bU⟩:=aL a b.2.2.2.1;clear i b;go_simp;exact o _ _ (dS dC dC dC bR) rfl
     refine sC3 (λ_ a b i _ _ _ r _ _ _ o=>?_) ?_
     .have cH:_=_:=r 6 73 kR rfl;have cL:_=_:=r 10 77 kR rfl;have a3:=bw a (i.2 rfl) b.2.2.2.1;have aj:=b.2.2.1;clear i b;go_simp;refine a3.mono ?_;intro f bL ad;cases f with
      | returned bJ=>
       obtain ⟨aH,M⟩:=aKO (B:=m) (gs:=k) (rate:=y) (own:=own) aj ad;exact o _ _ M aH
      | _=>obtain ⟨_,_,_,_,aM,_⟩:=ad;cases aM
     refine sC3 (λs a b i _ _ _ r _ _ _ o=>?_) ?_
     .have cr:(QdA m k q K j y (some ⟨v,E,none⟩) l J z e) (s (.tmp 72)) a:=r 5 72 kR rfl;have cs:(PyB q K j z e) (s (.tmp 78)) a:=r 11 78 kR rfl;obtain ⟨bI,b9,d1,cj,aU,G,u,a6,V,bZ,l,bE⟩:=cr;obtain ⟨a7,a9,a8,P,c0,bF,bH,cQ⟩:=cs;have av:=b3 a G a6 a7 a8 u V a9 P l.rd bF.1 bE.rd bH.rd;unfold iD at bZ c0;clear i b l bE bF bH cj aU;go_simp;refine av.mono ?_;rintro f bL ⟨rfl,ca⟩;exact o _ _ (dS dC dC dC ca) rfl
     refine sC3 (λ_ _ b i _ _ _ r _ _ _ o=>?_) ?_
     .have cM:_=_:=r 12 79 kR rfl;clear i b;go_simp;exact o _ _ (dS dC dC dC bR) rfl
     exact aB
    .intro s bK al bc r;have cq:(QdA m k q K j y (some ⟨v,E,none⟩) l J z e) (s (.tmp 72)) bK:=r 5 72 dC rfl;have cp:(PyB q K j z e) (s (.tmp 78)) bK:=r 11 78 dC rfl;have bY:s (.tmp 80)=.bool false:=r 13 80 dC rfl;simp only [zqq];rw [bY];clear r;refine bG kR ?_;obtain ⟨bI,b9,cg,c8,ck,_⟩:=cq;obtain ⟨_,_,_,_,_,_,_,ce⟩:=cp;have c9:=L.trans bc.1;clear bc aX aY ax aL b1 bw b3 Q L;go_wp2_with fail;go_roundw
     case rel=>exact ⟨d+1,z,bI,b9,by omega,by go_num,cg,ce,c8,ck,c9⟩
     case measure=>exact zr
   .have cf:=ag;have c5:=(show TabW w from ac).below L am;clear Q ax cf;rcases (show decide ((d:Int) < l)=false∨(decide ((d:Int) < l)=true/\decide ((O:Int) < 300)=false) by
     simp only [zCa,decide_eq_false_iff_not];omega) with g |⟨g,g'⟩<;>
    .clear br
     try (have cU:¬d < l:=by simp only [decide_eq_false_iff_not] at g;omega)
     try (have cV:d < l:=by simp only [zCa] at g;omega)
     try (have cY:¬O < 300:=by simp only [decide_eq_false_iff_not] at g';omega)
     go_wp2_with fail;refine (kC c5).mono ?_;rintro f bM ⟨rfl,ap⟩;have bu:MdX bM q j t:=kf R ap (Bk.lt R);have cz:bM.cell? ⟨q,0,none⟩=some (.string ⟨t.toArray⟩):=(Bk.cell bu 0).trans rfl;have b4:=(ag.G (kb ap));have b0:=(L.trans (ap.mono aT));clear ap bu bW;by_cases cO:O > 200
     .have ct:=zy ((O:Int) > 200);go_wp2_with fail;go_ret;exact ⟨rfl,by rw [ai.out];exact b0⟩
     .first
       |(exfalso;omega)
       |(have ct:=zn ((O:Int) > 200)
         go_wp2_with fail;refine (aBo b4).mono ?_;rintro f d5 ⟨rfl,bA⟩;have bO:=(b0.trans (VB.e bA b4.size));clear bA;go_wp2_with fail;go_ret;exact ⟨rfl,by rw [ai.out];exact bO⟩)
end Go.Proofs.YtlghmcogeipojaaGreatDoor
