/- Lemmas of the walk. Conditions: each its own. -/
import Derived.Test.YtecdldbdednahaaGreatDoorPu12
import Derived.Test.YtecdldbdednahaaGreatDoorPu13
import Derived.Test.YtecdldbdednahaaGreatDoorProg
import Derived.Test.YtecdldbdednahaaGreatDoorSht
import Derived.Test.YtecdldbdednahaaGreatDoorShl
import Derived.Test.YtecdldbdednahaaGreatDoorShi
import Derived.Test.YtecdldbdednahaaGreatDoorShs
set_option linter.all false
set_option maxRecDepth 100000
set_option maxHeartbeats 8000000
open Go.Proofs.Tryz
namespace Go.Proofs.YtecdldbdednahaaGreatDoor
open Go.RowKit
section
variable {w w' : World} {v vl : Value} {B gs gl gx N0 N2 most rate q : Nat} {own own' : Nat -> Nat} {T T2 : List UInt8} {r : Told} {L : List Sp}
def RdN.vis {k l n A f} (a:RdN w k l A n f) (j:Vis w w'):RdN w' k l A n f:=by
 rcases zBa n with b | b;subst b;have:f= []:=(by simpa using a.1.1);subst this;exact RdN.nil _ _ _ _;obtain ⟨c,C,rfl,u,x⟩:=a.1.2 b;obtain ⟨t,m,o,s,g,d⟩:=a.2 b _ rfl;have i:w'.heap[c]?=w.heap[c]?:=j.same g (fun p=>p) (by rcases d with rfl | rfl <;> decide) (by rcases d with rfl | rfl <;> decide);refine ⟨⟨a.1.1,fun _=>⟨c,C,rfl,zAl u j.size,fun z D y=>by rw [<-x z D y];exact World.cell?_of_block i⟩⟩,fun _ E e=>?_⟩;injection e with e;subst e;exact ⟨t,m,o,s,i.trans g,d⟩
def PyB.vis (f:PyB gx N0 most T2 r v w) (a:Vis w w'):PyB gx N0 most T2 r v w':=by
 obtain ⟨b,d,c,e,g,i,j,k⟩:=f;exact ⟨b,d,c,e,g,i.vis a,a.made j dC dC,a.bk k dC dC⟩
section
variable {own1 : Nat -> Nat} {A : Option Addr} {n : Nat}
structure FrT (w w':World) (B:Nat) (own:Nat->Nat) (gs:Nat):Prop where
 size:w.heap.size<=w'.heap.size
 old:∀b,b < B->w'.heap[b]?=w.heap[b]?
 same:∀b cs t fr,Ap own gs b->t=44∨t=5->w.heap[b]?=some (.cells cs t fr)->w'.heap[b]?=w.heap[b]?
def FrT.refl (w B own gs):FrT w w B own gs:=⟨zAs _,fun _ _=>rfl,fun _ _ _ _ _ _ _=>rfl⟩
def FrT.trans {w1} (b:FrT w w1 B own gs) (i:FrT w1 w' B own gs):FrT w w' B own gs:=⟨zAk b.size i.size,fun a k=>(i.old a k).trans (b.old a k),fun a c j d e g f=>(i.same a c j d e g ((b.same a c j d e g f).trans f)).trans (b.same a c j d e g f)⟩
def FrT.of_below (b:Below w.heap.size w w') (f:B<=w.heap.size):FrT w w' B own gs:=⟨b.size,fun a g=>b.block a oM,fun a d i e _ _ c=>b.block a (zAh.1 c).1⟩
def FrT.of_vis (a:VB B w w') (e:B<=w.heap.size):FrT w w' B own gs:=⟨a.1.size,fun b f=>(VB.to_below a e).block b f,fun b i k j _ c g=>a.1.same g (fun d=>d) (by rcases c with rfl | rfl <;> decide) (by rcases c with rfl | rfl <;> decide)⟩
def FrT.of_keep {g} (d:Keep (fun b=>b=gx) w w') (l:B<=w.heap.size) (m:B<=gx) (a:Bk w gx 38 g):FrT w w' B own gs:=⟨d.size,fun b a=>d.block b oM (fun c=>by have e:b=gx:=c;omega),fun b j o k _ i f=>d.block b (zAh.1 f).1 (fun c=>by
 have e:b=gx:=c;subst e;unfold Bk at a;rw [f] at a;injection a with a;injection a with _ a;rcases i with rfl | rfl <;> revert a <;> decide)⟩
def FrT.of_lfs (b:LFS B gs w w' own own') (f:B<=w.heap.size):FrT w w' B own gs:=⟨b.size,fun c g=>(b.below f).block c g,fun c j l k d e i=>b.vis.same i (fun a=>a.elim (fun a=>a d.col) d.ne) (by rcases e with rfl | rfl <;> decide) (by rcases e with rfl | rfl <;> decide)⟩
def ArgZ.frt {d} (b:ArgZ w B own gs A n d) (g:FrT w w' B own gs):ArgZ w' B own gs A n d:=by
 rcases zBa n with c | c;subst c;have:d= []:=(by simpa using b.1.1);subst this;exact ⟨Rd.nil _ _ _ _,fun o=>absurd o oM⟩;obtain ⟨a,t,rfl,l,m⟩:=b.1.2 c;have k:w'.heap[a]?=w.heap[a]?:=(by rcases b.2 c _ rfl with q |⟨q,i,j,e⟩;exact g.old a q;exact g.same a _ _ _ q (.inr rfl) e);refine ⟨⟨b.1.1,fun _=>⟨a,t,rfl,zAl l g.size,fun s u p=>by rw [<-m s u p];exact World.cell?_of_block k⟩⟩,fun _ x f=>?_⟩;injection f with f;subst f;rcases b.2 c _ rfl with q |⟨q,i,j,e⟩;exact .inl q;exact .inr ⟨q,i,j,k.trans e⟩
def StpZ.frt (g:StpZ w B own gs A n L) (c:FrT w w' B own gs):StpZ w' B own gs A n L:=by
 refine ⟨g.1,fun l=>?_⟩;obtain ⟨a,D,rfl,u,i,x⟩:=g.2 l;have b:w'.heap[a]?=w.heap[a]?:=by rcases i with q |⟨q,e,f,d⟩;exact c.old a q;exact c.same a _ _ _ q (.inl rfl) d
 refine ⟨a,D,rfl,zAl u c.size,?_,fun z E y=>?_⟩;rcases i with q |⟨q,e,f,d⟩;exact .inl q;exact .inr ⟨q,e,f,b.trans d⟩
 · obtain ⟨j,C,k,m,o,p,s,t⟩:=x z E y;exact ⟨j,C,k,(World.cell?_of_block b).trans m,(World.cell?_of_block b).trans o,(World.cell?_of_block b).trans p,(World.cell?_of_block b).trans s,t.frt c⟩
end
section
variable {A3 : Option Addr}
def QdA (B gs gx N0 most rate:Nat) (A3:Option Addr) (q:Nat) (L:List Sp) (T2:List UInt8) (r:Told) (v:Value) (w:World):Prop:=∃own1 e,StAt w B own1 gs e most rate T2/\Ap own1 gs gx/\StpZ w B own1 gs A3 q L/\∃a c b d,v=.agg (gX r a c b d)/\Made w N0 5 1 a r.data.length c (r.data.map bv)/\Made w N0 3 1 b r.places.length d (r.places.map nv)
def QdA.below (i:QdA B gs gx N0 most rate A3 q L T2 r v w) (a:Below w.heap.size w w'):QdA B gs gx N0 most rate A3 q L T2 r v w':=by
 obtain ⟨own1,g,b,j,o,c,e,d,f,k,l,m⟩:=i;exact ⟨own1,g,b.vb (kc a),j,o.frt (FrT.of_below a b.size),c,e,d,f,k,l.below a,m.below a⟩
def QdA.keep (o:QdA B gs gx N0 most rate A3 q L T2 r v w) (c:Keep (fun a=>a=gx) w w') (z:gx < N0) (x:B<=gx) {l} (y:Bk w gx 38 l):QdA B gs gx N0 most rate A3 q L T2 r v w':=by
 obtain ⟨own1,m,e,f,u,g,j,i,k,p,s,t⟩:=o;exact ⟨own1,m,e.far c (fun a b=>by have d:a=gx:=b;rw [d];exact f),f,u.frt (FrT.of_keep c e.size x y),g,j,i,k,p,s.keepF c (fun a b=>by have d:a=gx:=b;omega),t.keepF c (fun a b=>by have d:a=gx:=b;omega)⟩
def QdA.vis (i:QdA B gs gx N0 most rate A3 q L T2 r v w) (a:VB B w w'):QdA B gs gx N0 most rate A3 q L T2 r v w':=by
 obtain ⟨own1,g,b,j,o,c,e,d,f,k,l,m⟩:=i;exact ⟨own1,g,b.vb a.1,j,o.frt (FrT.of_vis a b.size),c,e,d,f,k,a.1.made l dC dC,a.1.made m dC dC⟩
def QdS (B gs gx:Nat) (own:Nat->Nat) (most rate:Nat) (T2:List UInt8) (a:Nat) (w w':World):Prop:=(a=5->DoS B gs own most rate T2 w w')/\(a=11->Keep (fun b=>b=gx) w w'/\MdX w' gx most T2)/\(a=20->VB B w w')/\(a≠5->a≠11->a≠20->Below w.heap.size w w')
def QdC (a:World) (B gs gx N0 most:Nat) (own:Nat->Nat) (w:World):Prop:=Below B a w/\B<=w.heap.size/\N0<=w.heap.size/\FrT a w B own gs/\∃b,MdX w gx most b
def QdU (B gs gl gx:Nat) (own:Nat->Nat) (most rate:Nat) (T:List UInt8) (a:Nat) (w:World):Prop:=(a=5->StAt w B own gs gl most rate T)/\(a=11->MdX w gx most T)
def QdC.step {o k} (z:QdC o B gs gx N0 most own w) (l:QdS B gs gx own most rate T2 k w w') (p:Ap own gs gx) (C:B<=gx):QdC o B gs gx N0 most own w':=by
 obtain ⟨f,a,g,i,m,c⟩:=z;by_cases s:k=5;obtain ⟨own',F,_,d⟩:=l.1 s;exact ⟨f.trans (d.below a),zAk a d.size,zAk g d.size,i.trans (FrT.of_lfs d a),m,d.bk c p.col p.ne dC dC⟩;by_cases t:k=11;obtain ⟨j,D⟩:=l.2.1 t;exact ⟨f.trans (j.to_below a fun x b y=>by have E:x=gx:=y;omega),zAk a j.size,zAk g j.size,i.trans (FrT.of_keep j a C c),T2,D⟩;by_cases u:k=20;have e:=l.2.2.1 u;exact ⟨f.trans (VB.to_below e a),zAk a e.1.size,zAk g e.1.size,i.trans (FrT.of_vis e a),m,e.1.bk c dC dC⟩;have b:=l.2.2.2 s t u;exact ⟨f.trans (b.mono a),zAk a b.size,zAk g b.size,i.trans (FrT.of_below b a),m,kg c b (Bk.lt c)⟩
def QdC.drew {a} (d:QdC a B gs gx N0 most own w):QdC a B gs gx N0 most own w.drew:=by
 obtain ⟨e,b,f,g,c,i⟩:=d;exact ⟨e.trans (fG w B),b,f,g.trans (FrT.of_below (fG w _) b),c,i⟩
def QdU.drew {c} (b:QdU B gs gl gx own most rate T c w):QdU B gs gl gx own most rate T c w.drew:=⟨fun a=>(b.1 a).vb (kc (fG _ _)),fun a=>b.2 a⟩
def QdU.step {b c} (d:QdU B gs gl gx own most rate T b w) (f:QdS B gs gx own most rate T2 c w w') (g:Ap own gs gx) (j:b≠c) (k:b=5->c≠11) (l:b=5->c≠20) (m:b=11->c≠20):QdU B gs gl gx own most rate T b w':=by
 refine ⟨fun a=>?_,fun a=>?_⟩;exact (d.1 a).vb (kc (f.2.2.2 (fun e=>j (a.trans e.symm)) (k a) (l a)));by_cases i:c=5;obtain ⟨own',s,_,p⟩:=f.1 i;exact p.bk (d.2 a) g.col g.ne dC dC;have o:=f.2.2.2 i (fun e=>j (a.trans e.symm)) (m a);exact kg (d.2 a) o (Bk.lt (d.2 a))
def eR {b} (c:b≠5) (d:b≠11) (e:b≠20) (f:Below w.heap.size w w'):QdS B gs gx own most rate T2 b w w':=⟨fun a=>absurd a c,fun a=>absurd a d,fun a=>absurd a e,fun _ _ _=>f⟩
def aK0 (j:Ap own gs gx) (s:gx < w.heap.size) (f:N0<=w.heap.size) (t:StpZ w B own gs A3 q L) (p:StDone w B own gs most rate T2 r (.returned v) w'):QdA B gs gx N0 most rate A3 q L T2 r v w'/\QdS B gs gx own most rate T2 5 w w':=by
 obtain ⟨g,k,i,l,own',d,c,e,b,m,o,_,_⟩:=p;injection c with c;exact ⟨⟨own',d,e,j.step b s,t.step b,g,k,i,l,c,m.mono f,o.mono f⟩,fun _=>⟨own',d,e,b⟩,fun a=>absurd a dC,fun a=>absurd a dC,fun a=>absurd rfl a⟩
def aKZ (d:N0<=w.heap.size) (l:bZ gx (most:Int) T2 r w w' (.returned v)):PyB gx N0 most T2 r v w'/\QdS B gs gx own most rate T2 11 w w':=by
 obtain ⟨e,g,f,i,b,m,j,k,c⟩:=l;injection b with b;exact ⟨⟨e,g,f,i,b,j.mono d,k.mono d,c⟩,fun a=>absurd a dC,fun _=>⟨m,c⟩,fun a=>absurd a dC,fun _ a=>absurd rfl a⟩
def QdG (B gs gx most rate:Nat) (T2:List UInt8) (a:Bool) (v:Value) (w:World):Prop:=v=.bool a/\MdX w gx most T2/\∃own1 b,StAt w B own1 gs b most rate T2
def QdG.vis {a} (d:QdG B gs gx most rate T2 a v w) (b:Vis w w'):QdG B gs gx most rate T2 a v w':=by
 obtain ⟨e,f,own1,c,g⟩:=d;exact ⟨e,b.bk f dC dC,own1,c,g.vb b⟩
def aKY (b:VB B w w'):QdS B gs gx own most rate T2 20 w w':=⟨fun a=>absurd a dC,fun a=>absurd a dC,fun _=>b,fun _ _ a=>absurd rfl a⟩
end
end
def aLB (A:Option Addr) (n c a d B:Nat) (L:List Nat) (w:World) (N:Rd w B 1 A n (L.map sv)) (Z:B<=w.heap.size) (aG:n<=c) (x:a<=n) (a8:n<=1000):
 Calls prog 68 #[.slice A n c,(a:Int),(d:Int)] w fun H w'=>∃V Y,H=.returned (.slice V (n+1) Y)/\Made w' w.heap.size 3 1 V (n+1) Y ((L.take a++d::L.drop a).map sv)/\Below w.heap.size w w':=by
 obtain ⟨S,C,Q,F,R⟩:=info_parts gN;have ac:∀w,(sizeOf 3).run prog w=.ok 1 w:=fun w=>by simp [sizeOf,typeInfo,C,F]
 have K:=N.cut_hi0 (cap:=c) x;have M:=N.cut (cap:=c) x aG;rw [zBl,<-List.map_take] at K;rw [zBl,<-List.map_drop] at M;have aR:=mN (P:=prog) 39 3 1 underlying39 ac A n c a oM;have U:=iX (P:=prog) 39 3 1 underlying39 ac A n c a x;obtain ⟨ai,aj,an⟩:=hqq3 K M U;clear K M N U;go_enter func68,ntmps68;go_wp2_with (at_builtin;refine bF _ rfl (.tmp 8) (.tmp 11) _ rfl w.heap.size 3 S (.int .i64 0) 1 8 underlying39 C Q F R rfl dC (.slice (some w.heap.size) 0 0) 0 [] rfl (kE w 3 1) w.heap.size (dY A c 0 1) a c _ rfl ((ai.out.mono Z).alloc nL _) (qN _) (by unfold maxLen;omega) oM (by simp) ?_;intro aU w1 D a3 aA);have J:=aZ ((kh w.heap.size w).alloc nL _) (kE w 3 1) a3 (by simp);rw [zBi,List.nil_append] at D;obtain ⟨e,g,rfl,a6⟩:=aS D;have a5:∀b,(Value.slice e a g).ownBlock=some b->w.heap.size<=b/\b < w1.heap.size:=fun b a1=>a6.own.lt b a1;have ab:=J.size;obtain ⟨af,al,W⟩:=hqq3 J D a5;clear D a3 aA J a6 a5;go_wp2_with fail;refine wp_region_any kR ?_;refine cK 7 [13,14,15,16,17,18,19] (fun b=>(Value.slice e a g).ownBlock=some b) 3 [3] (fun s=>s.ownsRow w.heap.size 3 1 (.slice e a g) a ((L.take a).map sv)) (fun v s=>s.ownsRow w.heap.size 3 1 v (a+1) ((L.take a).map sv++ [.int .i64 (d:Int)])) [is (.slice e a g),is (d:Int),nV (fun b=>(Value.slice e a g).ownBlock=some b) 3 #[(d:Int)] fun I=>.slice (some ⟨I,0,none⟩) 1 1,cJ,is (.slice A n c),is (a:Int),is (.slice (dY A c a 1) (n - a) (c - a))] _ _ rfl dC kR kR kR (al.out) (fun s aY t _ aF=>aQ t aF) (fun _ _ _ ax a=>aQ ax a) tA3 ?_ ?_
 · refine bJ ?_;refine pH3 7 (.slice e a g) ?_;refine pH3 2 (.int .i64 (d:Int)) ?_;refine sC3 (fun _ o j _ _ _ _ k _ _ _ m=>?_) ?_
   · replace j:Keep (fun b=>(Value.slice e a g).ownBlock=some b) w1 o:=kD j;have aL:_=_:=k 1 14 kR rfl;go_simp;exact m _ _ (aE (bR.alloc nL _)) ⟨_,rfl,ke _ _ _,fun t=>by have:=(W.out _ t).2;have:=j.size;omega⟩
   refine sC3 (fun y o j ay _ _ _ k _ _ az m=>?_) ?_;replace j:Keep (fun b=>(Value.slice e a g).ownBlock=some b) w1 o:=kD j;have aI:=ay rfl;have aq:_=_:=k 0 13 kR rfl;have aK:(nV (fun b=>(Value.slice e a g).ownBlock=some b) 3 #[(d:Int)] fun I=>.slice (some ⟨I,0,none⟩) 1 1) (y (.tmp 15)) o:=k 2 15 kR rfl;obtain ⟨aw,ar,aD,aP⟩:=aK;subst az;have aJ:w.heap.size<=o.heap.size:=zAk ab j.size;refine eB o (.tmp 13) (.tmp 15) _ rfl w.heap.size 3 S (.int .i64 0) 1 8 underlying39 C Q F R rfl dC (.slice e a g) a ((L.take a).map sv) aq aI o.heap.size (some ⟨aw,0,none⟩) 1 1 [.int .i64 (d:Int)] ar (aEn aD) (by simp [Value.oneCell']) (by unfold maxLen;omega) oM aJ ?_;intro aV p aH u aO;exact m _ _ (aT ⟨u.os,u.tape,u.output,u.size,fun a x a8=>u.block a x (fun H=>a8 H.symm)⟩) aH;refine pH3 0 (.slice A n c) ?_;refine pH3 1 (.int .i64 (a:Int)) ?_;refine sC3 (fun _ _ _ _ _ _ _ k _ _ _ m=>?_) ?_
   · have aM:_=_:=k 4 17 kR rfl;have aN:_=_:=k 5 18 kR rfl;have U:=an.out;go_simp;exact kq m rfl
   exact aC
 · intro y p l j k;replace j:Keep (fun b=>(Value.slice e a g).ownBlock=some b) w1 p:=kD j;have G:(fun v s=>s.ownsRow w.heap.size 3 1 v (a+1) ((L.take a).map sv++ [.int .i64 (d:Int)])) (y (.tmp 16)) p:=k 3 16 dC rfl;have av:y (.tmp 19)=.slice (dY A c a 1) (n - a) (c - a):=k 6 19 dC rfl;simp only [zqq];rw [av];clear k;obtain ⟨ad,ao,au,_,_⟩:=aW G;rw [au] at G⊢;have z:Below w.heap.size w p:=af.out.trans (j.to_below ab (fun b a1 t=>by have:=(W.out _ t).1;omega));have aa:=(aj.out.mono Z).below z;have X:=lhd G;have O:=z.size;obtain ⟨ag,am⟩:=hqq2 z aa;clear G z aa;change wpAny prog Region.Mode.any _ _ (2+l) (bX 7 9) _ p;rw [show 2+l=l+1+1 by omega];refine bQ (f:=l+1) (i:=7) kR ?_;refine bY rfl rfl ?_;refine eB p (.tmp 16) (.tmp 19) _ rfl w.heap.size 3 S (.int .i64 0) 1 8 underlying39 C Q F R rfl dC (.slice ad (a+1) ao) (a+1) ((L.take a).map sv++ [.int .i64 (d:Int)]) rfl X.out p.heap.size (dY A c a 1) (n - a) (c - a) ((L.drop a).map sv) rfl (am.out.mono O) (qN _) (by unfold maxLen;omega) oM O ?_;intro aX b0 E a4 aB;have a2:=aZ ag.out X.out a4 O;have a9:a+1+(n - a)=n+1:=oM;rw [a9] at E;have a0:(L.take a).map sv++ [.int .i64 (d:Int)]++(L.drop a).map sv=(L.take a++d::L.drop a).map sv:=(by simp [sv]);rw [a0] at E;obtain ⟨ae,ap,rfl,a7⟩:=aS E;obtain ⟨ak,ah⟩:=hqq2 a7 a2;clear E a4 aB a2 a0 a9 a7;refine bQ (f:=l) (i:=8) kR ?_;refine bY rfl rfl ?_;generalize m:wpAny prog _ _ _ l _=K5;go_simp;subst m;refine bV kR ?_;go_wp2;go_ret;exact ⟨ae,ap,rfl,ak.out,ah.out⟩
structure Part (l:List Nat) (x j:Nat) (L:List Nat):Prop where
 perm:L.Perm (List.range' x j)
 sorted:L.Pairwise (sufLt l)
def Part.len {c L d a} (b:Part c d a L):L.length=a:=by simpa using b.perm.length_eq
def Part.mem {f L b c a} (d:Part f b c L) (e:a∈L):b<=a/\a < b+c:=by
 have:=d.perm.mem_iff.1 e;rw [List.mem_range'_1] at this;exact this
def Part.rel {c L i g b a} (d:Part c i g L) (e:b < a) (f:a < L.length):sufLt c (L[b]' oM) L[a]:=zAr.1 d.sorted b a oM f e
def Part.put {c L d k b} (i:Part c (d+1) k L) (u:d < c.length) (x:d+1+k<=c.length) (y:b<=L.length) (s:∀a (f:a < L.length),a < b->sufLt c L[a] d) (t:∀a (f:a < L.length),b<=a->¬sufLt c L[a] d):
 Part c d (k+1) (L.take b++d::L.drop b):=by
 constructor;rw [List.range'_succ];refine List.perm_middle.trans (List.Perm.cons d ?_);rw [zAu];exact i.perm;have g:=i.sorted;rw [<-zAu b L,List.pairwise_append] at g;rw [List.pairwise_append];refine ⟨g.1,List.pairwise_cons.2 ⟨fun m e=>?_,g.2.1⟩,fun p o m e=>?_⟩;obtain ⟨a,f,rfl⟩:=zBo.1 e;rw [zAw] at f;rw [List.getElem_drop];have z:=i.mem (zBj (l:=L) (n:=b+a) oM);rcases sufLt.tri u (by omega:L[b+a]' oM < c.length) oM with j | j;exact j;exact absurd j (t (b+a) oM oM);rcases List.mem_cons.1 e with rfl | e;obtain ⟨a,f,rfl⟩:=zBo.1 o;rw [zAj] at f;rw [List.getElem_take];exact s a oM oM;exact g.2.2 p o m e
def vG (d:List UInt8) (n:Nat) (w:World) (c:Ending) (w':World):Prop:=∃a b L,c=.returned (.slice a (n+1) b)/\IsSuf (aJ d) L/\Made w' w.heap.size 3 1 a (n+1) b (L.map sv)/\Below w.heap.size w w'
def vF (f n w) (C:f.length=n) (aK:n<=900):
 Calls prog 32 #[.string ⟨f.toArray⟩] w (vG f n w):=by
 have aO:(⟨f.toArray⟩:ByteArray).size=n:=(sO f).trans C;have a3:(aJ f).length=n+1:=by rw [aR,C]
 obtain ⟨ai,F⟩:=hqq2 C a3;clear C a3;go_enter func32,ntmps32;go_wp2_with fail;go_loopw [3,4] (fun v O wr=>∃(a:Nat) (L:List Nat) (A:Option Addr) (m:Nat),a<=n+1/\v=.slice A a m/\O=.int .i64 ((n:Int) -(a:Int))/\Part (aJ f) (n+1 - a) a L/\Made wr w.heap.size 3 1 A a m (L.map sv)/\Below w.heap.size w wr) (fun _ O _=>(intOf O+1).toNat)
 case atStart=>exact ⟨0, [],none,0,by omega,rfl,by simp,⟨by simp,List.Pairwise.nil⟩,⟨kj _ _ _ _,Rd.nil _ _ _ _,zAs _,by unfold maxLen;omega⟩,kh _ _⟩
 case round=>
  obtain ⟨a,L,A,m,aD,rfl,rfl,j,a7,a0⟩:=hrel;obtain ⟨G,t⟩:=hqq2 a7 a0;clear a7 a0;by_cases au:a<=n
  · obtain ⟨g,ad⟩:=eqx (n - a);rw [show n+1 - a=g+1 by omega] at j;have M:(n:Int) -(a:Int)=(g:Int):=oM;rw [M];have aL:(0:Int)<=(g:Int):=oM;have Z:=j.len;obtain ⟨u,D,k,al⟩:=hqq4 j Z ad M;clear j Z ad M;obtain ⟨i,ap⟩:∃i,i=wr:=⟨_,rfl⟩;subst ap;go_wp2_with fail;go_loopw [5,6] (fun H x wr=>∃b d q:Nat,b<=d/\d<=a/\H=.int .i64 (b:Int)/\x=.int .i64 (d:Int)/\(∀e (l:e < L.length),e < b->sufLt (aJ f) L[e] g)/\(∀e (l:e < L.length),d<=e->¬sufLt (aJ f) L[e] g)/\wr=i.drewN q) (fun H x _=>(intOf x - intOf H).toNat)
    case atStart=>exact ⟨0,a,0,by omega,by omega,rfl,rfl,fun e l y=>by omega,fun e l y=>by have:=D.out;omega,rfl⟩
    case round=>
        obtain ⟨b,d,q,aF,J,rfl,rfl,X,y,rfl⟩:=hrel;obtain ⟨Q,R⟩:=hqq2 X y;clear X y;by_cases ar:b < d
        · obtain ⟨c,a4⟩:=eqx ((b+d)/ 2);have aG:(b:Int) < (d:Int):=oM;have ay:IntKind.i64.wrap ((b:Int)+(d:Int))=(b:Int)+(d:Int):=(by rw [wI0];omega);have az:((b:Int)+(d:Int)).tdiv 2=(c:Int):=(by rw [<-a4];exact (Int.ofNat_tdiv (b+d) 2).symm);have aA:IntKind.i64.wrap (c:Int)=(c:Int):=(by rw [wI0];omega);have a8:c < a:=oM;have K:c < L.length:=(by rw [D.out];exact a8);obtain ⟨x,aM,aN,ao,aC,ac,z⟩:=(G.out.rd.drewN q).get a8;subst ao;rw [zAf,zAa K] at ac;cases ac;unfold sv at z;have av:=u.out.mem (zBj K);obtain ⟨aw,N⟩:=eqx (L[c]);rw [N] at z av;have V:=lhd N;have ax:=z;clear N z;have aI:b<=c:=oM;have aH:c < d:=oM;clear a4;go_wp2_with fail;refine (aIV f aw g n _ ai.out oM (by have:=k.out;omega) (by have:=k.out;omega) oM).mono ?_;rintro am af ⟨r,rfl,aa,ae,rfl⟩;have U:=lhd aa;clear aa;cases r with
          | true=>
            go_wp2_with fail;go_roundw
            case rel=>refine ⟨c+1,d,q+ae,by omega,J,by go_num,rfl,fun e l aq=>?_,R.out,rfl⟩;have s:sufLt (aJ f) L[c] g:=(by rw [V.out];exact U.out.1 (by first | rfl | trivial));rcases zBe e c with o | o;exact (u.out.rel o K).trans s;obtain rfl:e=c:=oM;exact s
            case measure=>simp [intOf];omega
          | false=>
            go_wp2_with fail;go_roundw
            case rel=>refine ⟨b,c,q+ae,by omega,by omega,rfl,by go_num,Q.out,fun e l aq Y=>?_,rfl⟩;have s:¬sufLt (aJ f) L[c] g:=(by rw [V.out];intro an;have:=U.out.2 an;cases this);rcases zBe c e with o | o;exact s ((u.out.rel o l).trans Y);obtain rfl:e=c:=oM;exact s Y
            case measure=>simp [intOf];omega
        · obtain rfl:b=d:=oM;have a9:=u.out.put (by rw [F.out];have:=k.out;omega) (by rw [F.out];have:=k.out;omega) (by rw [D.out];exact J) Q.out R.out;have aj:=lhd a9;have I:Below i.heap.size i (i.drewN q):=kn bR q;have a6:=G.out.below I;obtain ⟨S,E⟩:=hqq2 a6 I;clear a9 a6 I ar;go_wp2_with fail;refine (aLB A a m b g (i.drewN q).heap.size L (i.drewN q) S.out.rd nL S.out.cap J oM).mono ?_;rintro am af ⟨P,W,rfl,p,a1⟩;have a2:=t.out.trans ((E.out.trans (a1.mono E.out.size)).mono t.out.size);have a5:Made af w.heap.size 3 1 P (a+1) W ((L.take b++g::L.drop b).map sv):=⟨bN p.own (zAk t.out.size E.out.size),p.rd,p.cap,p.max⟩;obtain ⟨ag,ah⟩:=hqq2 a2 a5;clear a2 a5 p a1;have aB:IntKind.i64.wrap ((g:Int) - 1)=(n:Int) -((a+1:Nat):Int):=(by rw [wI0];have:=al.out;omega);go_wp2_with fail;go_roundw
          case rel=>exact ⟨a+1,_,P,W,by omega,rfl,rfl,by rw [show n+1 -(a+1)=g by have:=k.out;omega];exact aj.out,ah.out,ag.out⟩
          case measure=>have:=k.out;simp [intOf];omega
  · obtain rfl:a=n+1:=oM;have aE:¬(0:Int)<=(n:Int) -((n+1:Nat):Int):=oM
    have ab:IsSuf (aJ f) L:=⟨by
        have:=j.perm;rw [show n+1 -(n+1)=0 by omega] at this;rw [F.out,List.range_eq_range'];exact this,j.sorted⟩
    have ak:=lhd ab;clear ab j au;go_wp2_with fail;go_ret;exact ⟨A,m,L,rfl,ak.out,G.out,t.out⟩
def vH (d:List UInt8) (n:Nat) (w:World) (e:Ending) (w':World):Prop:=∃a b c,e=.returned (.slice a (n+1) b)/\IsSuf (aJ d) c/\Made w' w.heap.size 3 1 a (n+1) b ((aH (aJ d) c).map sv)/\Below w.heap.size w w'
def aDE (b n w) (t:b.length=n) (a9:n<=900):
 Calls prog 34 #[.string ⟨b.toArray⟩] w (vH b n w):=by
 obtain ⟨a1,S,Y,Z,a0⟩:=info_parts gN;have H:=vF b n w t a9;unfold vG at H;have g:=lhd t;have ao:(⟨b.toArray⟩:ByteArray).size=n:=(sO b).trans t;clear t;unfold vH;go_enter func34,ntmps34;go_wp2_with fail;refine H.mono ?_;rintro ah w1 ⟨ad,af,m,rfl,J,W,D⟩;have I:m.length=n+1:=by rw [J.len,aR,g.out]
 obtain ⟨L,z⟩:=eqx (aH (aJ b) m);have Q:L.length=n+1:=by rw [<-z,bW,I]
 obtain ⟨O,a4,N,a5,M,a3⟩:=hqq6 J W D I z Q;clear H J W D I z Q;go_wp2_with fail;go_loopw [4,5] (fun v K wr=>∃a:Nat,a<=n+1/\K=.int .i64 (a:Int)/\wr.ownsRow w1.heap.size 3 1 v a ((L.take a).map sv)/\Below w1.heap.size w1 wr) (fun _ K _=>n+1 -(intOf K).toNat)
 case atStart=>exact ⟨0,zAp _,rfl,kj _ _ _ _,kh _ _⟩
 case round=>
  obtain ⟨a,al,rfl,j,e⟩:=hrel;have u:=e.size;by_cases a8:a < n+1
  · have U:a < m.length:=(by rw [a5.out];exact a8);obtain ⟨d,k⟩:∃d,m[a]?=some d:=⟨_,zAa U⟩;have am:d<=n:=(by have:=O.out.lt (zAd k);rw [aR,g.out] at this;omega);obtain ⟨b1,a2,rfl,D,R⟩:=(a4.out.rd.below e).2 oM;have y:wr.cell? ⟨b1,a2+a,none⟩=some (.int .i64 (d:Int)):=R a _ (by rw [zAf,k];rfl);have P:L[a]?=some (bM (aJ b) d):=(by rw [<-M.out];unfold aH;rw [zAf,k];rfl);have f:L.take (a+1)=L.take a++ [bM (aJ b) d]:=(by rw [zAv,P];rfl);obtain ⟨s,o,ae⟩:=hqq3 j e k;clear j e k R P U;rcases d with _ | q
    · have l:bM (aJ b) 0=0:=(by rw [bT (by rw [aR];omega),aR,zBb];exact (eP b).last);rw [l] at f;have x:=lhd f;clear f l;have ag:wr.cell? ⟨b1,a2+a,none⟩=some (.int .i64 0):=y;clear y;go_wp2_with (at_builtin;refine bL _ rfl (.tmp 19) (.tmp 20) _ rfl w1.heap.size 3 a1 (.int .i64 0) 1 8 underlying39 S Y Z a0 rfl dC _ a _ rfl s.out rfl rfl (by simp [Value.oneCell']) (by unfold maxLen;omega) oM u ?_;intro ab ac G i aa C);have E:=aZ o.out s.out i u;clear i C;go_roundw
      case rel=>exact ⟨a+1,by omega,by go_num,by rw [x.out,zAz];exact G,E⟩
      case measure=>simp [intOf];omega
    · obtain ⟨c,F⟩:∃c,b[q]?=some c:=⟨_,zAa (by rw [g.out];omega)⟩;have l:bM (aJ b) (q+1)=c.toNat+1:=(by rw [bE (by rw [aR,g.out];omega)];unfold aJ dI;rw [zAb,zAn (by rw [zBc,g.out];omega),zAf,F];rfl);rw [l] at f;have x:=lhd f;have a6:(((q+1:Nat):Int)==0)=false:=(by rw [zCb];omega);have a7:IntKind.i64.wrap (((q+1:Nat):Int) - 1)=(q:Int):=(by rw [wI0];omega);have an:=aEa F;have ak:=c.toNat_lt;have ai:IntKind.i64.wrap (c.toNat:Int)=(c.toNat:Int):=(by rw [wI0];omega);have aj:wrap64 ((c.toNat:Int)+1)=((c.toNat+1:Nat):Int):=(by rw [dN oM oM];omega);clear f l F;generalize q+1=d at y a6 a7;go_wp2_with (at_builtin;refine bL _ rfl (.tmp 22) (.tmp 32) _ rfl w1.heap.size 3 a1 (.int .i64 0) 1 8 underlying39 S Y Z a0 rfl dC _ a _ rfl s.out rfl rfl (by simp [Value.oneCell']) (by unfold maxLen;omega) oM u ?_;intro ab ac G i aa C);have E:=aZ o.out s.out i u;clear i C;go_roundw
      case rel=>exact ⟨a+1,by omega,by go_num,by rw [x.out,zAz];exact G,E⟩
      case measure=>simp [intOf];omega
  · obtain rfl:a=n+1:=oM;rw [zAg (by rw [a3.out];exact zAs _)] at j;obtain ⟨A,c,rfl,V⟩:=aS j;obtain ⟨p,o⟩:=hqq2 V e;clear j V e;go_wp2_with fail;go_ret;have X:=N.out.size;exact ⟨A,c,m,rfl,O.out,by rw [M.out];exact ⟨bN p.out.own X,p.out.rd,p.out.cap,p.out.max⟩,N.out.trans (o.out.mono X)⟩
def aKw (w:World) (B:Nat) (own:Nat->Nat) (gs most rate:Nat) (T:List UInt8) (g l:Int) (i:List UInt8) (m:List Nat) (e f:Nat) (j:Ending) (w':World):Prop:=
 ∃a c b d own' k,j=.returned (.agg #[(g:Int),(l:Int),.slice a e c,.slice b f d])/\StAt w' B own' gs k most rate T/\LFS B gs w w' own own'/\MadeZ w' own' gs 5 a e c (i.map bv)/\MadeZ w' own' gs 3 b f d (m.map nv)
def StDone.v {w w' B gs most rate own T j p e i m o l} (I:gs < w.heap.size) (y:e.length=m) (z:i.length=o) (D:StDone w B own gs most rate T ⟨j,p,e,i⟩ l w'):aKw w B own gs most rate T j p e i m o l w':=by
 subst y z;obtain ⟨s,u,t,x,own',C,rfl,E,F,b,c,G,H⟩:=D;refine ⟨s,u,t,x,own',C,rfl,E,F,⟨⟨bN b.own (zAp _),b.rd,b.cap,b.max⟩,fun a d=>?_⟩,⟨⟨bN c.own (zAp _),c.rd,c.cap,c.max⟩,fun a d=>?_⟩⟩;have f:=G a d;subst d;have g:=b.own.lt (k:=a.block) rfl;exact ⟨g.2,f,by omega⟩;have f:=H a d;subst d;have g:=c.own.lt (k:=a.block) rfl;exact ⟨g.2,f,by omega⟩
def Kp (w:World) (own:Nat->Nat) (gs a:Nat) (c:TypeId) (b:Array Value):Prop:=Bk w a c b/\Ap own gs a
def Kp.step {w w' B gs d own own' b c} (a:Kp w own gs d b c) (e:LFS B gs w w' own own') (f:b≠226) (g:b≠180):Kp w' own' gs d b c:=⟨e.bk a.1 a.2.col a.2.ne f g,a.2.step e a.1.lt⟩
def Kp.new {a B gs gl most rate own e} (d:StAt a B own gs gl most rate e) (c b):Kp (a.alloc (.cells b c)) own gs a.heap.size c b:=⟨ke a c b,d.fresh nL,by have:=d.blk.lt;omega⟩
def aFa (B own gs gl most rate g w) (b:StAt w B own gs gl most rate g):
 Calls prog 37 #[gs] w fun a w'=>a=.returned (.int .i64 (rate:Int))/\w=w':=by
 have i:=b.blk.cell 0;have c:Calls prog 71 #[gl] w fun a w'=>a=.returned (.int .i64 (rate:Int))/\w=w':=by obtain ⟨o,gk,d,f,l,e,k,m,j⟩:=b.tp;exact nE B gl gk d _ rate _ f w e
 clear b;go_enter func37,ntmps37;go_wp2_with fail;refine c.mono ?_;rintro a w1 ⟨rfl,rfl⟩;clear c;go_wp2_with fail;go_ret;exact ⟨rfl,rfl⟩
def qW (w:World) (B:Nat) (L:List Nat) (n:Nat) (b:Ending) (w':World):Prop:=∃A a,b=.returned (.slice A n a)/\Made w' w.heap.size 3 1 A n a (L.map sv)/\VB B w w'
def aFc (B own gs gl most rate n a e w) (b:StAt w B own gs gl most rate a) (d:IsSuf (aJ a) e) (i:a.length+1=n):
 Calls prog 33 #[gs] w (qW w B (aH (aJ a) e) n):=by
 have x:=b.blk.cell 0;have c:Calls prog 69 #[gl] w (qW w B (aH (aJ a) e) n):=by
  obtain ⟨u,gk,o,t,s,p,C,D,z⟩:=b.tp;obtain rfl:=s.unique d;have f:(aH (aJ a) u).length=n:=by rw [bW,d.len,aR,i]
  have:=tD B gl gk o _ rate _ t w p (dR (fB a)) (by rw [f];omega);unfold jN at this;rw [f] at this;exact this
 unfold qW at c⊢;clear b d i;go_enter func33,ntmps33;go_wp2_with fail;refine c.mono ?_;rintro y w1 ⟨A,m,rfl,g,j⟩;obtain ⟨k,l⟩:=hqq2 g j;clear c g j;go_wp2_with fail;go_ret;exact ⟨A,m,rfl,k.out,l.out⟩
def aGp {w B gl gk C rate e own O u T k b} (f:TxM w B own gl gk C rate O (aJ u) T e k b) (W:u.length=e) (D:Smp b 0) (H:qD (Smp b) rate e) (M:1<=rate):SampOk b k rate e/\b.length<=1000:=by
 have J:k.length=e+1:=by have E:=f.suf.len;rw [aR] at E;omega
 obtain ⟨R,U,vl,Z,a0,Y,j,x,X,S,_,F,V,G,g⟩:=f.live.permR;have I:∀a,a < b.length->∃d,b[a]?=some d/\aD b a=d.1/\aI b a=d.2/\d∈b:=fun a c=>by refine ⟨b[a],zAa c,?_,?_,zBj c⟩;unfold aD;rw [zAb,zAa c];rfl;unfold aI;rw [zAb,zAa c];rfl
 refine ⟨⟨fun a c=>?_,fun a c=>?_,D,H,J,M⟩,by rw [g,zBc];exact G⟩;obtain ⟨d,_,y,z,N⟩:=I a c;have t:=f.right d N;obtain ⟨P,Q⟩:=zAc.1 t;rw [y,z];refine ⟨by omega,?_,t⟩;have:=f.suf.lt (p:=d.2) (by rw [<-Q];exact zBj P);rw [aR] at this;omega
 · have o:a < j.length:=(by rw [g,zBc] at c;omega);have s:a+1 < j.length:=(by rw [g,zBc] at c;omega);have K:=zAr.1 F a (a+1) o s oM;have l:∀i (m:i < j.length),aD b i=aD x (j[i]):=fun i m=>by unfold aD;rw [zAb,g,zAf,zAa m];rfl
   rw [l a o,l (a+1) s];exact K
def aDL (gl:Nat) (p c s) (d f e:Nat) (b w) (i:Bk w gl 89 #[p,d,c,s]) (g:PermR w d f e b):
 Calls prog 70 #[gl] w (mH w b):=by
 have t:=i.cell 1;have a:=tB d f e b w g;unfold mH at a⊢;obtain ⟨n,k⟩:=eqx b.length;rw [k] at a⊢;clear g k i;go_enter func70,ntmps70;go_wp2_with fail;refine a.mono ?_;rintro u x ⟨A,c,rfl,j,l⟩;obtain ⟨m,o⟩:=hqq2 j l;clear a j l;go_wp2_with fail;go_ret;exact ⟨A,c,rfl,m.out,o.out⟩
def aDK (B gl gk:Nat) (own l m o L T w) (e:Bk w gl 89 #[gk,l,m,o]) (s:WalkE w B own gk L T):
 Calls prog 72 #[gl] w (nC w (shA L 9)):=by
 obtain ⟨p,z,b,_,c,_⟩:=s;have u:=e.cell 0;have x:=b.cell 0;have a:=yG B p own L w c;unfold nC at a⊢;obtain ⟨n,f⟩:=eqx ((shA L 9).length);obtain ⟨t,d⟩:=eqx (cF (shA L 9));rw [f,d] at a⊢;clear b c f d e;go_enter func72,ntmps72;go_wp2_with fail;refine a.mono ?_;rintro y C ⟨v,rfl,g,i⟩;obtain ⟨j,k⟩:=hqq2 g i;clear a g i;go_wp2_with fail;go_ret;exact ⟨v,rfl,j.out,k.out⟩
def uH (w:World) (rate c:Nat) (f:List Nat) (e:Ending) (w':World):Prop:=∃A d b a,e=.returned (.slice A a d)/\b.length=a/\a<=1000/\SampOk b f rate c/\Rd w' w'.heap.size 2 A a (bU b)/\Below w.heap.size w w'
def TxM.pairs {w B gl gk d rate b own t f T e a} (c:TxM w B own gl gk d rate t (aJ f) T b e a) (l:f.length=b) (i:Smp a 0) (o:qD (Smp a) rate b) (s:1<=rate):
 Calls prog 70 #[gl] w (uH w rate b e):=by
 obtain ⟨j,k⟩:=aGp c l i o s;refine (aDL gl _ _ _ d _ _ a w c.live.blk c.live.permR).mono ?_;rintro u w' ⟨A,g,rfl,p,m⟩;exact ⟨A,g,a,_,rfl,rfl,k,j,p.rd,m⟩
def qZ (w:World) (c:Nat) (f:Ending) (w':World):Prop:=∃A e a b,f=.returned (.slice A b e)/\b<=1000/\Rd w' w'.heap.size 4 A b (cF a)/\(∃d,a=⟨((c+1:Nat):Int),0,1,1⟩::d)/\(∀g∈a,∃n:Int,0 < n/\n<=1000/\g=⟨n,0,1,1⟩)/\Below w.heap.size w w'
def TxM.shapes {w B gl gk m rate c own y a T b z} (e:TxM w B own gl gk m rate y (aJ a) T c b z) (p:a.length=c) (E:c<=900):
 Calls prog 72 #[gl] w (qZ w c):=by
 refine (aDK B gl gk own _ _ _ _ T w e.live.blk e.live.walk).mono ?_;rintro d w' ⟨v,rfl,g,t⟩;have o:∀j∈aH (aJ a) b,j < 257:=dR (fB a);have f:(aH (aJ a) b).length=c+1:=by rw [bW,e.suf.len,aR,p]
 obtain ⟨k,s⟩:=aH6 (aH (aJ a) b) o (fun d=>by rw [d] at f;simp at f);obtain ⟨A,l,rfl,F⟩:=aS g;refine ⟨A,l,_,_,rfl,by have:=aJU (aH (aJ a) b);omega,Rd.of_own g,⟨k,by rw [s,f]⟩,fun j x=>?_,t⟩;obtain ⟨i,q,_,_,u,rfl⟩:=aJT x;have C:=aKv (aH (aJ a) b) i q;have D:(aL (aH (aJ a) b) i q).length≠0:=fun d=>u (zCx.1 d);exact ⟨_,by omega,by omega,rfl⟩
def aDo (B own gs gl most rate g f m w) (c:StAt w B own gs gl most rate f) (j:f.length=g) (u:IsSuf (aJ f) m):
 Calls prog 36 #[gs] w (uH w rate g m):=by
 obtain ⟨gk,C,D,T,E,l,a,d,b⟩:=c.live;obtain rfl:=a.suf.unique u;rw [j] at a b;have y:=c.blk.cell 0;have e:=a.pairs j d b c.r1;unfold uH at e⊢;clear a d b c;go_enter func36,ntmps36;go_wp2_with fail;refine e.mono ?_;rintro z F ⟨A,t,l,x,rfl,a,d,b,i,k⟩;obtain ⟨o,p,s⟩:=hqq3 b i k;clear e b i k;go_wp2_with fail;go_ret;exact ⟨A,t,l,x,rfl,a,d,o.out,p.out,s.out⟩
def aBG (B own gs gl most rate f k w) (b:StAt w B own gs gl most rate k) (i:k.length=f):
 Calls prog 38 #[gs] w (qZ w f):=by
 obtain ⟨gk,C,D,T,F,E,a,c,d⟩:=b.live;rw [i] at a;have y:=b.blk.cell 0;have t:=b.n127;have e:=a.shapes i oM;unfold qZ at e⊢;clear a c d b t;go_enter func38,ntmps38;go_wp2_with fail;refine e.mono ?_;rintro z G ⟨A,s,u,x,rfl,a,c,d,g,j⟩;obtain ⟨l,m,o,p⟩:=hqq4 c d g j;clear e c d g j;go_wp2_with fail;go_ret;exact ⟨A,s,u,x,rfl,a,l.out,m.out,o.out,p.out⟩
def zG (B own gs gl most rate b w) (d:StAt w B own gs gl most rate b):
 Calls prog 16 #[gs,.string ⟨b.toArray⟩] w fun c w'=>c=.returned (.bool true)/\VB B w w':=by
 obtain ⟨a,j⟩:=eqx b.length;have aU:a<=127:=by rw [<-j];exact d.n127
 have b1:(⟨b.toArray⟩:ByteArray).size=a:=(sO b).trans j;have aX:=d.r1;have aC:=d.r2;have Y:=d.size;obtain ⟨i,g,aS⟩:=hqq3 d j Y;clear d j Y;go_enter func16,ntmps16;go_wp2_with fail;refine (vF b a w g.out oM).mono ?_;rintro c w1 ⟨ak,ar,aG,rfl,ae,a6,a0⟩;have ah:VB B w w1:=kd a0;obtain ⟨o,F,p⟩:=hqq3 ae a6 ah;clear ae a6 ah a0;go_wp2_with fail;refine (aFc B own gs gl most rate (a+1) b aG w1 (i.out.vb p.out.1) o.out (by rw [g.out])).mono ?_;rintro c aL ⟨al,au,rfl,a7,C⟩;have ag:=p.out.trans C;obtain ⟨G,K,S⟩:=hqq3 (C.1.made F.out dC dC) a7 ag;clear a7 C ag F p;go_wp2_with fail;refine (aDE b a aL g.out oM).mono ?_;rintro c aM ⟨A3,av,f,rfl,af,a8,k⟩;obtain rfl:=af.unique o.out;obtain ⟨H,M,N,U⟩:=hqq4 ((kc k).made G.out dC dC) ((kc k).made K.out dC dC) a8 (S.out.trans (kd k));clear af a8 k G K S;go_wp2_with fail;refine (aCH al A3 (a+1) au (a+1) av _ _ (aH (aJ b) f) (aH (aJ b) f) aM M.out.rd N.out.rd oM oM).mono ?_;rintro c aN ⟨rfl,y⟩;have a4:decide (aH (aJ b) f=aH (aJ b) f)=true:=zBz rfl;rw [a4];obtain ⟨I,s⟩:=hqq2 ((kc y).made H.out dC dC) (U.out.trans (kd y));clear a4 y H M N U;go_wp2_with fail;refine (aDo B own gs gl most rate a b f aN (i.out.vb s.out.1) g.out o.out).mono ?_;rintro c aj ⟨am,aw,aF,aE,rfl,a9,aA,aa,ab,z⟩;obtain ⟨J,t,P,Q,O⟩:=hqq5 ((kc z).made I.out dC dC) (s.out.trans (kd z)) aa ab a9;clear a9 aa ab z I s;go_wp2_with fail;refine (aFa B own gs gl most rate b aj (i.out.vb t.out.1)).mono ?_;rintro c b0 ⟨rfl,rfl⟩;go_wp2_with fail;refine (aDu am ak aE aw (a+1) ar _ _ aF f rate a aj Q.out J.out.rd nL nL O.out rfl aA oM aC P.out).mono ?_;rintro c aO ⟨rfl,a2⟩;have u:=lhd (t.out.trans (kd a2));clear a2 P Q O J t;go_wp2_with fail;refine (aBG B own gs gl most rate a b aO (i.out.vb u.out.1) g.out).mono ?_;rintro c aP ⟨D,X,ai,e,rfl,aB,ac,⟨ap,Z⟩,a5,a3⟩;obtain ⟨V,m,an,E⟩:=hqq4 (u.out.trans (kd a3)) ac Z a5;clear ac Z a5 a3 u;have ax:IntKind.i64.wrap ((a:Int)+1)=((a+1:Nat):Int):=by rw [wI0];omega
 go_wp2_with fail;refine (aG3 D e X ai ((a+1:Nat):Int) ap _ aP m.out nL oM an.out (fun aI aD=>by obtain ⟨n,ay,aV,az⟩:=E.out aI aD;exact ⟨n,ay,by omega,az⟩)).mono ?_;rintro c aQ ⟨rfl,l⟩;obtain ⟨W,R⟩:=hqq2 (V.out.trans (kd l)) (m.out.below l);have ad:=l.size;clear l V m ax;go_wp2_with fail;refine (aIs D e X ai _ aQ R.out ad aB E.out).mono ?_;rintro c aK ⟨⟨aq,rfl⟩,a1⟩;have ao:=lhd (W.out.trans (kd a1));clear a1 W R ad;have aW:∀x,(Instr.field 80 (.agg #[(aq:Int),o0,(e:Int),(e:Int)]) 3).run prog x=.ok (.int .i64 (e:Int)) x:=fun x=>by kernel_rfl
 go_wp2_with fail;refine (aEq a aK oM).mono ?_;rintro c aZ ⟨⟨aR,rfl,aY⟩,rfl⟩;have aT:decide ((e:Int)<=aR)=true:=zBz oM;go_wp2_with fail;go_ret;exact ⟨rfl,ao.out⟩
def qX:List Sp:= [⟨1,0,0, [98,97,110,97,110,97]⟩,⟨6,0,0, [97,110,97]⟩,⟨7,0,0, [97,110,97]⟩,⟨5,1,3, []⟩]
def aK8:txM ((20:Nat):Int) qX 4= [98,97,110,97,110,97]:=by rfl
def aLb:anM ((20:Nat):Int) qX 1=⟨0,2, [], []⟩:=by rfl
def aLa:anM ((20:Nat):Int) qX 2=⟨0,2, [], [1,3]⟩:=by rfl
def aK9:anM ((20:Nat):Int) qX 3=⟨0,0, [97,110,97], []⟩:=by rfl
def aBy {w B gs a n own b f c} (e:w.heap[a]?=some (.cells b 5 f)) (i:Ap own gs a) (g:b.toList=c.map bv) (j:c.length=n):ArgZ w B own gs (some ⟨a,0,none⟩) n c:=
 ⟨⟨by simp [j],fun _=>⟨a,0,rfl,(zAh.1 e).1,fun l o k=>by rw [zBi,cell_of_row w a l b _ f e,<-Array.getElem?_toList,g];exact k⟩⟩,fun _ m d=>by
   injection d with d;subst d;exact .inr ⟨i,b,_,e⟩⟩
def lZ {w w'} {a:Nat} {c:Obj} (b:w.heap[a]?=some c) (d:Below w.heap.size w w'):w'.heap[a]?=some c:=(d.block a (zAh.1 b).1).trans b
def uZ (w) (Q:TabW w):Calls prog 14 #[] w fun E w'=>E=.returned (.bool true)/\Below w.heap.size w w':=by
 have aL:=Q.pos;obtain ⟨B,a7⟩:=eqx w.heap.size;have a8:1 < B:=oM;obtain ⟨aB,Z⟩:=hqq2 Q a7;clear Q aL a7;go_enter func14,ntmps14;go_wp2_with fail;refine (pO 20 4 w oM oM oM).mono ?_;rintro E w1 ⟨gs,gl,own,rfl,j,y⟩;rw [Z.out] at j y;obtain ⟨c,k⟩:=eqx (w1.alloc (.cells #[.int .u8 98,.int .u8 97,.int .u8 110,.int .u8 97,.int .u8 110,.int .u8 97] 5 (6,7)));obtain ⟨d,l⟩:=eqx (c.alloc (.cells #[.int .u8 97,.int .u8 110,.int .u8 97] 5 (3,4)));obtain ⟨wc,m⟩:=eqx (d.alloc (.cells #[.int .u8 97,.int .u8 110,.int .u8 97] 5 (3,4)));obtain ⟨u,S⟩:∃u:Array Value,#[.int .i64 1,.int .i64 0,.int .i64 0,.slice (some w1.heap.size) 6 6,.int .i64 6,.int .i64 0,.int .i64 0,.slice (some c.heap.size) 3 3,.int .i64 7,.int .i64 0,.int .i64 0,.slice (some d.heap.size) 3 3,.int .i64 5,.int .i64 1,.int .i64 3,.slice none 0 0]=u:=⟨_,rfl⟩;obtain ⟨o,e⟩:=eqx (wc.alloc (.cells u 44));have N:Below w1.heap.size w1 c:=by rw [<-k];exact bR.alloc nL _
 have C:Below c.heap.size c d:=by rw [<-l];exact bR.alloc nL _
 have s:Below d.heap.size d wc:=by rw [<-m];exact bR.alloc nL _
 have t:Below wc.heap.size wc o:=by rw [<-e];exact bR.alloc nL _
 have aj:c.heap[w1.heap.size]?=some (.cells #[.int .u8 98,.int .u8 97,.int .u8 110,.int .u8 97,.int .u8 110,.int .u8 97] 5 (6,7)):=by rw [<-k];exact heap_alloc_new w1 _
 have al:d.heap[c.heap.size]?=some (.cells #[.int .u8 97,.int .u8 110,.int .u8 97] 5 (3,4)):=by rw [<-l];exact heap_alloc_new c _
 have an:wc.heap[d.heap.size]?=some (.cells #[.int .u8 97,.int .u8 110,.int .u8 97] 5 (3,4)):=by rw [<-m];exact heap_alloc_new d _
 have a:Bk o wc.heap.size 44 u:=by rw [<-e];exact ke _ _ _
 have i:=N.size;have F:=C.size;have ab:=s.size;have O:=(N.trans (C.mono i)).trans ((s.mono (zAk i F)).trans (t.mono (zAk i (zAk F ab))));have ak:=lZ (lZ (lZ aj C) s) t;have am:=lZ (lZ al s) t;have ao:=lZ an t;have aO:=j.blk.lt;have x:∀M,w1.heap.size<=M->Ap own gs M:=fun M y=>⟨j.fresh y,by omega⟩;have H:=j.vb (kc O);have R:=y.trans (O.mono j.size);have ai:StpZ o B own gs (some ⟨wc.heap.size,0,none⟩) 4 qX:=⟨rfl,fun _=>⟨_,0,rfl,a.lt,.inr ⟨x _ oM,u,_,a⟩,fun f g b=>by
  subst S;rcases f with _ | _ | _ | _ | f;injection b with b;subst b;exact ⟨_,_,_,(a.cell 0).trans rfl,(a.cell 1).trans rfl,(a.cell 2).trans rfl,(a.cell 3).trans rfl,aBy ak (x _ nL) rfl rfl⟩;injection b with b;subst b;exact ⟨_,_,_,(a.cell 4).trans rfl,(a.cell 5).trans rfl,(a.cell 6).trans rfl,(a.cell 7).trans rfl,aBy am (x _ i) rfl rfl⟩;injection b with b;subst b;exact ⟨_,_,_,(a.cell 8).trans rfl,(a.cell 9).trans rfl,(a.cell 10).trans rfl,(a.cell 11).trans rfl,aBy ao (x _ (zAk i F)) rfl rfl⟩;injection b with b;subst b;exact ⟨_,_,_,(a.cell 12).trans rfl,(a.cell 13).trans rfl,(a.cell 14).trans rfl,(a.cell 15).trans rfl,Rd.nil _ _ _ _,fun aK=>absurd aK oM⟩
  · cases b⟩⟩
 have ag:Calls prog 9 #[gs,.slice (some wc.heap.size) 4 4] o (aAM o B own gs 20 4 (txM ((20:Nat):Int) qX) (anM ((20:Nat):Int) qX) 4):=
  uF B own gs gl 20 4 (txM ((20:Nat):Int) qX) (anM ((20:Nat):Int) qX) _ 4 4 qX o H ai oM fun f g aS aJ aw aA au aF ac aQ aP a9=>by have b2:g.D.length=au:=(by simpa using a9.1.1);have b4:g.D.length<=6:=(by have:=zAd ac;simp only [qX,List.mem_cons,List.not_mem_nil,or_false] at this;rcases this with rfl | rfl | rfl | rfl <;> decide);have aN:Below B w aw:=R.trans (aP.below H.size);exact yU B aS gs aJ 20 4 (txM ((20:Nat):Int) qX f) g.D (txM ((20:Nat):Int) qX (f+1)) (anM ((20:Nat):Int) qX f) g.kind g.p g.k aA au aF aw (aCh ac) aQ a9 oM ((show TabW w from aB.out).below aN a8) a8 (by have:=kZ 20 qX (f+1);omega)
 obtain ⟨a2,a3,a0,I,J,K,a5,a1⟩:=hqq8 ag H R k l m e S;clear ag H R ai x aO aj al an a ak am ao N C s t O i F ab j y k l m e S;have ap:(convert 22 22 (.slice (some w1.heap.size) 6 6)).run prog (w1.alloc (.cells #[.int .u8 98,.int .u8 97,.int .u8 110,.int .u8 97,.int .u8 110,.int .u8 97] 5))=.ok (.slice (some w1.heap.size) 6 6) (w1.alloc (.cells #[.int .u8 98,.int .u8 97,.int .u8 110,.int .u8 97,.int .u8 110,.int .u8 97] 5 (6,7))):=oL w1 #[.int .u8 98,.int .u8 97,.int .u8 110,.int .u8 97,.int .u8 110,.int .u8 97] 6 6;rw [I.out] at ap;have aq:(convert 22 22 (.slice (some c.heap.size) 3 3)).run prog (c.alloc (.cells #[.int .u8 97,.int .u8 110,.int .u8 97] 5))=.ok (.slice (some c.heap.size) 3 3) (c.alloc (.cells #[.int .u8 97,.int .u8 110,.int .u8 97] 5 (3,4))):=oL c #[.int .u8 97,.int .u8 110,.int .u8 97] 3 3;rw [J.out] at aq;have ar:(convert 22 22 (.slice (some d.heap.size) 3 3)).run prog (d.alloc (.cells #[.int .u8 97,.int .u8 110,.int .u8 97] 5))=.ok (.slice (some d.heap.size) 3 3) (d.alloc (.cells #[.int .u8 97,.int .u8 110,.int .u8 97] 5 (3,4))):=oL d #[.int .u8 97,.int .u8 110,.int .u8 97] 3 3;rw [K.out] at ar;have k:=I.out;have l:=J.out;have m:=K.out;have e:=a5.out;rw [<-a1.out] at e;go_wp2_with fail;clear ap aq ar k l m e;refine a2.out.mono ?_;rintro E z ⟨b7,ba,aR,aI,rfl,ae,aM,af,V,ad⟩;rw [aK8] at V;have W:=AnsAt.of_z ae af;obtain ⟨aV,aX,rfl,b3,aZ⟩:=W.slice;obtain ⟨aY,b5,aH,b1,G⟩:=W.get oM;subst aH;obtain ⟨_,_,_,_,_,ax,_⟩:=G 1 oM;obtain ⟨_,_,aU,aW,_,_,_,ay,_,X⟩:=G 2 oM;obtain ⟨A3,aE,_,_,_,_,az,_,Y,_⟩:=G 3 oM;rw [aLb] at ax;rw [aLa] at ay X;rw [aK9] at az Y;obtain ⟨a6,av,aG,b0,U⟩:=X.rd.2 dC;subst aG;have aT:z.cell? ⟨a6,av+0,none⟩=some (.int .i64 1):=U 0 (.int .i64 1) rfl;have b9:z.cell? ⟨a6,av+1,none⟩=some (.int .i64 3):=U 1 (.int .i64 3) rfl;rw [zBq] at aT;have b6:(convert 22 9 (.slice A3 3 aE)).run prog z=.ok (.string ⟨#[97,110,97]⟩) z:=(kN (P:=prog) 22 9 5 underlying22 underlying5 underlying9 Y.rd).trans rfl;have aa:=a0.out.trans (ad.below a3.out.size);obtain ⟨a4,aC⟩:=hqq2 V aa;simp only [zCg,List.length_nil,zBi,Nat.reduceAdd,Nat.reduceMul] at ax ay az;clear ae aM af V ad W G X Y U aa a3 a0 a2 I J K a5 a1;go_wp2_with fail;refine (zG B aR gs aI 20 4 [98,97,110,97,110,97] z a4.out).mono ?_;rintro E b8 ⟨rfl,ah⟩;have aD:=lhd (aC.out.trans (VB.to_below ah a4.out.size));clear ah;go_wp2_with fail;go_ret;exact ⟨rfl,by rw [Z.out];exact aD.out⟩
def vM (A:Option Addr) (F aq:Nat) (Z:List UInt8) (most rate:Int) (w:World) (b5:Rd w w.heap.size 1 A F (Z.map bv)) (cR:F<=aq) (dA:aq<=maxLen) (aT:TabW w):
 Calls prog 4 #[.slice A F aq,(most:Int),(rate:Int)] w fun j w'=>j=.returned (.bool true)/\Below w.heap.size w w':=by
 have cZ:=aT.pos;have c9:Z.length=F:=by simpa using b5.1
 obtain ⟨n,cT,aj⟩:=vT most 61 oM;obtain ⟨an,cU,cV⟩:=vT rate 20 oM;have cG:IntKind.i64.wrap (n:Int)=(n:Int):=by rw [wI0];omega
 have cH:IntKind.i64.wrap (an:Int)=(an:Int):=by rw [wI0];omega
 have bw:IntKind.i64.wrap (1+(an:Int))=((an+1:Nat):Int):=by rw [wI0];omega
 obtain ⟨o,c4⟩:=eqx (an+1);rw [c4] at bw;have dI:1<=o:=oM;have dJ:o<=64:=oM;have dF:n<=60:=oM;obtain ⟨B,bA⟩:=eqx w.heap.size;have aR:1 < B:=oM;obtain ⟨q,c1⟩:=eqx (Z.length / 3);obtain ⟨L,au⟩:=eqx (lA Z q);have bE:L.length=q:=by rw [<-au];simp [lA]
 have dH:3*q<=F:=oM;have c5:∀J∈L,SpB J/\J.D.length<=4:=by rw [<-au];exact aLH Z q
 obtain ⟨aI,aH,cp,d9,co,ci,bh,cq⟩:=hqq8 aT bA b5 c9 c1 au bE c5;clear aT cZ bA b5 c9 c4 cV aj c1 au bE c5;by_cases cK:F > 120
 · have cI:decide ((F:Int) > 120)=true:=zBz oM;go_enter func4,ntmps4;go_wp2_with fail;refine (uZ w aI.out).mono ?_;rintro j aG ⟨rfl,S⟩;have ck:=lhd S;clear S;go_wp2_with fail;go_ret;exact ⟨rfl,ck.out⟩
 have cI:decide ((F:Int) > 120)=false:=zBy oM;have cQ:F<=100000:=oM;have dE:F<=120:=oM;clear cK;go_enter func4,ntmps4;go_wp2_with fail;refine (pO n o w oM oM oM).mono ?_;rintro j w1 ⟨gs,bx,own1,rfl,V,aV⟩;rw [aH.out] at V aV;obtain ⟨gx,ai⟩:=eqx w1.heap.size;obtain ⟨ac,b9⟩:=eqx (w1.alloc (.cells #[.string ⟨#[]⟩,(n:Int)] 38));have ax:Below w1.heap.size w1 (w1.alloc (.cells #[.string ⟨#[]⟩,(n:Int)] 38)):=bR.alloc nL _;have av:MdX (w1.alloc (.cells #[.string ⟨#[]⟩,(n:Int)] 38)) w1.heap.size n (txM n L 0):=ke w1 38 #[.string ⟨#[]⟩,(n:Int)];rw [b9] at ax av;have bB:B<=gx:=by rw [<-ai];exact V.size
 have dB:gs < gx:=by rw [<-ai];exact V.blk.lt
 have a7:Ap own1 gs gx:=⟨V.fresh oM,by omega⟩;have c6:=V.vb (kc ax);have bO:=aV.trans (ax.mono V.size);rw [ai] at av;obtain ⟨a4,aJ,O,aK,bn,br⟩:=hqq6 c6 av a7 bO ai b9;clear V aV cH bw cU c6 av a7 bO ax ai b9 cG cT;go_wp2_with fail;rw [br.out,bn.out];have aw:=pP A F aq Z ac ((by have m:=cp.out;rw [aH.out] at m;exact m.below aK.out:Rd ac B 1 A F (Z.map bv)).mono a4.out.size) cQ cR;unfold oJ at aw;rw [co.out,ci.out] at aw;refine aw.mono ?_;rintro j aG ⟨vl,d7,rfl,b0,b7,S⟩;obtain ⟨N2,bF⟩:=eqx ac.heap.size;rw [bF] at b0 b7;have b8:StpR aG N2 vl q L:=⟨d7,b0,b7⟩;have c7:=a4.out.vb (kc S);have bK:MdX aG gx n (txM n L 0):=kg aJ.out S (Bk.lt aJ.out);have bP:=aK.out.trans (S.mono a4.out.size);have bz:∀K,N2<=K->Ap own1 gs K:=fun K a8=>⟨a4.out.fresh oM,by have:=a4.out.blk.lt;omega⟩;obtain ⟨A3,a5,rfl,dG,dz⟩:=b8.slice;have cb:StpZ aG B own1 gs A3 q L:=b8.stpZ bh.out bz;obtain ⟨bt,bq,bk,bl⟩:=hqq4 cb c7 bK bP;clear aw b0 b7 S b8 c7 bK bP bz bF cb a4 aJ aK br bn;go_wp2_with fail;go_loopw [12] (fun E wr=>∃(i:Nat) (own:Nat->Nat) (gl:Nat),i<=q/\E=.int .i64 (i:Int)/\StAt wr B own gs gl n o (txM n L i)/\MdX wr gx n (txM n L i)/\Ap own gs gx/\StpZ wr B own gs A3 q L/\Below B w wr) (fun E _=>q -(intOf E).toNat)
 case atStart=>exact ⟨0,own1,bx,zAp _,rfl,bq.out,bk.out,O.out,bt.out,bl.out⟩
 case round=>
  clear bq bk O bt bl bx own1;obtain ⟨i,own,gl,dD,rfl,al,U,a7,aF,a8⟩:=hrel;have aE:=al.size;by_cases cP:i < q
  · obtain ⟨u,C,cE,bU,bT,bW⟩:=aF.2 oM;subst cE;obtain ⟨J,aA⟩:∃J,L[i]?=some J:=⟨_,zAa (by rw [bh.out];exact cP)⟩;obtain ⟨N,M,R,aM,aN,aO,bu,a9⟩:=bW i J aA;obtain ⟨b6,cW⟩:=cq.out J (zAd aA);have cS:M<=4:=(by have:=a9.1.1;simp at this;omega);obtain ⟨T,bI⟩:=eqx (txM (n:Int) L i);obtain ⟨T2,aU⟩:=eqx (txM (n:Int) L (i+1));obtain ⟨r,c3⟩:=eqx (anM (n:Int) L i);have H:=aCh (most:=(n:Int)) aA;have bG:=kZ n L i;have bH:=kZ n L (i+1);have b3:=yF (n:Int) L i;rw [bI] at al U H bG b3;rw [aU] at H bH;rw [c3] at H b3;have b4:r.places.length<=1099511627776:=oM;obtain ⟨W,aY⟩:=eqx J.kind;obtain ⟨Y,b2⟩:=eqx J.p;obtain ⟨X,aZ⟩:=eqx J.k;obtain ⟨bf,aS⟩:=eqx J.D;have b1:=b6.pb;have aj:=b6.kb;rw [aY] at aM;rw [b2] at aN b1;rw [aZ] at aO aj;rw [aS] at a9;rw [aY,b2,aZ,aS] at H;have ak:∀a,FrT wr a B own gs->a.heap[u]?=wr.heap[u]?:=fun a I=>by rcases bT with j |⟨j,cw,cF,ar⟩;exact I.old _ j;exact I.same _ _ _ _ j (.inl rfl) ar
    have bX:∀a,FrT wr a B own gs->a.cell? ⟨u,C+i*4,none⟩=some (.int .i64 W)/\a.cell? ⟨u,C+i*4+1,none⟩=some (.int .i64 Y)/\a.cell? ⟨u,C+i*4+2,none⟩=some (.int .i64 X)/\a.cell? ⟨u,C+i*4+3,none⟩=some (.slice N M R):=fun a I=>
        ⟨(World.cell?_of_block (ak a I)).trans aM,(World.cell?_of_block (ak a I)).trans aN,(World.cell?_of_block (ak a I)).trans aO,(World.cell?_of_block (ak a I)).trans bu⟩
    have bY:0 < M->∀ap,N=some ap->ap.block≠gx:=fun cJ ap cM j=>by rcases a9.2 cJ ap cM with db |⟨_,cw,cF,ar⟩;omega;rw [j] at ar;have m:=U;unfold MdX Bk at m;rw [ar] at m;injection m with m;injection m with _ m;revert m;decide
    have aa:∀a,StAt a B own gs gl n o T->FrT wr a B own gs->Below B wr a->Calls prog 15 #[gs,.agg #[(W:Int),(Y:Int),(X:Int),.slice N M R]] a (StDone a B own gs n o T2 r):=fun a I bb cu=>
        yU B own gs gl n o T bf T2 r W Y X N M R a H I (a9.frt bb) oM ((show TabW w from aI.out).below (a8.trans cu) aR) aR oM
    have c2:∀a,MdX a gx n T->FrT wr a B own gs->Calls prog 11 #[.pointer (some ⟨gx,0,none⟩),.agg #[(W:Int),(Y:Int),(X:Int),.slice N M R]] a fun j w'=>bZ gx (n:Int) T2 r a w' j:=fun a I bb=>
        aF0 gx N M R a.heap.size W Y X (n:Int) T bf T2 r H a I (a9.frt bb).1 nL bY oM oM b1 aj oM
    have aD:∀a (a0 a1 a2 a3:Option Addr) (P Q ae t:Nat),Rd a a.heap.size 1 a0 r.data.length (r.data.map bv)->Rd a a.heap.size 1 a2 r.data.length (r.data.map bv)->Rd a a.heap.size 1 a1 r.places.length (r.places.map nv)->Rd a a.heap.size 1 a3 r.places.length (r.places.map nv)->Calls prog 13 #[.agg #[(r.code:Int),(r.num:Int),.slice a0 r.data.length P,.slice a1 r.places.length Q],.agg #[(r.code:Int),(r.num:Int),.slice a2 r.data.length ae,.slice a3 r.places.length t]] a fun j w'=>j=.returned (.bool true)/\Below a.heap.size a w':=fun a a0 a1 a2 a3 P Q ae t d1 d2 d3 d4=>
        (vD r.code r.code r.num r.num a0 a2 a1 a3 r.data.length P r.data.length ae r.places.length Q r.places.length t _ _ _ _ r.data r.data r.places r.places a d1 d2 d3 d4 nL nL nL nL b4 b4).mono (by rintro j w' ⟨rfl,m⟩;exact ⟨by simp,m⟩)
    obtain ⟨N0,ag⟩:=eqx wr.heap.size;have ca:gx < N0:=(by rw [<-ag];exact Bk.lt U);have dx:B<=N0:=oM;have bg:Hid (QdC wr B gs gx N0 n own wr):=lhd ⟨kh _ _,aE,Nat.le_of_eq ag.symm,FrT.refl _ _ _ _,T,U⟩;have bj:Hid (∀E,QdU B gs gl gx own n o T E wr):=lhd fun E=>⟨fun _=>al,fun _=>U⟩;obtain ⟨bs,aL,bm,bo,bp,O,ad,d8,bi⟩:=hqq9 aF bX aa c2 aD a7 a8 ag aU;have dK:(i:Int) < (q:Int):=oM;have dy:u < N0:=(by rw [<-ag];exact bU);clear al U a7 aF a8 aE bW bU bT aA a9 aM aN aO bu b6 cW cS H bG bH b3 b4 aY b2 aZ aS b1 aj ak bX bY aa c2 aD ag bI aU c3;go_wp2_with fail;refine wp_region_any kR ?_;refine aCd 23 [48,49,50,51,52,53,54,55,56,57,58,59,60,61,62,63,64,65,66,67,68,69,70] (QdC wr B gs gx N0 n own) (QdS B gs gx own n o T2) (QdU B gs gl gx own n o T) (Vs [is gs,is (.slice (some ⟨u,C,none⟩) q a5),is (i:Int),is (.pointer (some ⟨u,C+i*4,none⟩)),is (.agg #[(W:Int),(Y:Int),(X:Int),.slice N M R]),QdA B gs gx N0 n o (some ⟨u,C,none⟩) q L T2 r,is (.pointer (some ⟨gx,0,none⟩)),is (.slice (some ⟨u,C,none⟩) q a5),is (i:Int),is (.pointer (some ⟨u,C+i*4,none⟩)),is (.agg #[(W:Int),(Y:Int),(X:Int),.slice N M R]),PyB gx N0 n T2 r,QdG B gs gx n o T2 true,QdG B gs gx n o T2 false,QdG B gs gx n o T2 false,is gs,is (.pointer (some ⟨gx,0,none⟩)),is (.pointer (some ⟨gx,0,none⟩)),is (.pointer (some ⟨gx,0,none⟩)),is (.string ⟨T2.toArray⟩),is (.bool true),is (.bool false),is (.bool false)]) _ _ rfl dC kR kR bg.out.drew (fun E=>(bj.out E).drew) (fun y w1 ac _ m i=>m.step i O.out bB) ?_ ?_ ?_ ?_
    · intro E y w1 ac _ ay s cX bC i;refine cX.step i O.out ay (fun j a6=>?_) (fun j a6=>?_) (fun j a6=>?_)
      · subst j;subst a6;rw [show upB _ _ _ _ _=true from by kernel_rfl] at s;cases s
      · subst j;subst a6;rw [show upB _ _ _ _ _=true from by kernel_rfl] at s;cases s
      · subst j;subst a6;rw [show upB _ _ _ _ _=true from by kernel_rfl] at s;cases s
    · intro E y v w1 ac _ ay bM s l bC i;rcases E with _ | _ | _ | _ | _ | _ | _ | _ | _ | _ | _ | _ | _ | _ | _ | _ | _ | _ | _ | _ | _ | _ | _ | E;exact l;exact l;exact l;exact l;exact l;obtain ⟨da,cL⟩:=bC.2.2.2.2;by_cases G:y=11;exact QdA.keep l (i.2.1 G).1 ca bB cL;by_cases z:y=20;exact QdA.vis l (i.2.2.1 z);exact QdA.below l (i.2.2.2 (fun j=>ay j.symm) G z);exact l;exact l;exact l;exact l;exact l
      · by_cases t:y=5
        · subst t;rw [show uD _ _ _ _=true from by kernel_rfl] at bM;cases bM
        by_cases z:y=20;exact PyB.vis l (i.2.2.1 z).1;exact PyB.below l (i.2.2.2 t (fun j=>ay j.symm) z)
      · by_cases t:y=5
        · subst t;rw [show upB _ _ _ _ _=true from by kernel_rfl] at s;cases s
        by_cases G:y=11
        · subst G;rw [show upB _ _ _ _ _=true from by kernel_rfl] at s;cases s
        by_cases z:y=20;exact QdG.vis l (i.2.2.1 z).1;exact QdG.vis l (kc (i.2.2.2 t G z))
      · by_cases t:y=5
        · subst t;rw [show upB _ _ _ _ _=true from by kernel_rfl] at s;cases s
        by_cases G:y=11
        · subst G;rw [show upB _ _ _ _ _=true from by kernel_rfl] at s;cases s
        by_cases z:y=20;exact QdG.vis l (i.2.2.1 z).1;exact QdG.vis l (kc (i.2.2.2 t G z))
      · by_cases t:y=5
        · subst t;rw [show upB _ _ _ _ _=true from by kernel_rfl] at s;cases s
        by_cases G:y=11
        · subst G;rw [show upB _ _ _ _ _=true from by kernel_rfl] at s;cases s
        by_cases z:y=20;exact QdG.vis l (i.2.2.1 z).1;exact QdG.vis l (kc (i.2.2.2 t G z))
      exact l;exact l;exact l;exact l;exact l;exact l;exact l;exact l;exact trivial
    · refine bJ ?_;refine sC3 (fun k _ c f _ _ x _ _ _ _ e=>?_) ?_
      · have cD:k (.tmp 8)=.pointer (some gs):=x 8 kR;clear f c;go_simp;exact e _ _ (eR dC dC dC bR) rfl
      refine sC3 (fun k _ c f _ _ x _ _ _ _ e=>?_) ?_
      · have cy:k (.tmp 11)=.slice (some ⟨u,C,none⟩) q a5:=x 11 kR;clear f c;go_simp;exact e _ _ (eR dC dC dC bR) rfl
      refine sC3 (fun k _ c f _ _ x _ _ _ _ e=>?_) ?_
      · have cz:k (.tmp 12)=.int .i64 (i:Int):=x 12 kR;clear f c;go_simp;exact e _ _ (eR dC dC dC bR) rfl
      refine sC3 (fun _ _ c f _ _ _ g _ _ _ e=>?_) ?_
      · have dd:_=_:=g 1 49 kR rfl;have de:_=_:=g 2 50 kR rfl;clear f c;go_simp;exact e _ _ (eR dC dC dC bR) rfl
      refine sC3 (fun _ a c _ _ _ _ g _ _ _ e=>?_) ?_
      · have df:_=_:=g 3 51 kR rfl;obtain ⟨cv,P,Q,a5⟩:=aL.out a c.2.2.2.1;go_simp;exact e _ _ (eR dC dC dC bR) rfl
      refine sC3 (fun _ a c f _ _ _ g _ _ _ e=>?_) ?_
      · have dc:_=_:=g 0 48 kR rfl;have dg:_=_:=g 4 52 kR rfl;have aa:=bm.out a (f.1 rfl) c.2.2.2.1 c.1;have ba:=bs.out.frt c.2.2.2.1;have ao:=lhd c.2.2.1;clear f c;go_simp;refine aa.mono ?_;intro j be ah;cases j with
        | returned v=>
          obtain ⟨aP,H⟩:=aK0 O.out (zAl ca ao.out) ao.out ba ah;exact e _ _ H aP
        | _=>obtain ⟨_,_,_,_,_,_,aX,_⟩:=ah;cases aX
      refine sC3 (fun k _ c f _ _ x _ _ _ _ e=>?_) ?_
      · have cx:k (.tmp 10)=.pointer (some ⟨gx,0,none⟩):=x 10 kR;clear f c;go_simp;exact e _ _ (eR dC dC dC bR) rfl
      refine sC3 (fun k _ c f _ _ x _ _ _ _ e=>?_) ?_
      · have cy:k (.tmp 11)=.slice (some ⟨u,C,none⟩) q a5:=x 11 kR;clear f c;go_simp;exact e _ _ (eR dC dC dC bR) rfl
      refine sC3 (fun k _ c f _ _ x _ _ _ _ e=>?_) ?_
      · have cz:k (.tmp 12)=.int .i64 (i:Int):=x 12 kR;clear f c;go_simp;exact e _ _ (eR dC dC dC bR) rfl
      refine sC3 (fun _ _ c f _ _ _ g _ _ _ e=>?_) ?_
      · have di:_=_:=g 7 55 kR rfl;have dj:_=_:=g 8 56 kR rfl;clear f c;go_simp;exact e _ _ (eR dC dC dC bR) rfl
      refine sC3 (fun _ a c _ _ _ _ g _ _ _ e=>?_) ?_
      · have dk:_=_:=g 9 57 kR rfl;obtain ⟨cv,P,Q,a5⟩:=aL.out a c.2.2.2.1;go_simp;exact e _ _ (eR dC dC dC bR) rfl
      refine sC3 (fun _ a c f _ _ _ g _ _ _ e=>?_) ?_
      · have dh:_=_:=g 6 54 kR rfl;have dl:_=_:=g 10 58 kR rfl;have aa:=bo.out a (f.2 rfl) c.2.2.2.1;have ao:=lhd c.2.2.1;clear f c;go_simp;refine aa.mono ?_;intro j be ah;cases j with
        | returned v=>
          obtain ⟨aP,H⟩:=aKZ (B:=B) (gs:=gs) (rate:=o) (own:=own) ao.out ah;exact e _ _ H aP
        | _=>obtain ⟨_,_,_,_,aX,_⟩:=ah;cases aX
      refine sC3 (fun k a c f _ _ _ g _ _ _ e=>?_) ?_
      · have bc:(QdA B gs gx N0 n o (some ⟨u,C,none⟩) q L T2 r) (k (.tmp 53)) a:=g 5 53 kR rfl;have bd:(PyB gx N0 n T2 r) (k (.tmp 59)) a:=g 11 59 kR rfl;obtain ⟨am,af,az,d0,ba,a0,P,a1,Q,cA,cd,ce⟩:=bc;obtain ⟨a2,ae,a3,t,cB,cf,cg,bL⟩:=bd;have aD:=bp.out a a0 a1 a2 a3 P Q ae t cd.rd cf.1 ce.rd cg.rd;unfold gX at cA cB;clear f c cd ce cf cg d0 ba;go_simp;refine aD.mono ?_;rintro j be ⟨rfl,aW⟩;exact e _ _ (eR dC dC dC aW) ⟨rfl,kg bL aW (Bk.lt bL),am,af,az.vb (kc aW)⟩
      refine sC3 (fun k a c f _ _ _ g _ _ _ e=>?_) ?_
      · have d5:(QdG B gs gx n o T2 true) (k (.tmp 60)) a:=g 12 60 kR rfl;obtain ⟨dm,aQ⟩:=d5;clear f c;go_simp;exact e _ _ (eR dC dC dC bR) ⟨rfl,aQ⟩
      refine sC3 (fun k a c f _ _ _ g _ _ _ e=>?_) ?_
      · have d6:(QdG B gs gx n o T2 false) (k (.tmp 61)) a:=g 13 61 kR rfl;obtain ⟨dn,aQ⟩:=d6;clear f c;go_simp;exact e _ _ (eR dC dC dC bR) ⟨rfl,aQ⟩
      refine aB (fU (d:=62) (b:=false) rfl rfl rfl kR (fun _ _ _ m=>m.1) fun k _ c f _ _ x _ _ _ _ e=>?_) ?_
      · have cD:k (.tmp 8)=.pointer (some gs):=x 8 kR;clear f c;go_simp;exact e _ _ (eR dC dC dC bR) rfl
      refine aB (fU (d:=62) (b:=false) rfl rfl rfl kR (fun _ _ _ m=>m.1) fun k _ c f _ _ x _ _ _ _ e=>?_) ?_
      · have cx:k (.tmp 10)=.pointer (some ⟨gx,0,none⟩):=x 10 kR;clear f c;go_simp;exact e _ _ (eR dC dC dC bR) rfl
      refine aB (fU (d:=62) (b:=false) rfl rfl rfl kR (fun _ _ _ m=>m.1) fun _ _ c f _ _ _ g _ _ _ e=>?_) ?_
      · have dr:_=_:=g 16 64 kR rfl;clear f c;go_simp;exact e _ _ (eR dC dC dC bR) rfl
      refine aB (fU (d:=62) (b:=false) rfl rfl rfl kR (fun _ _ _ m=>m.1) fun _ _ c f _ _ _ g _ _ _ e=>?_) ?_
      · have ds:_=_:=g 17 65 kR rfl;clear f c;go_simp;exact e _ _ (eR dC dC dC bR) rfl
      refine aB (fU (d:=62) (b:=false) rfl rfl rfl kR (fun _ _ _ m=>m.1) fun k a c f _ _ _ g _ _ _ e=>?_) ?_
      · have dt:_=_:=g 18 66 kR rfl;have ab:(QdG B gs gx n o T2 false) (k (.tmp 62)) a:=g 14 62 kR rfl;have dM:a.cell? ⟨gx,0,none⟩=some (.string ⟨T2.toArray⟩):=(Bk.cell ab.2.1 0).trans rfl;clear f c ab;go_simp;exact e _ _ (eR dC dC dC bR) rfl
      refine aB (fU (d:=62) (b:=false) rfl rfl rfl kR (fun _ _ _ m=>m.1) fun k a c f _ _ _ g _ _ _ e=>?_) ?_
      · have dq:_=_:=g 15 63 kR rfl;have du:_=_:=g 19 67 kR rfl;have ab:(QdG B gs gx n o T2 false) (k (.tmp 62)) a:=g 14 62 kR rfl;obtain ⟨_,_,am,af,az⟩:=ab;have cN:=zG B am gs af n o T2 a az;clear f c az;go_simp;refine cN.mono ?_;rintro j be ⟨rfl,cY⟩;exact e _ _ (aKY cY) rfl
      refine aB (fU (d:=62) (b:=false) rfl rfl rfl kR (fun _ _ _ m=>m.1) fun _ _ c f _ _ _ g _ _ _ e=>?_) ?_
      · have dv:_=_:=g 20 68 kR rfl;clear f c;go_simp;exact e _ _ (eR dC dC dC bR) rfl
      refine sC3 (fun k a c f _ _ _ g _ _ _ e=>?_) ?_
      · have ab:(QdG B gs gx n o T2 false) (k (.tmp 62)) a:=g 14 62 kR rfl;have dw:_=_:=g 21 69 kR rfl;obtain ⟨dp,_⟩:=ab;clear f c;go_simp;exact e _ _ (eR dC dC dC bR) rfl
      exact aC
    · intro k ch a6 bD g;have bc:(QdA B gs gx N0 n o (some ⟨u,C,none⟩) q L T2 r) (k (.tmp 53)) ch:=g 5 53 dC rfl;have bd:(PyB gx N0 n T2 r) (k (.tmp 59)) ch:=g 11 59 dC rfl;have cC:k (.tmp 70)=.bool false:=g 22 70 dC rfl;simp only [zqq];rw [cC];clear g;refine bV kR ?_;obtain ⟨am,af,c8,bN,cc,_⟩:=bc;obtain ⟨_,_,_,_,_,_,_,c0⟩:=bd;have bQ:=ad.out.trans bD.1;obtain ⟨cr,cj,ct,cn,cl⟩:=hqq5 c8 bN cc c0 bQ;clear c8 bN cc c0 bQ bD bg bj bs aL bm bo bp O ad;go_wp2_with fail;go_roundw
      case rel=>exact ⟨i+1,am,af,by omega,by go_num,by rw [bi.out];exact cr.out,by rw [bi.out];exact cn.out,cj.out,ct.out,cl.out⟩
      case measure=>simp [intOf];omega
  · have cO:i=q:=oM;subst cO;obtain ⟨ad,cs⟩:=hqq2 a8 aE;clear a8 al U a7 aF aE;go_wp2_with fail;refine (uZ wr ((show TabW w from aI.out).below ad.out aR)).mono ?_;rintro j dL ⟨rfl,bS⟩;have cm:=lhd (ad.out.trans (bS.mono cs.out));clear bS;go_wp2_with fail;go_ret;exact ⟨rfl,by rw [aH.out];exact cm.out⟩
end Go.Proofs.YtecdldbdednahaaGreatDoor
