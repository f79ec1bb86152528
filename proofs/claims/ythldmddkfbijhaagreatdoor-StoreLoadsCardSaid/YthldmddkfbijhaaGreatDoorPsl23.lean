/- Lemmas of the walk. Conditions: each its own. -/
import Derived.Test.YthldmddkfbijhaaGreatDoorPsl22
import Derived.Test.YthldmddkfbijhaaGreatDoorProg
import Derived.Test.YthldmddkfbijhaaGreatDoorSht
import Derived.Test.YthldmddkfbijhaaGreatDoorShl
import Derived.Test.YthldmddkfbijhaaGreatDoorShi
import Derived.Test.YthldmddkfbijhaaGreatDoorShs
set_option linter.all false
set_option maxRecDepth 100000
set_option maxHeartbeats 4000000
open Go.Proofs.Tryz
namespace Go.Proofs.YthldmddkfbijhaaGreatDoor
open Go.RowKit
section
variable {w w' : World} {v v1 : Value} {B gs1 gs2 gl1 gl2 gx gt N0 most rate : Nat} {own own' own1 own2 own2' : Nat -> Nat} {T T2 : List UInt8} {r : Told}
def RowZ (w:World) (N0:Nat) (own:Nat->Nat) (gs:Nat) (e:TypeId) (A:Option Addr) (n c:Nat) (xs:List Value):Prop:=Made w N0 e 1 A n c xs/\∀a,A=some a->Ap own gs a.block
section
variable {e : TypeId} {A : Option Addr} {n c gs : Nat} {xs : List Value}
def RowZ.lfs (a:RowZ w N0 own gs e A n c xs) (m:LFS B gs w w' own own') (j:e≠202) (k:e≠154):RowZ w' N0 own gs e A n c xs:=by
 have d:w'.ownsRow N0 e 1 (.slice A n c) n xs:=aA a.1.own fun g o f l=>by
  rcases A with _ | b
  · cases f
  have i:b.block=g:=(by simpa [Value.ownBlock] using f);have:=a.2 b rfl;rw [i] at this;exact m.bk l this.col this.ne j k
 exact ⟨⟨d,Rd.of_own d,a.1.cap,a.1.max⟩,a.2⟩
def RowZ.below (a:RowZ w N0 own gs e A n c xs) (b:Below w.heap.size w w'):RowZ w' N0 own gs e A n c xs:=⟨a.1.below b,a.2⟩
def RowZ.keep (b:RowZ w N0 own gs e A n c xs) (d:Keep (fun a=>a=gx) w w') (g:gx < N0):RowZ w' N0 own gs e A n c xs:=⟨b.1.keepF d (fun a e=>by have f:a=gx:=e;omega),b.2⟩
end
def TrA (B gs1 gs2 gx N0 most rate:Nat) (own2:Nat->Nat) (T2:List UInt8) (r:Told) (v:Value) (w:World):Prop:=∃a i,StAt w B a gs1 i most rate T2/\Two a gs1 own2 gs2/\Ap a gs1 gx/\∃b f d g,v=.agg (jN r b f d g)/\RowZ w N0 own2 gs2 5 b r.data.length f (r.data.map bv)/\RowZ w N0 own2 gs2 3 d r.places.length g (r.places.map nv)
def TrA.below (j:TrA B gs1 gs2 gx N0 most rate own2 T2 r v w) (a:Below w.heap.size w w'):TrA B gs1 gs2 gx N0 most rate own2 T2 r v w':=by
 obtain ⟨s,i,k,l,m,b,f,d,g,o,p,q⟩:=j;exact ⟨s,i,k.vb (Vis.of_below a),l,m,b,f,d,g,o,p.below a,q.below a⟩
def TrA.keep (o:TrA B gs1 gs2 gx N0 most rate own2 T2 r v w) (b:Keep (fun a=>a=gx) w w') (f:gx < N0):TrA B gs1 gs2 gx N0 most rate own2 T2 r v w':=by
 obtain ⟨x,m,p,q,d,g,j,i,k,s,t,u⟩:=o;exact ⟨x,m,p.far b (fun a e=>by have l:a=gx:=e;rw [l];exact d),q,d,g,j,i,k,s,t.keep b f,u.keep b f⟩
def TrA.step2 (m:TrA B gs1 gs2 gx N0 most rate own2 T2 r v w) (j:own2 gs2=0) (a:LFS B gs2 w w' own2 own2'):TrA B gs1 gs2 gx N0 most rate own2 T2 r v w':=by
 obtain ⟨t,l,b,d,o,f,i,g,k,p,q,s⟩:=m;exact ⟨t,l,(b.other a (d.symm b.col j)).1,d,o,f,i,g,k,p,q.lfs a dC dC,s.lfs a dC dC⟩
def TrB (B gs1 gs2 gx N0 most rate:Nat) (T2:List UInt8) (r:Told) (v:Value) (w:World):Prop:=∃a i own2' j,StAt w B a gs1 i most rate T2/\StAt w B own2' gs2 j most rate T2/\Two a gs1 own2' gs2/\Ap a gs1 gx/\Ap own2' gs2 gx/\∃b f d g,v=.agg (jN r b f d g)/\Made w N0 5 1 b r.data.length f (r.data.map bv)/\Made w N0 3 1 d r.places.length g (r.places.map nv)
def TrB.below (j:TrB B gs1 gs2 gx N0 most rate T2 r v w) (a:Below w.heap.size w w'):TrB B gs1 gs2 gx N0 most rate T2 r v w':=by
 obtain ⟨u,i,x,y,k,l,m,o,p,b,f,d,g,q,s,t⟩:=j;exact ⟨u,i,x,y,k.vb (Vis.of_below a),l.vb (Vis.of_below a),m,o,p,b,f,d,g,q,s.below a,t.below a⟩
def TrB.keep (o:TrB B gs1 gs2 gx N0 most rate T2 r v w) (d:Keep (fun a=>a=gx) w w') (D:gx < N0):TrB B gs1 gs2 gx N0 most rate T2 r v w':=by
 obtain ⟨y,m,z,C,p,q,s,f,g,i,k,j,l,t,u,x⟩:=o;exact ⟨y,m,z,C,p.far d (fun a e=>by have b:a=gx:=e;rw [b];exact f),q.far d (fun a e=>by have b:a=gx:=e;rw [b];exact g),s,f,g,i,k,j,l,t,u.keepF d (fun a e=>by have b:a=gx:=e;omega),x.keepF d (fun a e=>by have b:a=gx:=e;omega)⟩
def TrS (B gs1 gs2 gx:Nat) (own1 own2:Nat->Nat) (most rate:Nat) (T2:List UInt8) (a:Nat) (w w':World):Prop:=(a=2->DoS B gs1 own1 most rate T2 w w')/\(a=5->DoS B gs2 own2 most rate T2 w w')/\(a=8->Keep (fun b=>b=gx) w w'/\MdX w' gx most T2)/\(a≠2->a≠5->a≠8->Below w.heap.size w w')
def TrU (B gs1 gl1 gs2 gl2 gx:Nat) (own1 own2:Nat->Nat) (most rate:Nat) (T:List UInt8) (a:Nat) (w:World):Prop:=(a=2->StAt w B own1 gs1 gl1 most rate T/\StAt w B own2 gs2 gl2 most rate T)/\(a=5->StAt w B own2 gs2 gl2 most rate T)/\(a=8->MdX w gx most T)
def TrU.drew {b:Nat} (a:TrU B gs1 gl1 gs2 gl2 gx own1 own2 most rate T b w):TrU B gs1 gl1 gs2 gl2 gx own1 own2 most rate T b w.drew:=⟨fun e=>⟨(a.1 e).1.vb (Vis.of_below (eX _ _)),(a.1 e).2.vb (Vis.of_below (eX _ _))⟩,fun e=>(a.2.1 e).vb (Vis.of_below (eX _ _)),fun e=>a.2.2 e⟩
def TrC.step {k:World} {j:Nat} {m:Array Value} (f:PyC k B gx gt N0 most m w) (b:TrS B gs1 gs2 gx own1 own2 most rate T2 j w w') (l:Ap own1 gs1 gt) (p:Ap own2 gs2 gt) (o:Ap own1 gs1 gx) (s:Ap own2 gs2 gx) (i:gt≠gx) (g:B<=gx):PyC k B gx gt N0 most m w':=by
 by_cases a:j=2;exact f.step (j1:=2) (j2:=9) (gs:=gs1) (own:=own1) (rate:=rate) (T2:=T2) (j:=j) ⟨fun _=>b.1 a,fun e=>by omega,fun e=>absurd a e⟩ l o i g;by_cases d:j=5;exact f.step (j1:=5) (j2:=9) (gs:=gs2) (own:=own2) (rate:=rate) (T2:=T2) (j:=j) ⟨fun _=>b.2.1 d,fun e=>by omega,fun e=>absurd d e⟩ p s i g;exact f.step (j1:=2) (j2:=8) (gs:=gs1) (own:=own1) (rate:=rate) (T2:=T2) (j:=j) ⟨fun e=>absurd e a,fun e=>b.2.2.1 e,fun _ q=>b.2.2.2 a d q⟩ l o i g
def TrU.step {b j:Nat} (a:TrU B gs1 gl1 gs2 gl2 gx own1 own2 most rate T b w) (d:TrS B gs1 gs2 gx own1 own2 most rate T2 j w w') (x:Two own1 gs1 own2 gs2) (p:Ap own1 gs1 gx) (q:Ap own2 gs2 gx) (l:b≠j) (s:b=2->j≠5) (t:b=2->j≠8) (u:b=5->j≠8):TrU B gs1 gl1 gs2 gl2 gx own1 own2 most rate T b w':=by
 refine ⟨fun e=>?_,fun e=>?_,fun e=>?_⟩;have k:=d.2.2.2 (fun g=>l (e.trans g.symm)) (s e) (t e);exact ⟨(a.1 e).1.vb (Vis.of_below k),(a.1 e).2.vb (Vis.of_below k)⟩;by_cases f:j=2;obtain ⟨own',o,_,i⟩:=d.1 f;exact ((a.2.1 e).other i x).1;exact (a.2.1 e).vb (Vis.of_below (d.2.2.2 f (fun g=>l (e.trans g.symm)) (u e)));by_cases f:j=2;obtain ⟨own',o,_,i⟩:=d.1 f;exact i.bk (a.2.2 e) p.col p.ne dC dC;by_cases m:j=5;obtain ⟨own',o,_,i⟩:=d.2.1 m;exact i.bk (a.2.2 e) q.col q.ne dC dC;have k:=d.2.2.2 f m (fun g=>l (e.trans g.symm));exact Bk.below (a.2.2 e) k (Bk.lt (a.2.2 e))
def pN {a:Nat} {l:Array Value} (i:fresh N0 50 l v w) (f:TrS B gs1 gs2 gx own1 own2 most rate T2 a w w') (m:∀b,N0<=b->own1 b=0) (q:∀b,N0<=b->own2 b=0) (o:gs1 < N0) (s:gs2 < N0) (k:gx < N0):fresh N0 50 l v w':=by
 by_cases d:a=2;exact pO (j1:=2) (j2:=9) (B:=B) (most:=most) (rate:=rate) (T2:=T2) (j:=a) i ⟨fun _=>f.1 d,fun e=>by omega,fun e=>absurd d e⟩ m o k;by_cases g:a=5;exact pO (j1:=5) (j2:=9) (B:=B) (most:=most) (rate:=rate) (T2:=T2) (j:=a) i ⟨fun _=>f.2.1 g,fun e=>by omega,fun e=>absurd g e⟩ q s k;exact pO (j1:=2) (j2:=8) (B:=B) (most:=most) (rate:=rate) (T2:=T2) (j:=a) i ⟨fun e=>absurd e d,fun e=>f.2.2.1 e,fun _ p=>f.2.2.2 d g p⟩ m o k
def eG {a:Nat} (b:a≠2) (d:a≠5) (f:a≠8) (g:Below w.heap.size w w'):TrS B gs1 gs2 gx own1 own2 most rate T2 a w w':=⟨fun e=>absurd e b,fun e=>absurd e d,fun e=>absurd e f,fun _ _ _=>g⟩
def aJT (a:StAt w B own2 gs2 gl2 most rate T) (D:Two own1 gs1 own2 gs2) (p:Ap own1 gs1 gx) (E:gx < w.heap.size) (y:N0<=w.heap.size) (C:StDone w B own1 gs1 most rate T2 r (.returned v) w'):TrA B gs1 gs2 gx N0 most rate own2 T2 r v w'/\TrS B gs1 gs2 gx own1 own2 most rate T2 2 w w':=by
 obtain ⟨l,q,m,s,own',f,d,i,b,t,u,_,_⟩:=C;injection d with d;have F:=a.blk.lt;have j:∀ {e:TypeId} {A:Option Addr} {n c:Nat} {xs:List Value},Made w' w.heap.size e 1 A n c xs->RowZ w' N0 own2 gs2 e A n c xs:=fun g=>⟨g.mono y,fun o z=>by
  subst z;have x:=g.own.lt (k:=o.block) rfl;exact ⟨a.fresh x.1,by omega⟩⟩
 exact ⟨⟨own',f,i,(a.other b D).2,p.step b E,l,q,m,s,d,j t,j u⟩,fun _=>⟨own',f,i,b⟩,fun e=>absurd e dC,fun e=>absurd e dC,fun e=>absurd rfl e⟩
def aJS (t:TrA B gs1 gs2 gx N0 most rate own2 T2 r v1 w) (p:own2 gs2=0) (m:Ap own2 gs2 gx) (z:gx < w.heap.size) (i:N0<=w.heap.size) (y:StDone w B own2 gs2 most rate T2 r (.returned v) w'):TrB B gs1 gs2 gx N0 most rate T2 r v w'/\TrS B gs1 gs2 gx own1 own2 most rate T2 5 w w':=by
 obtain ⟨D,s,d,j,C,_⟩:=t;obtain ⟨k,o,l,q,own2',f,b,g,a,u,x,_,_⟩:=y;injection b with b;exact ⟨⟨D,s,own2',f,(d.other a (j.symm d.col p)).1,g,j.step2 d a,C,m.step a z,k,o,l,q,b,u.mono i,x.mono i⟩,fun e=>absurd e dC,fun _=>⟨own2',f,g,a⟩,fun e=>absurd e dC,fun _ e=>absurd rfl e⟩
def aJR (d:N0<=w.heap.size) (m:cC gx (most:Int) T2 r w w' (.returned v)):PyB gx N0 most T2 r v w'/\TrS B gs1 gs2 gx own1 own2 most rate T2 8 w w':=by
 obtain ⟨f,i,g,j,a,o,k,l,b⟩:=m;injection a with a;exact ⟨⟨f,i,g,j,a,k.mono d,l.mono d,b⟩,fun e=>absurd e dC,fun e=>absurd e dC,fun _=>⟨o,b⟩,fun _ _ e=>absurd rfl e⟩
end
def tB (most rate:Nat) (w:World) (p:most<=2147483648) (i:1<=rate) (j:rate<=64):
 Calls prog 18 #[(most:Int),(rate:Int)] w fun e w'=>∃gs a own,e=.returned (.tuple #[.pointer (some ⟨gs,0,none⟩),.int .i64 0])/\StAt w' w.heap.size own gs a most rate []/\Below w.heap.size w w':=by
 have k:=rY rate none 0 0 w.heap.size [] [] 0 rfl rfl w (Rd.nil _ _ _ _) (fun z q=>by cases q) nL oM oM i j;have x:¬((most:Int) < 0):=oM;have s:¬((most:Int) > 2147483648):=oM;have y:decide ((most:Int) > 2147483648)=false:=zBy s;have g:=lhd k;clear k;go_enter func18,ntmps18;go_wp2_with fail;refine g.out.mono ?_;rintro e w1 ⟨a,own,rfl,u,f,b⟩;have d:Below w1.heap.size w1 (w1.alloc (.cells #[.pointer (some ⟨a,0,none⟩),(most:Int)] 115)):=bR.alloc nL _;have l:StAt (w1.alloc (.cells #[.pointer (some ⟨a,0,none⟩),(most:Int)] 115)) w.heap.size own w1.heap.size a most rate []:=
  ⟨Bk.new _ _ _,b.size,Nat.eq_zero_of_not_pos fun t=>by have:=(f.bnd w1.heap.size oM).2;omega,f.vis (Vis.of_below d),by simp,by simp,p,i,j⟩
 obtain ⟨o,m⟩:=hqq2 l (b.trans (d.mono b.size));clear l d b f g;go_wp2_with fail;go_ret2;exact ⟨_,a,own,rfl,o.out,m.out⟩
def yW (most:Int) (rate:Int) (w:World) (b:most < 0∨most > 2147483648):
 Calls prog 18 #[.int .i64 most,.int .i64 rate] w fun e w'=>e=.returned (.tuple #[.pointer none,.int .i64 1])/\w=w':=by
 by_cases c:most < 0
 · have a:decide (most < 0)=true:=zBz c;go_enter func18,ntmps18;go_wp2_with fail;go_ret2;exact ⟨rfl,rfl⟩
 · have a:decide (most < 0)=false:=zBy c;have d:decide (most > 2147483648)=true:=zBz oM;go_enter func18,ntmps18;go_wp2_with fail;go_ret2;exact ⟨rfl,rfl⟩
def aDv (rate:Int) (A:Option Addr) (n c:Nat) (w:World) (d:rate < 1∨rate > 64):
 Calls prog 35 #[.int .i64 rate,.slice A n c] w fun e w'=>e=.returned (.tuple #[.pointer none,.int .i64 1])/\w=w':=by
 by_cases a:rate < 1
 · have b:decide (rate < 1)=true:=zBz a;go_enter func35,ntmps35;go_wp2_with fail;go_ret2;exact ⟨rfl,rfl⟩
 · have b:decide (rate < 1)=false:=zBy a;have f:decide (rate > 64)=true:=zBz oM;go_enter func35,ntmps35;go_wp2_with fail;go_ret2;exact ⟨rfl,rfl⟩
def yV (most:Nat) (rate:Int) (w:World) (g:most<=2147483648) (b:rate < 1∨rate > 64):
 Calls prog 18 #[(most:Int),.int .i64 rate] w fun e w'=>e=.returned (.tuple #[.pointer none,.int .i64 1])/\w=w':=by
 have a:=aDv rate none 0 0 w b;have i:¬((most:Int) < 0):=oM;have f:¬((most:Int) > 2147483648):=oM;have j:decide ((most:Int) > 2147483648)=false:=zBy f;have d:=lhd a;clear a b;go_enter func18,ntmps18;go_wp2_with fail;refine d.out.mono ?_;rintro e w1 ⟨rfl,rfl⟩;go_wp2_with fail;go_ret2;exact ⟨rfl,rfl⟩
def vF (w:World) (B:Nat) (own:Nat->Nat) (gs most rate:Nat) (T:List UInt8) (j m:Int) (k:List UInt8) (o:List Nat) (g i:Nat) (e:Ending) (w':World):Prop:=
 ∃a d b f own' l,e=.returned (.agg #[.int .i64 j,.int .i64 m,.slice a g d,.slice b i f])/\StAt w' B own' gs l most rate T/\LFS B gs w w' own own'/\MadeZ w' own' gs 5 a g d (k.map bv)/\MadeZ w' own' gs 3 b i f (o.map nv)
def StDone.v {w w':World} {B gs most rate:Nat} {own:Nat->Nat} {T:List UInt8} {m q:Int} {g:List UInt8} {l:List Nat} {o p:Nat} {e:Ending} (I:gs < w.heap.size) (y:g.length=o) (z:l.length=p) (D:StDone w B own gs most rate T ⟨m,q,g,l⟩ e w'):vF w B own gs most rate T m q g l o p e w':=by
 subst y z;obtain ⟨s,u,t,x,own',C,rfl,E,F,b,d,G,H⟩:=D;refine ⟨s,u,t,x,own',C,rfl,E,F,⟨⟨cB b.own (zAp _),b.rd,b.cap,b.max⟩,fun a f=>?_⟩,⟨⟨cB d.own (zAp _),d.rd,d.cap,d.max⟩,fun a f=>?_⟩⟩;have i:=G a f;subst f;have j:=b.own.lt (k:=a.block) rfl;exact ⟨j.2,i,by omega⟩;have i:=H a f;subst f;have j:=d.own.lt (k:=a.block) rfl;exact ⟨j.2,i,by omega⟩
def xY (B:Nat) (own:Nat->Nat) (gs k most rate:Nat) (i b T2:List UInt8) (f n:Int) (A:Option Addr) (a c:Nat) (j p:Int) (d:List UInt8) (g:List Nat) (m o:Nat) (w:World) (u:doM i (most:Int) 1 f n b=(T2,⟨j,p,d,g⟩)) (q:d.length=m) (s:g.length=o)
 (l:StAt w B own gs k most rate i) (y:ArgZ w B own gs A a b) (C:a<=1000000) (z:TabW w) (x:1 < B) (t:T2.length<=127):
 Calls prog 22 #[gs,.agg #[.int .i64 1,.int .i64 f,.int .i64 n,.slice A a c]] w (vF w B own gs most rate T2 j p d g m o):=
 (aAy B own gs k most rate i b T2 _ f n A a c w u l y C z x t).mono fun e w'=>StDone.v l.blk.lt q s
def aES (B:Nat) (own:Nat->Nat) (gs k most rate:Nat) (i b T2:List UInt8) (f n:Int) (A:Option Addr) (a c:Nat) (j p:Int) (d:List UInt8) (g:List Nat) (m o:Nat) (w:World) (u:doM i (most:Int) 7 f n b=(T2,⟨j,p,d,g⟩)) (q:d.length=m) (s:g.length=o)
 (l:StAt w B own gs k most rate i) (y:ArgZ w B own gs A a b) (C:a<=1000000) (z:TabW w) (x:1 < B) (t:T2.length<=127):
 Calls prog 22 #[gs,.agg #[.int .i64 7,.int .i64 f,.int .i64 n,.slice A a c]] w (vF w B own gs most rate T2 j p d g m o):=
 (aAx B own gs k most rate i b T2 _ f n A a c w u l y C z x t).mono fun e w'=>StDone.v l.blk.lt q s
def aER (B:Nat) (own:Nat->Nat) (gs k most rate:Nat) (i b T2:List UInt8) (f n:Int) (A:Option Addr) (a c:Nat) (j p:Int) (d:List UInt8) (g:List Nat) (m o:Nat) (w:World) (u:doM i (most:Int) 8 f n b=(T2,⟨j,p,d,g⟩)) (q:d.length=m) (s:g.length=o)
 (l:StAt w B own gs k most rate i) (y:ArgZ w B own gs A a b) (C:a<=1000000) (z:TabW w) (x:1 < B) (t:T2.length<=127):
 Calls prog 22 #[gs,.agg #[.int .i64 8,.int .i64 f,.int .i64 n,.slice A a c]] w (vF w B own gs most rate T2 j p d g m o):=
 (aAw B own gs k most rate i b T2 _ f n A a c w u l y C z x t).mono fun e w'=>StDone.v l.blk.lt q s
def xG {a:World} {B gs l most rate:Nat} {own:Nat->Nat} {p:List UInt8} (i:StAt a B own gs l most rate p) (b:Array Value) (f:Nat×Nat) (d:List UInt8) (n:Nat) (k:b.toList=d.map bv) (m:d.length=n):ArgZ (a.alloc (.cells b 5 f)) B own gs (some ⟨a.heap.size,0,none⟩) n d:=by
 have o:b.size=n:=by rw [<-Array.length_toList,k];simpa using m
 have j:=aFg a 5 b f n o;rw [k] at j;refine ⟨j.mono (by simp),fun _ q g=>?_⟩;injection g with g;subst g;refine .inr ⟨⟨i.fresh nL,by have:=i.blk.lt;show a.heap.size≠gs;omega⟩,b,f,?_⟩;exact heap_alloc_new a _
def aIE {w:World} {B gs:Nat} {own:Nat->Nat}:ArgZ w B own gs none 0 []:=⟨Rd.nil _ _ _ _,fun a=>absurd a oM⟩
def Kp (w:World) (own:Nat->Nat) (gs a:Nat) (d:TypeId) (b:Array Value):Prop:=Bk w a d b/\Ap own gs a
def Kp.step {w w':World} {B gs f:Nat} {own own':Nat->Nat} {b:TypeId} {d:Array Value} (a:Kp w own gs f b d) (g:LFS B gs w w' own own') (i:b≠202) (j:b≠154):Kp w' own' gs f b d:=⟨g.bk a.1 a.2.col a.2.ne i j,a.2.step g a.1.lt⟩
def Kp.new {a:World} {B gs g most rate:Nat} {own:Nat->Nat} {i:List UInt8} (f:StAt a B own gs g most rate i) (d:TypeId) (b:Array Value):Kp (a.alloc (.cells b d)) own gs a.heap.size d b:=⟨Bk.new a d b,f.fresh nL,by have:=f.blk.lt;omega⟩
def xV (B:Nat) (own:Nat->Nat) (gs b most rate:Nat) (d:List UInt8) (w:World) (a:StAt w B own gs b most rate d):
 Calls prog 27 #[gs] w fun e w'=>e=.returned (.int .i64 (most:Int))/\w=w':=by
 have f:=a.blk.cell 1;clear a;go_enter func27,ntmps27;go_wp2_with fail;go_ret;exact ⟨rfl,rfl⟩
def yX (w:World):Calls prog 27 #[.pointer none] w fun e w'=>e=.returned (.int .i64 0)/\w=w':=by
 go_enter func27,ntmps27;go_wp2_with fail;go_ret;exact ⟨rfl,rfl⟩
def mC (B:Nat) (own:Nat->Nat) (gs a most rate:Nat) (j:List UInt8) (w:World) (b:StAt w B own gs a most rate j):
 Calls prog 28 #[gs] w fun e w'=>e=.returned (.int .i64 (rate:Int))/\w=w':=by
 have k:=b.blk.cell 0;have d:Calls prog 12 #[a] w fun e w'=>e=.returned (.int .i64 (rate:Int))/\w=w':=by obtain ⟨q,gk,f,i,o,g,m,p,l⟩:=b.tp;exact mH B a gk f _ rate _ i w g
 clear b;go_enter func28,ntmps28;go_wp2_with fail;refine d.mono ?_;rintro e w1 ⟨rfl,rfl⟩;clear d;go_wp2_with fail;go_ret;exact ⟨rfl,rfl⟩
def mD (w:World) (B:Nat) (a:List Nat) (n:Nat) (e:Ending) (w':World):Prop:=∃A c,e=.returned (.slice A n c)/\Made w' w.heap.size 3 1 A n c (a.map sv)/\VB B w w'
def xW (B:Nat) (own:Nat->Nat) (gs b most rate n:Nat) (a:List UInt8) (i:List Nat) (w:World) (d:StAt w B own gs b most rate a) (g:IsSuf (aG a) i) (l:a.length+1=n):
 Calls prog 73 #[gs] w (mD w B (aE (aG a) i) n):=by
 have y:=d.blk.cell 0;have f:Calls prog 16 #[b] w (mD w B (aE (aG a) i) n):=by
  obtain ⟨x,gk,q,u,t,s,C,D,z⟩:=d.tp;obtain rfl:=t.unique g;have j:(aE (aG a) x).length=n:=by rw [bZ,g.len,aM,l]
  have:=rZ B b gk q _ rate _ u w s (dR (eU a)) (by rw [j];omega);unfold iV at this;rw [j] at this;exact this
 unfold mD at f⊢;clear d g l;go_enter func73,ntmps73;go_wp2_with fail;refine f.mono ?_;rintro e w1 ⟨A,c,rfl,k,m⟩;obtain ⟨o,p⟩:=hqq2 k m;clear f k m;go_wp2_with fail;go_ret;exact ⟨A,c,rfl,o.out,p.out⟩
def aHn:(prog.info? 122).map (fun a=>(a.zero.map (·.cells.size),a.size,a.bytes))=some (some 4,4,32):=by kernel_rfl
def aFW:∃b d,prog.info? 122=some b/\b.zero=some d/\b.size=4/\b.bytes=32/\d.cells.size=4:=by
 have a:=aHn;cases g:prog.info? 122 with
 | none=>rw [g] at a;cases a
 | some b=>
   rw [g] at a;cases f:b.zero with
   | none=>simp [f] at a
   | some d=>
     simp [f] at a;exact ⟨b,d,rfl,f,a.2.1,a.2.2,a.1⟩
def aJW (b:List Nat) (a:Nat):(shA b a).length+1<=2 ^ a:=by
 induction a with
 | zero=>exact zAs _
 | succ a d=>
   have:=aAO b a (2 ^ a);unfold shA;rw [zAi,Nat.pow_succ];omega
def mF (w:World) (a:List Shp) (e:Ending) (w':World):Prop:=∃v,e=.returned v/\w'.ownsRow w.heap.size 122 4 v a.length (cH a)/\Below w.heap.size w w'
def xI (B i:Nat) (own:Nat->Nat) (b:List Nat) (w:World) (t:WaveE w B own i b):
 Calls prog 129 #[i] w (mF w (shA b 9)):=by
 obtain ⟨bn,br,bd,bj,bk,bl,bm⟩:=aFW;obtain ⟨g,v,t⟩:=t;have aF:=t.rows;have f:=t.blk;obtain ⟨P,aj,ak,al,am,an,ao,ap,aq,b7,b6⟩:=bI g (b.length:Int) v;have bu:w.cell? i=some (g 0):=(f.cell 0).trans P;have bv:w.cell? ⟨i,1,none⟩=some (g 1):=(f.cell 1).trans aj;have bw:w.cell? ⟨i,2,none⟩=some (g 2):=(f.cell 2).trans ak;have bx:w.cell? ⟨i,3,none⟩=some (g 3):=(f.cell 3).trans al;have bz:w.cell? ⟨i,4,none⟩=some (g 4):=(f.cell 4).trans am;have bA:w.cell? ⟨i,5,none⟩=some (g 5):=(f.cell 5).trans an;have bB:w.cell? ⟨i,6,none⟩=some (g 6):=(f.cell 6).trans ao;have bC:w.cell? ⟨i,7,none⟩=some (g 7):=(f.cell 7).trans ap;have bD:w.cell? ⟨i,8,none⟩=some (g 8):=(f.cell 8).trans aq;have aY:=lhd aF;clear aF f t P aj ak al am an ao ap aq b7 b6;unfold mF;go_enter func129,ntmps129;go_wp2_with fail;go_loopw [3,14] (fun ad m wr=>∃a:Nat,a<=9/\m=.int .i64 (a:Int)/\wr.ownsRow w.heap.size 122 4 ad (shA b a).length (cH (shA b a))/\Below w.heap.size w wr) (fun _ m _=>9 -(intOf m).toNat)
 case atStart=>exact ⟨0,by omega,rfl,World.ownsRow_nil _ _ _ _,Below.refl _ _⟩
 case round=>
  obtain ⟨a,bK,rfl,a5,f⟩:=hrel;by_cases ax:a < 9
  · have be:=ix9 g a ax;obtain ⟨ae,x,_,ac⟩:=aY.out a ax;obtain ⟨l,q⟩:=eqx (2 ^ a);have bL:l<=512:=(by rw [<-q];exact zAk (zBp dC (by omega:a<=9)) dC);have bg:0 < l:=(by rw [<-q];exact Nat.pow_pos dC);rw [q] at x ac;obtain ⟨Q,bE,ar,bM,bJ⟩:=World.ownsRow.form x bg;rw [ar] at be x;have a8:=aJW b a;rw [q] at a8;obtain ⟨aW,aP,b2,b4,aV,b0⟩:=hqq6 a5 f x ac q a8;clear a5 f x ac ar q a8;go_wp2_with fail;have bc:decide ((a:Int) < 9)=true:=zBz oM;rw [bc];go_loopw [3,19] (fun ad m aM=>∃d:Nat,d<=l/\m=.int .i64 (d:Int)/\aM.ownsRow w.heap.size 122 4 ad (shA b a++shL b a d).length (cH (shA b a++shL b a d))/\Below w.heap.size w aM) (fun _ m _=>l -(intOf m).toNat)
    case atStart=>exact ⟨0,zAp _,rfl,by rw [show shA b a++shL b a 0=shA b a from List.append_nil _];exact aW.out,aP.out⟩
    case round=>
        obtain ⟨d,bN,rfl,H,o⟩:=hrel;have bi:=o.size;by_cases aE:d < l
        · have bO:(d:Int) < (l:Int):=oM;have I:=aR b2.out o;obtain ⟨aI,aJ,aL⟩:=fJ ae a l d aE;have b5:wr.cell? ⟨Q,d*3,none⟩=_:=(World.ownsRow.cellAt I (d*3) oM).trans aI;have bs:wr.cell? ⟨Q,d*3+1,none⟩=_:=(World.ownsRow.cellAt I (d*3+1) oM).trans aJ;have bt:wr.cell? ⟨Q,d*3+2,none⟩=_:=(World.ownsRow.cellAt I (d*3+2) oM).trans aL;obtain ⟨gt,a0⟩:=eqx (ae d);rw [a0] at b5;have aa:=b4.out d aE;rw [a0] at aa;obtain ⟨O,E⟩:=eqx (wr.alloc (.cells #[.pointer (some ⟨gt,0,none⟩),(a:Int),(d:Int)] 157));obtain ⟨gx,a1⟩:=eqx wr.heap.size;have X:Below wr.heap.size wr O:=(by rw [<-E];exact bR.alloc nL _);have G:Bk O gx 157 #[.pointer (some ⟨gt,0,none⟩),(a:Int),(d:Int)]:=(by rw [<-E,<-a1];exact Bk.new _ _ _);have S:=o.trans (X.mono bi);have J:=aa.vis (Vis.of_below S);have aA:=aR H X;obtain ⟨k,Y⟩:=eqx (aK b a d);rw [Y] at J;have j:shL b a (d+1)=shL b a d++if k= [] then [] else [shO k]:=(by rw [<-Y];rfl);have a2:=eR gt k O J.at
          have P:=G.cell 0;have bb:=G.lt;obtain ⟨n,a3⟩:=eqx k.length;rw [a3] at a2;obtain ⟨aU,b3,aX,af,aO,aT,ag,y,aS⟩:=hqq9 a2 J aA S E a1 j a3 G;clear a2 J aa H aA o S X E a1 j a3 I aI aJ aL G a0 Y;go_wp2_with fail;rw [aO.out]
          try rw [aT.out]
          refine aU.out.mono ?_;rintro e bp ⟨rfl,p⟩;have F:=af.out.trans (p.mono af.out.size);have ab:=b3.out.vis (Vis.of_below p);have u:=aR aX.out p;have Z:=aS.out.below p bb;have b8:=Z.cell 0;by_cases a4:n=0
          · subst a4;have ba:k= []:=zCx.1 y.out;have j:=ag.out;rw [zBx ba,List.append_nil] at j;obtain ⟨C,s,z⟩:=hqq3 u F j;clear u F j ab Z b8 p;go_wp2_with fail;go_roundw
            case rel=>exact ⟨d+1,by omega,by go_num,by rw [z.out];exact C.out,s.out⟩
            case measure=>first |(simp [intOf];omega)| simp [intOf]
          · have az:k≠ []:=fun e=>a4 (by rw [<-y.out,e];rfl);have j:=ag.out;rw [zBw az] at j;have bF:decide ((n:Int) > 0)=true:=zBz oM;have bG:decide (0 < n)=true:=zBz oM;have a9:=yU _ gt k bp ab az;have aH:(shO k).val=.agg #[(n:Int),.int .i64 0,.int .i64 1,.int .i64 1]:=(by rw [<-y.out];rfl);have aG:(shO k).cells= [.int .i64 (n:Int),.int .i64 0,.int .i64 1,.int .i64 1]:=(by rw [<-y.out];rfl);rw [aH] at a9;obtain ⟨N,D⟩:=eqx ((shA b a++shL b a d).length);have bH:N<=1024:=(by have:=aAO b a d;have:=b0.out;rw [<-D,zAi];omega);rw [D] at u;obtain ⟨C,s,z,ai,b1,aN⟩:=hqq6 u F j a9 aG D;clear u F j ab Z p a9 aH aG D a4;go_wp2_with fail;refine ai.out.mono ?_;rintro e K ⟨rfl,U⟩;have V:=s.out.trans (U.mono s.out.size);have aB:=aR C.out U;have R:Below K.heap.size K (K.alloc (.cells #[(n:Int),.int .i64 0,.int .i64 1,.int .i64 1] 122)):=bR.alloc nL _;have W:=V.trans (R.mono V.size);have aC:=aR aB R;have a7:=W.size;obtain ⟨ah,aQ⟩:=hqq2 aC W;clear U V W aB aC R ai C s;go_wp2_with (at_builtin;refine bY _ rfl (.tmp 27) (.tmp 31) _ rfl w.heap.size 122 bn br 4 32 underlying112 bd bj bk bl bm dC u3 N _ rfl ah.out _ _ 1 1 _ rfl (vW (Bk.new K 122 #[(n:Int),.int .i64 0,.int .i64 1,.int .i64 1]) rfl) (by simp [Value.oneCell']) (by unfold maxLen;omega) oM a7 ?_;intro bo bq aD aw b9);have au:=aZ aQ.out ah.out aw a7;have ay:(shA b a++shL b a (d+1)).length=N+1:=(by rw [z.out,<-zCo,zAi,aN.out];rfl);have av:cH (shA b a++shL b a (d+1))=cH (shA b a++shL b a d)++ [.int .i64 (n:Int),.int .i64 0,.int .i64 1,.int .i64 1]:=(by rw [z.out,<-zCo,aAM];rw [<-b1.out];simp [cH]);have L:=lhd au;have M:=lhd (show bq.ownsRow w.heap.size 122 4 bo (shA b a++shL b a (d+1)).length (cH (shA b a++shL b a (d+1))) by rw [ay,av];exact aD);clear au aD aw b9 ay av a7;go_roundw
            case rel=>exact ⟨d+1,by omega,by go_num,M.out,L.out⟩
            case measure=>first |(simp [intOf];omega)| simp [intOf]
        · have bh:d=l:=oM;subst bh;have a6:=H;rw [show shA b a++shL b a d=shA b (a+1) by rw [<-aV.out];rfl] at a6;obtain ⟨M,L⟩:=hqq2 a6 o;clear H a6 o;go_wp2_with fail;go_roundw
          case rel=>exact ⟨a+1,by omega,by go_num,M.out,L.out⟩
          case measure=>first |(simp [intOf];omega)| simp [intOf]
  · have bf:a=9:=oM;subst bf;go_wp2_with fail;go_ret;exact ⟨_,rfl,a5,f⟩
def aF2 {w:World} {B C gk D rate g:Nat} {own:Nat->Nat} {O:Int} {u:List UInt8} {T:List Nat} {m:List Nat} {b:List (Nat×Nat)} (i:TxM w B own C gk D rate O (aG u) T g m b) (W:u.length=g) (E:Smp b 0) (I:oY (Smp b) rate g) (M:1<=rate):SampOk b m rate g/\b.length<=1000:=by
 have K:m.length=g+1:=by have F:=i.suf.len;rw [aM] at F;omega
 obtain ⟨R,U,Z,a0,a1,Y,l,x,X,S,_,G,V,H,j⟩:=i.live.permR;have J:∀a,a < b.length->∃f,b[a]?=some f/\aB b a=f.1/\aI b a=f.2/\f∈b:=fun a d=>by refine ⟨b[a],zAa d,?_,?_,zBj d⟩;unfold aB;rw [zAb,zAa d];rfl;unfold aI;rw [zAb,zAa d];rfl
 refine ⟨⟨fun a d=>?_,fun a d=>?_,E,I,K,M⟩,by rw [j,zBc];exact H⟩;obtain ⟨f,_,y,z,N⟩:=J a d;have t:=i.right f N;obtain ⟨P,Q⟩:=zAc.1 t;rw [y,z];refine ⟨by omega,?_,t⟩;have:=i.suf.lt (p:=f.2) (by rw [<-Q];exact zBj P);rw [aM] at this;omega
 · have q:a < l.length:=(by rw [j,zBc] at d;omega);have s:a+1 < l.length:=(by rw [j,zBc] at d;omega);have L:=zAr.1 G a (a+1) q s oM;have e:∀k (o:k < l.length),aB b k=aB x (l[k]):=fun k o=>by unfold aB;rw [zAb,j,zAf,zAa o];rfl
   rw [e a q,e (a+1) s];exact L
def aDu (i:Nat) (s c t:Value) (d g f:Nat) (b:List (Nat×Nat)) (w:World) (k:Bk w i 92 #[s,d,c,t]) (j:PermR w d g f b):
 Calls prog 70 #[i] w (lF w b):=by
 have u:=k.cell 1;have a:=rW d g f b w j;unfold lF at a⊢;obtain ⟨n,m⟩:=eqx b.length;rw [m] at a⊢;clear j m k;go_enter func70,ntmps70;go_wp2_with fail;refine a.mono ?_;rintro e x ⟨A,c,rfl,l,o⟩;obtain ⟨p,q⟩:=hqq2 l o;clear a l o;go_wp2_with fail;go_ret;exact ⟨A,c,rfl,p.out,q.out⟩
def aDt (B d gk:Nat) (own:Nat->Nat) (q c s:Value) (a T:List Nat) (w:World) (j:Bk w d 92 #[gk,q,c,s]) (u:WalkE w B own gk a T):
 Calls prog 72 #[d] w (mF w (shA a 9)):=by
 obtain ⟨t,gt,f,_,g,_⟩:=u;have y:=j.cell 0;have z:=f.cell 0;have b:=xI B t own a w g;unfold mF at b⊢;obtain ⟨n,k⟩:=eqx ((shA a 9).length);obtain ⟨x,i⟩:=eqx (cH (shA a 9));rw [k,i] at b⊢;clear f g k i j;go_enter func72,ntmps72;go_wp2_with fail;refine b.mono ?_;rintro e C ⟨v,rfl,l,m⟩;obtain ⟨o,p⟩:=hqq2 l m;clear b l m;go_wp2_with fail;go_ret;exact ⟨v,rfl,o.out,p.out⟩
def tD (w:World) (rate d:Nat) (f:List Nat) (e:Ending) (w':World):Prop:=∃A c b a,e=.returned (.slice A a c)/\b.length=a/\a<=1000/\SampOk b f rate d/\Rd w' w'.heap.size 2 A a (bW b)/\Below w.heap.size w w'
def TxM.pairs {w:World} {B d gk g rate b:Nat} {own:Nat->Nat} {u:Int} {j:List UInt8} {T:List Nat} {i:List Nat} {a:List (Nat×Nat)} (f:TxM w B own d gk g rate u (aG j) T b i a) (o:j.length=b) (k:Smp a 0) (q:oY (Smp a) rate b) (t:1<=rate):
 Calls prog 70 #[d] w (tD w rate b i):=by
 obtain ⟨l,m⟩:=aF2 f o k q t;refine (aDu d _ _ _ g _ _ a w f.live.blk f.live.permR).mono ?_;rintro e w' ⟨A,c,rfl,s,p⟩;exact ⟨A,c,a,_,rfl,rfl,m,l,s.rd,p⟩
def pZ (w:World) (d:Nat) (e:Ending) (w':World):Prop:=∃A c a b,e=.returned (.slice A b c)/\b<=1000/\Rd w' w'.heap.size 4 A b (cH a)/\(∃f,a=⟨((d+1:Nat):Int),0,1,1⟩::f)/\(∀g∈a,∃n:Int,0 < n/\n<=1000/\g=⟨n,0,1,1⟩)/\Below w.heap.size w w'
def TxM.shapes {w:World} {B f gk p rate d:Nat} {own:Nat->Nat} {z:Int} {a:List UInt8} {T:List Nat} {b:List Nat} {C:List (Nat×Nat)} (g:TxM w B own f gk p rate z (aG a) T d b C) (s:a.length=d) (F:d<=900):
 Calls prog 72 #[f] w (pZ w d):=by
 refine (aDt B f gk own _ _ _ _ T w g.live.blk g.live.walk).mono ?_;rintro e w' ⟨v,rfl,j,u⟩;have q:∀m∈aE (aG a) b,m < 257:=dR (eU a);have i:(aE (aG a) b).length=d+1:=by rw [bZ,g.suf.len,aM,s]
 obtain ⟨o,t⟩:=aHo (aE (aG a) b) q (fun e=>by rw [e] at i;simp at i);obtain ⟨A,c,rfl,G⟩:=aT j;refine ⟨A,c,_,_,rfl,by have:=aI1 (aE (aG a) b);omega,Rd.of_own j,⟨o,by rw [t,i]⟩,fun m y=>?_,u⟩;obtain ⟨k,l,_,_,x,rfl⟩:=aI0 y;have D:=aJA (aE (aG a) b) k l;have E:(aK (aE (aG a) b) k l).length≠0:=fun e=>x (zCx.1 e);exact ⟨_,by omega,by omega,rfl⟩
def aC4 (B:Nat) (own:Nat->Nat) (gs u most rate j:Nat) (i:List UInt8) (p:List Nat) (w:World) (d:StAt w B own gs u most rate i) (l:i.length=j) (x:IsSuf (aG i) p):
 Calls prog 79 #[gs] w (tD w rate j p):=by
 obtain ⟨gk,C,D,T,E,o,a,f,b⟩:=d.live;obtain rfl:=a.suf.unique x;rw [l] at a b;have z:=d.blk.cell 0;have g:=a.pairs l f b d.r1;unfold tD at g⊢;clear a f b d;go_enter func79,ntmps79;go_wp2_with fail;refine g.mono ?_;rintro e F ⟨A,c,o,y,rfl,a,f,b,k,m⟩;obtain ⟨q,s,t⟩:=hqq3 b k m;clear g b k m;go_wp2_with fail;go_ret;exact ⟨A,c,o,y,rfl,a,f,q.out,s.out,t.out⟩
def aBu (B:Nat) (own:Nat->Nat) (gs t most rate i:Nat) (m:List UInt8) (w:World) (b:StAt w B own gs t most rate m) (k:m.length=i):
 Calls prog 80 #[gs] w (pZ w i):=by
 obtain ⟨gk,C,D,T,F,E,a,d,f⟩:=b.live;rw [k] at a;have z:=b.blk.cell 0;have u:=b.n127;have g:=a.shapes k oM;unfold pZ at g⊢;clear a d f b u;go_enter func80,ntmps80;go_wp2_with fail;refine g.mono ?_;rintro e G ⟨A,c,x,y,rfl,a,d,f,j,l⟩;obtain ⟨o,p,q,s⟩:=hqq4 d f j l;clear g d f j l;go_wp2_with fail;go_ret;exact ⟨A,c,x,y,rfl,a,o.out,p.out,q.out,s.out⟩
def aE6 (B:Nat) (own:Nat->Nat) (gs j most rate:Nat) (b:List UInt8) (w:World) (d:StAt w B own gs j most rate b):
 Calls prog 26 #[gs,.string ⟨b.toArray⟩] w fun e w'=>e=.returned (.bool true)/\VB B w w':=by
 obtain ⟨a,l⟩:=eqx b.length;have aV:a<=127:=by rw [<-l];exact d.n127
 have b2:(⟨b.toArray⟩:ByteArray).size=a:=(lX b).trans l;have aY:=d.r1;have aD:=d.r2;have Y:=d.size;obtain ⟨k,i,aT⟩:=hqq3 d l Y;clear d l Y;go_enter func26,ntmps26;go_wp2_with fail;refine (uC b a w i.out oM).mono ?_;rintro e w1 ⟨ak,au,aJ,rfl,ae,a6,a0⟩;have ah:VB B w w1:=VisK.of_below a0;obtain ⟨q,G,s⟩:=hqq3 ae a6 ah;clear ae a6 ah a0;go_wp2_with fail;refine (xW B own gs j most rate (a+1) b aJ w1 (k.out.vb s.out.1) q.out (by rw [i.out])).mono ?_;rintro e aM ⟨al,av,rfl,a7,D⟩;have ag:=s.out.trans D;obtain ⟨H,L,S⟩:=hqq3 (D.1.made G.out dC dC) a7 ag;clear a7 D ag G s;go_wp2_with fail;refine (uE b a aM i.out oM).mono ?_;rintro e aN ⟨am,aw,g,rfl,af,a8,m⟩;obtain rfl:=af.unique q.out;obtain ⟨I,M,N,U⟩:=hqq4 ((Vis.of_below m).made H.out dC dC) ((Vis.of_below m).made L.out dC dC) a8 (S.out.trans (VisK.of_below m));clear af a8 m H L S;go_wp2_with fail;refine (tM al am (a+1) av (a+1) aw _ _ (aE (aG b) g) (aE (aG b) g) aN M.out.rd N.out.rd oM oM).mono ?_;rintro e aO ⟨rfl,z⟩;have a4:decide (aE (aG b) g=aE (aG b) g)=true:=zBz rfl;rw [a4];obtain ⟨J,t⟩:=hqq2 ((Vis.of_below z).made I.out dC dC) (U.out.trans (VisK.of_below z));clear a4 z I M N U;go_wp2_with fail;refine (aC4 B own gs j most rate a b g aO (k.out.vb t.out.1) i.out q.out).mono ?_;rintro e aj ⟨an,ax,aI,aH,rfl,a9,aB,aa,ab,C⟩;obtain ⟨K,u,P,Q,O⟩:=hqq5 ((Vis.of_below C).made J.out dC dC) (t.out.trans (VisK.of_below C)) aa ab a9;clear a9 aa ab C J t;go_wp2_with fail;refine (mC B own gs j most rate b aj (k.out.vb u.out.1)).mono ?_;rintro e b1 ⟨rfl,rfl⟩;go_wp2_with fail;refine (aDd an ak aH ax (a+1) au _ _ aI g rate a aj Q.out K.out.rd nL nL O.out rfl aB oM aD P.out).mono ?_;rintro e aP ⟨rfl,a2⟩;have x:=lhd (u.out.trans (VisK.of_below a2));clear a2 P Q O K u;go_wp2_with fail;refine (aBu B own gs j most rate a b aP (k.out.vb x.out.1) i.out).mono ?_;rintro e aQ ⟨E,X,ai,f,rfl,aC,ac,⟨aq,Z⟩,a5,a3⟩;obtain ⟨V,p,ao,F⟩:=hqq4 (x.out.trans (VisK.of_below a3)) ac Z a5;clear ac Z a5 a3 x;have ay:IntKind.i64.wrap ((a:Int)+1)=((a+1:Nat):Int):=by rw [IntKind.wrap_i64];omega
 go_wp2_with fail;refine (aGH E f X ai ((a+1:Nat):Int) aq _ aQ p.out nL oM ao.out (fun aK aF=>by obtain ⟨n,az,aW,aA⟩:=F.out aK aF;exact ⟨n,az,by omega,aA⟩)).mono ?_;rintro e aR ⟨rfl,o⟩;obtain ⟨W,R⟩:=hqq2 (V.out.trans (VisK.of_below o)) (p.out.below o);have ad:=o.size;clear o V p ay;go_wp2_with fail;refine (aHI E f X ai _ aR R.out ad aC F.out).mono ?_;rintro e aL ⟨⟨ar,rfl⟩,a1⟩;have ap:=lhd (W.out.trans (VisK.of_below a1));clear a1 W R ad;have aX:∀y,(Instr.field 122 (.agg #[.int .i64 ar,.int .i64 0,(f:Int),(f:Int)]) 3).run prog y=.ok (.int .i64 (f:Int)) y:=fun y=>by kernel_rfl
 go_wp2_with fail;refine (aEa a aL oM).mono ?_;rintro e b0 ⟨⟨aS,rfl,aZ⟩,rfl⟩;have aU:decide ((f:Int)<=aS)=true:=zBz oM;go_wp2_with fail;go_ret;exact ⟨rfl,ap.out⟩
def zK (A:Option Addr) (n c:Nat) (w:World) (d:n < 8):
 Calls prog 11 #[.slice A n c] w fun e w'=>e=.returned (.tuple #[.pointer none,.agg #[.int .i64 0,.int .i64 0,.int .i64 0],.int .i64 4])/\Below w.heap.size w w':=by
 have b:decide ((n:Int) < 8)=true:=zBz oM;go_enter func11,ntmps11;go_wp2_with fail;have a:=Bk.new w 30 #[.int .i64 0,.int .i64 0,.int .i64 0];exact bodyPost_ret (tL rfl _ _ w.heap.size 30 #[.int .i64 0,.int .i64 0,.int .i64 0] (0,0) _ rfl a underlying30 rfl kR) rfl ⟨rfl,bR.alloc nL _⟩
def uK (gs:Nat) (A:Option Addr) (n c:Nat) (w:World) (g:n < 8):
 Calls prog 29 #[gs,.slice A n c] w fun e w'=>e=.returned (.int .i64 4)/\Below w.heap.size w w':=by
 have d:=zK A n c w g;go_enter func29,ntmps29;go_wp2_with fail;refine d.mono ?_;rintro e w1 ⟨rfl,a⟩;have b:Below w1.heap.size w1 (w1.alloc (.cells #[.int .i64 0,.int .i64 0,.int .i64 0] 30)):=bR.alloc nL _;have f:=lhd (a.trans (b.mono a.size));clear d a b;go_wp2_with fail;go_ret;exact ⟨rfl,f.out⟩
def aIU:doM [] ((9:Nat):Int) 1 0 0 [97,98,99,97,98]=([97,98,99,97,98],⟨0,0, [], []⟩):=by rfl
def aIT:doM [97,98,99,97,98] ((9:Nat):Int) 7 0 0 [97,98]=([97,98,99,97,98],⟨0,2, [], [0,3]⟩):=by rfl
def aHd:doM [97,98,99,97,98] ((9:Nat):Int) 1 1 0 [122,122,122,122,122]=([97,98,99,97,98],⟨3,0, [], []⟩):=by rfl
def aJU:doM [97,98,99,97,98] ((9:Nat):Int) 8 0 0 []=([97,98,99,97,98],⟨0,0, [], []⟩):=by rfl
def aJ0 (a b:Int) (d f:Value) (w:World):(Instr.field 50 (.agg #[.int .i64 a,.int .i64 b,d,f]) 0).run prog w=.ok (.int .i64 a) w:=by kernel_rfl
def uS {w w':World} {B gs j most rate:Nat} {own own':Nat->Nat} {T:List UInt8} {d f:Option Addr} {m g o i:Nat} {p q:List Value} (k:StAt w' B own' gs j most rate T) (s:LFS B gs w w' own own') (t:MadeZ w' own' gs 5 d m g p) (u:MadeZ w' own' gs 3 f o i q) (a:Array Value):
 StAt (w'.alloc (.cells a 50)) B own' gs j most rate T/\LFS B gs w (w'.alloc (.cells a 50)) own own'/\MadeZ (w'.alloc (.cells a 50)) own' gs 5 d m g p/\MadeZ (w'.alloc (.cells a 50)) own' gs 3 f o i q/\Kp (w'.alloc (.cells a 50)) own' gs w'.heap.size 50 a/\w'.heap.size+1=(w'.alloc (.cells a 50)).heap.size:=by
 have l:Below w'.heap.size w' (w'.alloc (.cells a 50)):=bR.alloc nL _;have b:=LFS.of_below B gs own' l;exact ⟨k.vb (Vis.of_below l),s.trans b,t.step b dC dC,u.step b dC dC,Kp.new k _ _,by rw [World.size_alloc]⟩
def xS (w:World) (a8:TabW w):
 Calls prog 19 #[] w fun e w'=>e=.returned (.bool true)/\Below w.heap.size w w':=by
 have bG:=sN;have bI:=aJ0;have bH:=aDU;have bt:=a8.pos;obtain ⟨B,aQ⟩:=eqx w.heap.size;have m:1 < B:=oM;obtain ⟨bh,an⟩:=hqq2 a8 aQ;clear a8 bt aQ;go_enter func19,ntmps19;go_wp2_with fail;refine (tB 9 3 w oM oM oM).mono ?_;rintro e w1 ⟨gs,bp,own,rfl,ad,V⟩;rw [an.out] at ad V;obtain ⟨L,aq,a1⟩:=hqq3 ad V (bh.out.below V m);clear ad V;go_wp2_with fail;refine (yV 9 0 w1 oM (.inl oM)).mono ?_;rintro e Y ⟨rfl,rfl⟩;go_wp2_with fail;refine (yW (-1) 3 w1 (.inl oM)).mono ?_;rintro e Y ⟨rfl,rfl⟩;go_wp2_with fail;refine (xY B own gs bp 9 3 [] [97,98,99,97,98] _ 0 0 _ 5 5 0 0 [] [] 0 0 _ aIU rfl rfl (L.out.vb (Vis.of_below (bR.alloc nL _))) (xG L.out _ _ _ 5 rfl rfl) oM (a1.out.below (bR.alloc L.out.size _) m) m dC).mono ?_;rintro e Y ⟨o,t,aj,aL,own2,gl2,rfl,z,i,x,y⟩;replace i:=(LFS.of_below B gs own (bR.alloc nL _)).trans i;obtain ⟨C,a,K,I,u,D⟩:=uS z i x y #[.int .i64 (0),.int .i64 (0),.slice o 0 t,.slice aj 0 aL];obtain ⟨a2,ar,M,b,p⟩:=hqq5 (a1.out.below (a.below L.out.size) m) (aq.out.trans (a.below L.out.size)) C u D;clear z i x y C a K I u D L a1 aq;go_wp2_with fail;generalize Y.alloc (.cells #[.int .i64 (0),.int .i64 (0),.slice o 0 t,.slice aj 0 aL] 50)=w2x at*
 try rw [p.out]
 generalize Y.heap.size=ga at*
 clear p;refine (aES B own2 gs gl2 9 3 [97,98,99,97,98] [97,98] _ 0 0 _ 2 2 0 2 [] [0,3] 0 2 _ aIT rfl rfl (M.out.vb (Vis.of_below (bR.alloc nL _))) (xG M.out _ _ _ 2 rfl rfl) oM (a2.out.below (bR.alloc M.out.size _) m) m dC).mono ?_;rintro e b8 ⟨o,t,ak,aM,b6,bq,rfl,z,i,x,y⟩;replace i:=(LFS.of_below B gs own2 (bR.alloc nL _)).trans i;obtain ⟨C,a,K,I,u,D⟩:=uS z i x y #[.int .i64 (0),.int .i64 (2),.slice o 0 t,.slice ak 2 aM];have d:=lhd (b.out.step a dC dC);clear b;have b:=d;clear d;obtain ⟨a3,au,N,f,p,g⟩:=hqq6 (a2.out.below (a.below M.out.size) m) (ar.out.trans (a.below M.out.size)) C u D I;clear z i x y C a K I u D M a2 ar;go_wp2_with fail;generalize b8.alloc (.cells #[.int .i64 (0),.int .i64 (2),.slice o 0 t,.slice ak 2 aM] 50)=w3x at*
 try rw [p.out]
 generalize b8.heap.size=gb at*
 clear p;refine (xY B b6 gs bq 9 3 [97,98,99,97,98] [122,122,122,122,122] _ 1 0 _ 5 5 3 0 [] [] 0 0 _ aHd rfl rfl (N.out.vb (Vis.of_below (bR.alloc nL _))) (xG N.out _ _ _ 5 rfl rfl) oM (a3.out.below (bR.alloc N.out.size _) m) m dC).mono ?_;rintro e b9 ⟨o,t,al,aN,bx,br,rfl,z,i,x,y⟩;replace i:=(LFS.of_below B gs b6 (bR.alloc nL _)).trans i;obtain ⟨C,a,K,I,u,D⟩:=uS z i x y #[.int .i64 (3),.int .i64 (0),.slice o 0 t,.slice al 0 aN];have d:=lhd (b.out.step a dC dC);clear b;have b:=d;clear d;have l:=lhd (g.out.step a dC dC);clear g;have g:=l;clear l;have j:=lhd (f.out.step a dC dC);clear f;have f:=j;clear j;obtain ⟨a4,av,U,k,p⟩:=hqq5 (a3.out.below (a.below N.out.size) m) (au.out.trans (a.below N.out.size)) C u D;clear z i x y C a K I u D N a3 au;go_wp2_with fail;generalize b9.alloc (.cells #[.int .i64 (3),.int .i64 (0),.slice o 0 t,.slice al 0 aN] 50)=w4x at*
 try rw [p.out]
 generalize b9.heap.size=gc at*
 clear p;refine (aER B bx gs br 9 3 [97,98,99,97,98] [] _ 0 0 none 0 0 0 0 [] [] 0 0 _ aJU rfl rfl U.out aIE oM a4.out m dC).mono ?_;rintro e ba ⟨o,t,am,aO,ai,aP,rfl,z,i,x,y⟩;obtain ⟨C,a,K,I,u,D⟩:=uS z i x y #[.int .i64 (0),.int .i64 (0),.slice o 0 t,.slice am 0 aO];have d:=lhd (b.out.step a dC dC);clear b;have b:=d;clear d;have l:=lhd (g.out.step a dC dC);clear g;have g:=l;clear l;have j:=lhd (f.out.step a dC dC);clear f;have f:=j;clear j;have q:=lhd (k.out.step a dC dC);clear k;have k:=q;clear q;obtain ⟨ao,aw,O,s,p⟩:=hqq5 (a4.out.below (a.below U.out.size) m) (av.out.trans (a.below U.out.size)) C u D;clear z i x y C a K I u D U a4 av;go_wp2_with fail;generalize ba.alloc (.cells #[.int .i64 (0),.int .i64 (0),.slice o 0 t,.slice am 0 aO] 50)=w5x at*
 try rw [p.out]
 generalize ba.heap.size=gd at*
 clear p;obtain ⟨E,P⟩:∃E,IsSuf (aG [97,98,99,97,98]) E:=by obtain ⟨E,_,_,_,P,_⟩:=O.out.tp;exact ⟨E,P⟩
 have X:=jU B ai gs aP 9 3 [97,98,99,97,98] E w5x O.out P;unfold fB at X;obtain ⟨bv,ac⟩:=eqx ((eI (aE (aG [97,98,99,97,98]) E) E 9 3 ([97,98,99,97,98]:List UInt8).length).length);rw [ac] at X;refine X.mono ?_;clear X;rintro e bF ⟨be,bl,rfl,W,af⟩;have G:=LFS.of_vb gs ai af;have d:=lhd (b.out.step G dC dC);clear b;have b:=d;clear d;have l:=lhd (g.out.step G dC dC);clear g;have g:=l;clear l;have j:=lhd (f.out.step G dC dC);clear f;have f:=j;clear j;have q:=lhd (k.out.step G dC dC);clear k;have k:=q;clear q;have F:=lhd (s.out.step G dC dC);clear s;have s:=F;clear F;have ae:=O.out.vb af.1;have aX:=pX B ai gs aP 9 3 9 3 be bv bl [97,98,99,97,98] [97,98,99,97,98] E bF ae P dC dC dC dC dC ac W.rd W.cap W.max;obtain ⟨ax,ap,a5,aK,aF⟩:=hqq5 (aw.out.trans (G.below O.out.size)) (ao.out.below (G.below O.out.size) m) ae P aX;clear ae G af W ac P aX aw ao O;go_wp2_with fail;refine aF.out.mono ?_;rintro e bb ⟨rfl,S,a7,b1,H⟩;have d:=lhd (b.out.step H dC dC);clear b;have b:=d;clear d;have l:=lhd (g.out.step H dC dC);clear g;have g:=l;clear l;have j:=lhd (f.out.step H dC dC);clear f;have f:=j;clear j;have q:=lhd (k.out.step H dC dC);clear k;have k:=q;clear q;have F:=lhd (s.out.step H dC dC);clear s;have s:=F;clear F;obtain ⟨ay,bi,a6⟩:=hqq3 (ax.out.trans (H.below a5.out.size)) (ap.out.below (H.below a5.out.size) m) b1;clear b1 H aF ax ap a5;go_wp2_with fail;refine (uK gs _ 1 1 _ oM).mono ?_;rintro e Z ⟨rfl,aT⟩;have a9:=(Below.alloc (Below.refl bb.heap.size bb) nL (.cells #[.int .u8 120] 5 (1,2))).trans (aT.mono (by simp));have J:=LFS.of_below B gs S a9;have d:=lhd (b.out.step J dC dC);clear b;have b:=d;clear d;have l:=lhd (g.out.step J dC dC);clear g;have g:=l;clear l;have j:=lhd (f.out.step J dC dC);clear f;have f:=j;clear j;have q:=lhd (k.out.step J dC dC);clear k;have k:=q;clear q;have F:=lhd (s.out.step J dC dC);clear s;have s:=F;clear F;have b2:=a6.out.vb (Vis.of_below a9);obtain ⟨az,Q⟩:=hqq2 (ay.out.trans (J.below a6.out.size)) b2;obtain ⟨b3,_⟩:=b.out;obtain ⟨ah,_⟩:=f.out;obtain ⟨b4,_⟩:=k.out;obtain ⟨b5,_⟩:=s.out;obtain ⟨bk,bw,bo,_,aV⟩:=g.out.1.rd.2 oM;subst bo;have bz:=b3.cell 0;have bA:=ah.cell 1;have bB:=ah.cell 3;have bC:=b4.cell 0;have bD:=b5.cell 0;have bE:Z.cell? ⟨bk,bw+1,none⟩=some (.int .i64 3):=aV 1 _ rfl;have ab:=xW B S gs a7 9 3 6 [97,98,99,97,98] E Z Q.out aK.out rfl;unfold mD at ab;have aD:=lhd ab;clear b3 ah b4 b5 aV b2 J aT a9 ab b f k s g a6 ay bi;go_wp2_with fail;refine (xV B S gs a7 9 3 _ Z Q.out).mono ?_;rintro e a0 ⟨rfl,rfl⟩;go_wp2_with fail;refine (mC B S gs a7 9 3 _ Z Q.out).mono ?_;rintro e a0 ⟨rfl,rfl⟩;go_wp2_with fail;refine aD.out.mono ?_;rintro e a0 ⟨bf,bm,rfl,aY,ag⟩;obtain ⟨aH,aA⟩:=hqq2 aY (az.out.trans ((LFS.of_vb gs S ag).below Q.out.size));have aR:B<=a0.heap.size:=zAk Q.out.size ag.1.size;clear aY ag aD az bz bA bB bC bD bE;go_wp2_with fail;refine (uE [97,98,99,97,98] 5 a0 rfl oM).mono ?_;rintro e bc ⟨bg,bn,b7,rfl,b0,aZ,R⟩;obtain rfl:=b0.unique aK.out;obtain ⟨aJ,aI,aB⟩:=hqq3 (aH.out.rd.below R) aZ (aA.out.trans (R.mono aR));have aS:B<=bc.heap.size:=zAk aR R.size;have bu:=R.size;clear aZ R b0 aH aA;go_wp2_with fail;refine (tM bf bg 6 bm 6 bn _ _ _ _ bc (aJ.out.mono bu) aI.out.rd oM oM).mono ?_;rintro e bd ⟨rfl,aa⟩;have aW:decide (aE (aG [97,98,99,97,98]) b7=aE (aG [97,98,99,97,98]) b7)=true:=zBz rfl;rw [aW];have aC:=lhd (aB.out.trans (aa.mono aS));have bs:B<=bd.heap.size:=zAk aS aa.size;clear aa aW aI aJ aB;go_wp2_with fail;refine (aC7 0 0 0 none 0 0 bd).mono ?_;rintro e wc ⟨rfl,aU⟩;have bj:=lhd (aC.out.trans (aU.mono bs));clear aU aC;go_wp2_with fail;refine (yX wc).mono ?_;rintro e bJ ⟨rfl,rfl⟩;go_wp2_with fail;go_ret;exact ⟨rfl,by rw [an.out];exact bj.out⟩
def aAo {d:List Stp} {f g:Nat} (a:wW d f g=true):f<=g/\∀b∈d,b.n<=60:=by
 unfold wW at a;rw [zBd] at a;exact ⟨of_decide_eq_true a.2,fun b i=>of_decide_eq_true (zBf.1 a.1 b i)⟩
def aCy (A:Option Addr) (g c:Nat):Value->World->Prop:=fun v _=>∃a f d b,v=.agg (mN a f d A b c)/\b<=g/\mP a/\mP f/\mP d
def aAb (A:Option Addr) (b c:Nat):Stb (aCy A b c):=fun _ _ _ a _=>a
def StAt.mono {w:World} {B B' gs b most rate:Nat} {own:Nat->Nat} {f:List UInt8} (a:StAt w B own gs b most rate f) (d:B'<=B):StAt w B' own gs b most rate f:=
 ⟨a.blk,zAk d a.low,a.col,a.live.low d,a.n127,a.len,a.max,a.r1,a.r2⟩
def Two.new {w w':World} {g gs1 gl1 i k gs2 gl2 j l:Nat} {own1 own2:Nat->Nat} {m o:List UInt8} (d:StAt w g own1 gs1 gl1 i k m) (f:StAt w' w.heap.size own2 gs2 gl2 j l o):Two own1 gs1 own2 gs2:=fun b a=>by
 have q:b < w.heap.size:=by rcases a with a | a;exact (d.live.bnd b a).2;rw [a];exact d.blk.lt
 refine ⟨Nat.eq_zero_of_not_pos fun p=>?_,fun e=>?_⟩;have:=(f.live.bnd b oM).1;omega;have:=f.low;omega
def Rd.one {w:World} {B n c a:Nat} {A:Option Addr} {b:List UInt8} {d:UInt8} (f:Rd w B 1 A n (b.map bv)) (g:b[a]?=some d) (m:n<=c):Rd w B 1 (fT A c a 1) 1 (([d]:List UInt8).map bv):=by
 have o:b.length=n:=by simpa using f.1
 have p:a < n:=by rw [<-o];exact (zAc.1 g).1
 have i:=(f.cut (k:=a) (cap:=c) oM m).cut_hi (k:=1) oM;have e:((b.map bv).drop (a*1)).take (1*1)=([d]:List UInt8).map bv:=by rw [zBl,zBl,<-List.map_drop,<-List.map_take];congr 1;obtain ⟨j,l⟩:=zAc.1 g;rw [zAx j,l];rfl
 rwa [e] at i
end Go.Proofs.YthldmddkfbijhaaGreatDoor
