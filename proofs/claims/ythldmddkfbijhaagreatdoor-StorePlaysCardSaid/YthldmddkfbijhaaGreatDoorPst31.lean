/- Lemmas of the walk. Conditions: each its own. -/
import Derived.Test.YthldmddkfbijhaaGreatDoorPst14
import Derived.Test.YthldmddkfbijhaaGreatDoorPst28
import Derived.Test.YthldmddkfbijhaaGreatDoorPst30
import Derived.Test.YthldmddkfbijhaaGreatDoorProg
import Derived.Test.YthldmddkfbijhaaGreatDoorSht
import Derived.Test.YthldmddkfbijhaaGreatDoorShl
import Derived.Test.YthldmddkfbijhaaGreatDoorShi
import Derived.Test.YthldmddkfbijhaaGreatDoorShs
set_option linter.all false
set_option maxRecDepth 100000
set_option maxHeartbeats 8000000
open Go.Proofs.Tryz
namespace Go.Proofs.YthldmddkfbijhaaGreatDoor
open Go.RowKit
theorem aAJ (most rate:Nat) (w:World) (p:most<=2147483648) (i:1<=rate) (j:rate<=64):
 Calls prog 18 #[(most:Int),(rate:Int)] w fun f w'=>∃gs gl own,f=.returned (.tuple #[.pointer (some ⟨gs,0,none⟩),.int .i64 0])/\StAt w' w.heap.size own gs gl most rate []/\Below w.heap.size w w':=by
 have l:=jI rate none 0 0 w.heap.size [] [] 0 rfl rfl w (Rd.nil _ _ _ _) (fun A q=>by cases q) nL oM oM i j;have n1:¬((most:Int) < 0):=oM;have n2:¬((most:Int) > 2147483648):=oM;have z:decide ((most:Int) > 2147483648)=false:=zBy n2;have e:=lhd l;clear l;go_enter func18,ntmps18;go_wp2_with fail;refine e.out.mono ?_;rintro f w1 ⟨gl,own,rfl,u,d,a⟩;have c:Below w1.heap.size w1 (w1.alloc (.cells #[.pointer (some ⟨gl,0,none⟩),(most:Int)] 115)):=bR.alloc nL _;have m:StAt (w1.alloc (.cells #[.pointer (some ⟨gl,0,none⟩),(most:Int)] 115)) w.heap.size own w1.heap.size gl most rate []:=
  ⟨Bk.new _ _ _,a.size,Nat.eq_zero_of_not_pos fun s=>by have:=(d.bnd w1.heap.size oM).2;omega,d.vis (Vis.of_below c),by simp,by simp,p,i,j⟩
 obtain ⟨o,n⟩:=hqq2 m (a.trans (c.mono a.size));clear m c a d e;go_wp2_with fail;go_ret2;exact ⟨_,gl,own,rfl,o.out,n.out⟩
theorem zL (most:Int) (rate:Int) (w:World) (d:most < 0∨most > 2147483648):
 Calls prog 18 #[.int .i64 most,.int .i64 rate] w fun c w'=>c=.returned (.tuple #[.pointer none,.int .i64 1])/\w=w':=by
 by_cases a:most < 0
 · have n1:decide (most < 0)=true:=zBz a;go_enter func18,ntmps18;go_wp2_with fail;go_ret2;exact ⟨rfl,rfl⟩
 · have n1:decide (most < 0)=false:=zBy a;have n2:decide (most > 2147483648)=true:=zBz oM;go_enter func18,ntmps18;go_wp2_with fail;go_ret2;exact ⟨rfl,rfl⟩
theorem aDK (rate:Int) (a:Option Addr) (e c:Nat) (w:World) (f:rate < 1∨rate > 64):
 Calls prog 35 #[.int .i64 rate,.slice a e c] w fun d w'=>d=.returned (.tuple #[.pointer none,.int .i64 1])/\w=w':=by
 by_cases c1:rate < 1
 · have n1:decide (rate < 1)=true:=zBz c1;go_enter func35,ntmps35;go_wp2_with fail;go_ret2;exact ⟨rfl,rfl⟩
 · have n1:decide (rate < 1)=false:=zBy c1;have n2:decide (rate > 64)=true:=zBz oM;go_enter func35,ntmps35;go_wp2_with fail;go_ret2;exact ⟨rfl,rfl⟩
theorem zK (most:Nat) (rate:Int) (w:World) (f:most<=2147483648) (d:rate < 1∨rate > 64):
 Calls prog 18 #[(most:Int),.int .i64 rate] w fun a w'=>a=.returned (.tuple #[.pointer none,.int .i64 1])/\w=w':=by
 have c:=aDK rate none 0 0 w d;have n1:¬((most:Int) < 0):=oM;have n2:¬((most:Int) > 2147483648):=oM;have i:decide ((most:Int) > 2147483648)=false:=zBy n2;have e:=lhd c;clear c d;go_enter func18,ntmps18;go_wp2_with fail;refine e.out.mono ?_;rintro a w1 ⟨rfl,rfl⟩;go_wp2_with fail;go_ret2;exact ⟨rfl,rfl⟩
theorem aDj (B:Nat) (own:Nat->Nat) (gs gl most rate i:Nat) (t:List UInt8) (o:List Nat) (w:World) (d:StAt w B own gs gl most rate t) (l:t.length=i) (A:IsSuf (aF t) o):
 Calls prog 79 #[gs] w (pD w rate i o):=by
 obtain ⟨gk,F,G,T,H,n,a,e,c⟩:=d.live;obtain rfl:=a.suf.unique A;rw [l] at a c;have D:=d.blk.cell 0;have f:=a.pairs l e c d.r1;unfold pD at f⊢;clear a e c d;go_enter func79,ntmps79;go_wp2_with fail;refine f.mono ?_;rintro E I ⟨p,z,n,C,rfl,a,e,c,j,m⟩;obtain ⟨q,s,u⟩:=hqq3 c j m;clear f c j m;go_wp2_with fail;go_ret;exact ⟨p,z,n,C,rfl,a,e,q.out,s.out,u.out⟩
theorem aBJ (B:Nat) (own:Nat->Nat) (gs gl most rate i:Nat) (t:List UInt8) (w:World) (c:StAt w B own gs gl most rate t) (l:t.length=i):
 Calls prog 80 #[gs] w (mT w i):=by
 obtain ⟨gk,F,G,T,I,H,a,d,e⟩:=c.live;rw [l] at a;have D:=c.blk.cell 0;have z:=c.n127;have f:=a.shapes l oM;unfold mT at f⊢;clear a d e c z;go_enter func80,ntmps80;go_wp2_with fail;refine f.mono ?_;rintro E J ⟨n,u,A,C,rfl,a,d,e,j,m⟩;obtain ⟨o,p,q,s⟩:=hqq4 d e j m;clear f d e j m;go_wp2_with fail;go_ret;exact ⟨n,u,A,C,rfl,a,o.out,p.out,q.out,s.out⟩
theorem aFi (B:Nat) (own:Nat->Nat) (gs gl most rate:Nat) (t:List UInt8) (w:World) (d:StAt w B own gs gl most rate t):
 Calls prog 26 #[gs,.string ⟨t.toArray⟩] w fun c w'=>c=.returned (.bool true)/\VB B w w':=by
 obtain ⟨a,l⟩:=eqx t.length;have aV:a<=127:=by rw [<-l];exact d.n127
 have b2:(⟨t.toArray⟩:ByteArray).size=a:=(mK t).trans l;have aY:=d.r1;have aC:=d.r2;have a1:=d.size;obtain ⟨j,i,aT⟩:=hqq3 d l a1;clear d l a1;go_enter func26,ntmps26;go_wp2_with fail;refine (nY t a w i.out oM).mono ?_;rintro c w1 ⟨A1,c1,aJ,rfl,ah,a9,a3⟩;have ak:VB B w w1:=VisK.of_below a3;obtain ⟨p,H,q⟩:=hqq3 ah a9 ak;clear ah a9 ak a3;go_wp2_with fail;refine (yK B own gs gl most rate (a+1) t aJ w1 (j.out.vb q.out.1) p.out (by rw [i.out])).mono ?_;rintro c aM ⟨A2,c2,rfl,aa,E⟩;have aj:=q.out.trans E;obtain ⟨I,M,W⟩:=hqq3 (E.1.made H.out dC dC) aa aj;clear aa E aj H q;go_wp2_with fail;refine (nZ t a aM i.out oM).mono ?_;rintro c aN ⟨an,av,f,rfl,ai,ab,m⟩;obtain rfl:=ai.unique p.out;obtain ⟨J,N,O,X⟩:=hqq4 ((Vis.of_below m).made I.out dC dC) ((Vis.of_below m).made M.out dC dC) ab (W.out.trans (VisK.of_below m));clear ai ab m I M W;go_wp2_with fail;refine (kI A2 an (a+1) c2 (a+1) av _ _ (aE (aF t) f) (aE (aF t) f) aN N.out.rd O.out.rd oM oM).mono ?_;rintro c aO ⟨rfl,C⟩;have a7:decide (aE (aF t) f=aE (aF t) f)=true:=zBz rfl;rw [a7];obtain ⟨K,s⟩:=hqq2 ((Vis.of_below C).made J.out dC dC) (X.out.trans (VisK.of_below C));clear a7 C J N O X;go_wp2_with fail;refine (aDj B own gs gl most rate a t f aO (j.out.vb s.out.1) i.out p.out).mono ?_;rintro c am ⟨ao,aw,aI,aG,rfl,ac,aA,ad,ae,D⟩;obtain ⟨L,u,S,U,R⟩:=hqq5 ((Vis.of_below D).made K.out dC dC) (s.out.trans (VisK.of_below D)) ad ae ac;clear ac ad ae D K s;go_wp2_with fail;refine (qL B own gs gl most rate t am (j.out.vb u.out.1)).mono ?_;rintro c b1 ⟨rfl,rfl⟩;go_wp2_with fail;refine (uH ao A1 aG aw (a+1) c1 _ _ aI f rate a am U.out L.out.rd nL nL R.out rfl aA oM aC S.out).mono ?_;rintro c aP ⟨rfl,a5⟩;have z:=lhd (u.out.trans (VisK.of_below a5));clear a5 S U R L u;go_wp2_with fail;refine (aBJ B own gs gl most rate a t aP (j.out.vb z.out.1) i.out).mono ?_;rintro c aQ ⟨F,a0,al,e,rfl,aB,af,⟨ar,a2⟩,a8,a6⟩;obtain ⟨Y,o,ap,G⟩:=hqq4 (z.out.trans (VisK.of_below a6)) af a2 a8;clear af a2 a8 a6 z;have ax:IntKind.i64.wrap ((a:Int)+1)=((a+1:Nat):Int):=by rw [IntKind.wrap_i64];omega
 go_wp2_with fail;refine (aAI F e a0 al ((a+1:Nat):Int) ar _ aQ o.out nL oM ap.out (fun aK aD=>by obtain ⟨aH,ay,aW,az⟩:=G.out aK aD;exact ⟨aH,ay,by omega,az⟩)).mono ?_;rintro c aR ⟨rfl,n⟩;obtain ⟨Z,V⟩:=hqq2 (Y.out.trans (VisK.of_below n)) (o.out.below n);have ag:=n.size;clear n Y o ax;go_wp2_with fail;refine (aH0 F e a0 al _ aR V.out ag aB G.out).mono ?_;rintro c aL ⟨⟨au,rfl⟩,a4⟩;have aq:=lhd (Z.out.trans (VisK.of_below a4));clear a4 Z V ag;have aX:∀A,(Instr.field 122 (.agg #[.int .i64 au,.int .i64 0,(e:Int),(e:Int)]) 3).run prog A=.ok (.int .i64 (e:Int)) A:=fun A=>by kernel_rfl
 go_wp2_with fail;refine (aEk a aL oM).mono ?_;rintro c b0 ⟨⟨aS,rfl,aZ⟩,rfl⟩;have aU:decide ((e:Int)<=aS)=true:=zBz oM;go_wp2_with fail;go_ret;exact ⟨rfl,aq.out⟩
section
variable {w w' : World} {B g : Nat} {own : Nat -> Nat} {cs0 : Array Value}
theorem WaveE.farT {f:Nat} {e:List Nat} (a:WaveE w B own f e) (k:Keep (fun b=>b=g) w w') (c:Bk w g 50 cs0):WaveE w' B own f e:=by
 obtain ⟨l,v,a⟩:=a;refine ⟨l,v,k.bk a.blk (Bk.ne a.blk c dC),a.base,fun z s=>?_,fun b c=>⟨(a.bnd b c).1,zAl (a.bnd b c).2 k.size⟩⟩;obtain ⟨j,o,p,q⟩:=a.rows z s;exact ⟨j,aA o fun b cs _ d=>k.bk d (Bk.ne d c dC),p,fun A u=>(q A u).keep k fun b t cs i d _ m=>by
  have n:b=g:=m;subst n;rw [(aM d c).1] at i;exact absurd i dC⟩
theorem WalkE.farT {gk:Nat} {c T:List Nat} (i:WalkE w B own gk c T) (k:Keep (fun b=>b=g) w w') (a:Bk w g 50 cs0):WalkE w' B own gk c T:=by
 obtain ⟨f,gt,d,j,l,e,m⟩:=i;exact ⟨f,gt,k.bk d (Bk.ne d a dC),j,l.farT k a,k.bk e (Bk.ne e a dC),m⟩
theorem PermE.farT {e:Nat->Prop} {i f P:Nat} {j:List (Nat×Nat)} (p:PermE w e i f P j) (k:Keep (fun b=>b=g) w w') (d:Bk w g 50 cs0):PermE w' e i f P j:=by
 obtain ⟨⟨o,C,D,E,A,u,l,z,n,hx,m⟩,q,s⟩:=p;have a:=hx.at_;exact ⟨⟨o,C,D,E,A,u,l,z,n,⟨⟨k.bk a.blk (Bk.ne a.blk d dC),aA a.lrow fun b cs _ c=>k.bk c (Bk.ne c d dC),aA a.orow fun b cs _ c=>k.bk c (Bk.ne c d dC),k.bk a.ar (Bk.ne a.ar d dC),aA a.trow fun b cs _ c=>k.bk c (Bk.ne c d dC),aA a.frow fun b cs _ c=>k.bk c (Bk.ne c d dC),a.apart,a.lt,a.lo⟩,hx.fp,hx.fa,hx.fl,hx.fo,hx.ft,hx.ff,hx.nd,hx.tkl,hx.tkk,hx.frn,hx.frk,hx.sz⟩,m⟩,q,s⟩
theorem LiveE.farT {gl rate:Nat} {t:List UInt8} (e:LiveE w B own gl t rate) (k:Keep (fun b=>b=g) w w') (c:Bk w g 50 cs0):LiveE w' B own gl t rate:=by
 obtain ⟨gk,d,m,T,o,n,⟨f,a,i,j⟩,l⟩:=e;exact ⟨gk,d,m,T,o,n,⟨f,⟨k.bk a.blk (Bk.ne a.blk c dC),a.col,a.walk.farT k c,a.perm.farT k c⟩,i,j⟩,l⟩
theorem StAt.farT {gs gl most rate:Nat} {t:List UInt8} (a:StAt w B own gs gl most rate t) (k:Keep (fun b=>b=g) w w') (c:Bk w g 50 cs0):StAt w' B own gs gl most rate t:=
 ⟨k.bk a.blk (Bk.ne a.blk c dC),a.low,a.col,a.live.farT k c,a.n127,a.len,a.max,a.r1,a.r2⟩
end
theorem aFG {c:Nat} {a k:Int} (e:¬iE c a k=false):0<=a/\0<=k/\a+k<=(c:Int):=by
 cases d:iE c a k with
 | false=>exact absurd d e
 | true=>
   obtain ⟨f,b,rfl,rfl,i⟩:=iJ d;omega
theorem aIF (T p:List UInt8) (most:Nat) (c q k:Int) (a:T.length<=most):(doM T (most:Int) c q k p).1.length<=most:=by
 unfold doM;by_cases e:c=1
 · rw [zBx e];split;exact a
   · split;exact a
     · rename_i d s
       have:=aFG d;simp only [zAi,zAj,zAw];omega
 rw [zBw e];by_cases f:c=2;rw [zBx f];split;exact a;simp only [zAi,zAj,zAw];omega;rw [zBw f];by_cases l:c=5
 · rw [zBx l];split <;> exact a
 rw [zBw l];by_cases i:c=3
 · rw [zBx i];split;exact a
   · rename_i d
     have:=aFG d;simp only [zAi,zAj,zAw];omega
 rw [zBw i];by_cases j:c=4;rw [zBx j];exact a;rw [zBw j];by_cases m:c=6;rw [zBx m];exact a;rw [zBw m];by_cases n:c=7;rw [zBx n];exact a;rw [zBw n];by_cases o:c=8;rw [zBx o];exact a;rw [zBw o];exact a
section
variable {P : Program} {ops : Array Oper} {Q : Exit -> Act -> World -> Prop} {md : Region.Mode}
theorem aCd (a:Nat) (j:List Nat) (i:List (Value->World->Prop)) (e:Act) (d:World) (q:(ops.toList.take a).filterMap (·.dst)=j) (z:a<=ops.size) (u:gZ md ops e.tmps.size=true) (D:((List.range ops.size).all fun k=>decide (k < a)||(List.range a).all fun c=>upB md ops ops.size k c)=true)
 (A:∀E∈i,Stb E) (C:∀m p,m < a->ops[m]?=some p->cY P ops Q md (Grow d) (fun _=>Grow) (fun _ _=>True) (Vs i) e m p)
 (s:∀(o:Operand->Value) w f,Grow d w->(∀c n,c < a->((ops[c]?).bind (·.dst))=some n->Vs i c (o (.tmp n)) w)->wpAny P md ops Q (ops.size - a+f) (bX a ops.size) (dI o j e) w):
 wpAny P md ops Q ops.size (Array.replicate ops.size false) e d:=
 nC a j (Grow d) (fun _=>Grow) (fun _ _=>True) (Vs i) e d q z u D bR (fun _=>trivial) (fun _ _ _ _ l k=>l.trans k) (fun _ _ _ _ _ _ _ _ _ _=>trivial) (fun c _ v w w' _ _ _ l _ k=>gK A c v w w' l k) C s
end
section
variable {w w' : World} {v : Value}
def fresh (N0:Nat) (t:TypeId) (cs:Array Value):Value->World->Prop:=fun v w=>∃g,v=.pointer (some ⟨g,0,none⟩)/\N0<=g/\Bk w g t cs
theorem aF7 (N0:Nat) (t:TypeId) (cs:Array Value):Stb (fresh N0 t cs):=fun _ _ _ ⟨g,c,d,a⟩ k=>⟨g,c,d,a.below k a.lt⟩
theorem xG {N0:Nat} {t:TypeId} {cs:Array Value} (a:N0<=w.heap.size):fresh N0 t cs (.pointer (some ⟨w.heap.size,0,none⟩)) (w.alloc (.cells cs t)):=⟨_,rfl,a,Bk.new _ _ _⟩
def aHT:Array Value:=#[.int .i64 0,.int .i64 0,.slice none 0 0,.slice none 0 0]
variable {B gs gl gx gt N0 most rate : Nat} {own own' : Nat -> Nat} {T T2 : List UInt8} {r : Told}
def MdX (w:World) (gx most:Nat) (T:List UInt8):Prop:=Bk w gx 56 #[.string ⟨T.toArray⟩,(most:Int)]
def PyA (B gs gx N0 most rate:Nat) (T2:List UInt8) (r:Told) (v:Value) (w:World):Prop:=∃a c,StAt w B a gs c most rate T2/\Ap a gs gx/\∃A1 c1 A2 c2,v=.agg (lX r A1 c1 A2 c2)/\Made w N0 5 1 A1 r.data.length c1 (r.data.map bv)/\Made w N0 3 1 A2 r.places.length c2 (r.places.map nv)
theorem PyA.below (c:PyA B gs gx N0 most rate T2 r v w) (k:Below w.heap.size w w'):PyA B gs gx N0 most rate T2 r v w':=by
 obtain ⟨l,a,d,e,A1,c1,A2,c2,f,i,j⟩:=c;exact ⟨l,a,d.vb (Vis.of_below k),e,A1,c1,A2,c2,f,i.below k,j.below k⟩
theorem PyA.keep (f:PyA B gs gx N0 most rate T2 r v w) (k:Keep (fun b=>b=gx) w w') (hx:gx < N0):PyA B gs gx N0 most rate T2 r v w':=by
 obtain ⟨n,e,i,d,A1,c1,A2,c2,j,l,m⟩:=f;exact ⟨n,e,i.far k (fun b a=>by have c:b=gx:=a;rw [c];exact d),d,A1,c1,A2,c2,j,l.keepF k (fun b a=>by have c:b=gx:=a;omega),m.keepF k (fun b a=>by have c:b=gx:=a;omega)⟩
def PyB (gx N0 most:Nat) (T2:List UInt8) (r:Told) (v:Value) (w:World):Prop:=∃A1 c1 A2 c2,v=.agg (lX r A1 c1 A2 c2)/\RdN w N0 1 A1 r.data.length (r.data.map bv)/\Made w N0 3 1 A2 r.places.length c2 (r.places.map nv)/\MdX w gx most T2
theorem PyB.below (c:PyB gx N0 most T2 r v w) (k:Below w.heap.size w w'):PyB gx N0 most T2 r v w':=by
 obtain ⟨A1,c1,A2,c2,d,e,f,a⟩:=c;exact ⟨A1,c1,A2,c2,d,e.below k,f.below k,Bk.below a k (Bk.lt a)⟩
def PyS (c d B gs gx:Nat) (own:Nat->Nat) (most rate:Nat) (T2:List UInt8) (a:Nat) (w w':World):Prop:=(a=c->DoS B gs own most rate T2 w w')/\(a=d->Keep (fun b=>b=gx) w w'/\MdX w' gx most T2)/\(a≠c->a≠d->Below w.heap.size w w')
def PyC (a:World) (B gx gt N0 most:Nat) (cs:Array Value) (w:World):Prop:=Bk w gt 46 cs/\Below B a w/\B<=w.heap.size/\N0<=w.heap.size/\∃c,MdX w gx most c
def PyU (c d B gs gl gx:Nat) (own:Nat->Nat) (most rate:Nat) (T:List UInt8) (a:Nat) (w:World):Prop:=(a=c->StAt w B own gs gl most rate T)/\(a=d->MdX w gx most T)
theorem PyC.step {o:World} {n u z:Nat} {cs:Array Value} (A:PyC o B gx gt N0 most cs w) (k:PyS u z B gs gx own most rate T2 n w w') (q:Ap own gs gt) (s:Ap own gs gx) (D:gt≠gx) (G:B<=gx):PyC o B gx gt N0 most cs w':=by
 obtain ⟨e,j,a,l,p,m⟩:=A;by_cases c1:n=u;obtain ⟨own',F,_,d⟩:=k.1 c1;exact ⟨d.bk e q.col q.ne dC dC,j.trans (d.below a),zAk a d.size,zAk l d.size,p,d.bk m s.col s.ne dC dC⟩;by_cases c2:n=z;obtain ⟨f,C⟩:=k.2.1 c2;exact ⟨f.bk e (fun i=>D i),j.trans (f.to_below a fun b c i=>by have E:b=gx:=i;omega),zAk a f.size,zAk l f.size,T2,C⟩;have c:=k.2.2 c1 c2;exact ⟨e.below c e.lt,j.trans (c.mono a),zAk a c.size,zAk l c.size,p,Bk.below m c (Bk.lt m)⟩
theorem PyC.drew {c:World} {cs:Array Value} (a:PyC c B gx gt N0 most cs w):PyC c B gx gt N0 most cs w.drew:=⟨a.1,a.2.1.trans (iF w B),a.2.2.1,a.2.2.2.1,a.2.2.2.2⟩
theorem PyU.drew {d e f:Nat} (c:PyU e f B gs gl gx own most rate T d w):PyU e f B gs gl gx own most rate T d w.drew:=⟨fun a=>(c.1 a).vb (Vis.of_below (iF _ _)),fun a=>c.2 a⟩
theorem PyU.step {e f c i:Nat} (d:PyU c i B gs gl gx own most rate T e w) (k:PyS c i B gs gx own most rate T2 f w w') (l:Ap own gs gx) (m:e≠f) (n:e=c->f≠i):PyU c i B gs gl gx own most rate T e w':=by
 refine ⟨fun a=>?_,fun a=>?_⟩;exact (d.1 a).vb (Vis.of_below (k.2.2 (fun j=>m (a.trans j.symm)) (n a)));by_cases c1:f=c;obtain ⟨own',q,_,p⟩:=k.1 c1;exact p.bk (d.2 a) l.col l.ne dC dC;have o:=k.2.2 c1 (fun j=>m (a.trans j.symm));exact Bk.below (d.2 a) o (Bk.lt (d.2 a))
theorem xF {c e f:Nat} {cs:Array Value} (j:fresh N0 50 cs v w) (k:PyS e f B gs gx own most rate T2 c w w') (l:∀b,N0<=b->own b=0) (q:gs < N0) (hx:gx < N0):fresh N0 50 cs v w':=by
 obtain ⟨g,m,d,a⟩:=j;refine ⟨g,m,d,?_⟩;by_cases c1:c=e;obtain ⟨own',p,_,n⟩:=k.1 c1;exact n.bk a (l g d) oM dC dC;by_cases c2:c=f;exact (k.2.1 c2).1.bk a (fun i=>by have o:g=gx:=i;omega);exact a.below (k.2.2 c1 c2) a.lt
theorem fH {c d e:Nat} (f:c≠d) (i:c≠e) (k:Below w.heap.size w w'):PyS d e B gs gx own most rate T2 c w w':=⟨fun a=>absurd a f,fun a=>absurd a i,fun _ _=>k⟩
theorem aKu {j1 j2:Nat} (o:j1≠j2) (j:Ap own gs gx) (hx:gx < w.heap.size) (i:N0<=w.heap.size) (n:StDone w B own gs most rate T2 r (.returned v) w'):PyA B gs gx N0 most rate T2 r v w'/\PyS j1 j2 B gs gx own most rate T2 j1 w w':=by
 obtain ⟨A1,c1,A2,c2,own',d,c,e,f,l,m,_,_⟩:=n;injection c with c;exact ⟨⟨own',d,e,j.step f hx,A1,c1,A2,c2,c,l.mono i,m.mono i⟩,fun _=>⟨own',d,e,f⟩,fun a=>absurd a o,fun a=>absurd rfl a⟩
theorem aKt {j1 j2:Nat} (l:j1≠j2) (e:N0<=w.heap.size) (j:cD gx (most:Int) T2 r w w' (.returned v)):PyB gx N0 most T2 r v w'/\PyS j1 j2 B gs gx own most rate T2 j2 w w':=by
 obtain ⟨A1,c1,A2,c2,c,m,f,i,d⟩:=j;injection c with c;exact ⟨⟨A1,c1,A2,c2,c,f.mono e,i.mono e,d⟩,fun a=>absurd a.symm l,fun _=>⟨m,d⟩,fun _ a=>absurd rfl a⟩
end
def aK8 (cs:Array Value):Prop:=∀(c:Nat) (a:UInt8),cs[c]?≠some (bv a)
theorem aIe (x y:Int) (A1 A2:Option Addr) (n1 c1 n2 c2:Nat):aK8 #[.int .i64 x,.int .i64 y,.slice A1 n1 c1,.slice A2 n2 c2]:=by
 intro a c;rcases a with _ | _ | _ | _ | a <;> simp [bv]
section
variable {w w' : World} {g : Nat} {t : TypeId} {cs : Array Value} (hx : Bk w g t cs) (k : Keep (fun b => b = g) w w')
include hx k
theorem aK3 {B d:Nat} {e:Option Addr} {T:List UInt8} (o:aK8 cs) (c:Rd w B 1 e d (T.map bv)) (m:B<=w.heap.size):Rd w' w'.heap.size 1 e d (T.map bv):=Rd.keepF c k m fun q u n a=>by
 obtain ⟨b,s,f,z,l⟩:=c.2 q;rw [n] at f;cases f;have a:b=g:=a;subst a;have p:(T.map bv).length=d:=by have:=c.1;omega
 have j:0 < T.length:=by simp at p;omega
 have i:=l 0 (bv (T[0]'j)) (by rw [zAf,zAa j];rfl);rw [zBq,hx.cell s] at i;exact o _ _ i
theorem aJM {B i c e:Nat} {a:TypeId} {d:Option Addr} {j:List Value} (n:a≠t) (f:Made w B a i d c e j):Made w' B a i d c e j:=by
 have m:w'.ownsRow B a i (.slice d c e) c j:=aA f.own fun b o _ l=>k.bk l (Bk.ne l hx n);exact ⟨m,Rd.of_own m,f.cap,f.max⟩
end
def gL (w:World) (g:Nat) (a c:Int) (d e:Value):World:=(((w.setCell ⟨g,0,none⟩ (.int .i64 a)).setCell ⟨g,1,none⟩ (.int .i64 c)).setCell ⟨g,2,none⟩ d).setCell ⟨g,3,none⟩ e
theorem fG (w:World) (g:Nat) (a c:Int) (d e:Value):Keep (fun b=>b=g) w (gL w g a c d e):=
 ((((Keep.refl (fun b=>b=g) w).setCell (p:=⟨g,0,none⟩) (.inl rfl) _).setCell (p:=⟨g,1,none⟩) (.inl rfl) _).setCell (p:=⟨g,2,none⟩) (.inl rfl) _).setCell (p:=⟨g,3,none⟩) (.inl rfl) _
theorem aAt {w:World} {g:Nat} {i j l m:Value} (f:Bk w g 50 #[i,j,l,m]) (a c:Int) (d e:Value):Bk (gL w g a c d e) g 50 #[.int .i64 a,.int .i64 c,d,e]:=by
 have:=(((f.set 0 (.int .i64 a)).set 1 (.int .i64 c)).set 2 d).set 3 e;simpa [gL] using this
def ResC (w:World) (g:Nat):Prop:=∃(x y:Int) (A1:Option Addr) (n1 c1:Nat) (A2:Option Addr) (n2 c2:Nat),Bk w g 50 #[.int .i64 x,.int .i64 y,.slice A1 n1 c1,.slice A2 n2 c2]
def ResX (w:World) (g:Nat) (r:Told):Prop:=∃A1 c1 A2 c2,Bk w g 50 (lX r A1 c1 A2 c2)/\Rd w w.heap.size 1 A1 r.data.length (r.data.map bv)/\Made w 0 3 1 A2 r.places.length c2 (r.places.map nv)
section
variable {w : World} {g g' : Nat} {r : Told} {A1 A2 : Option Addr} {x y : Int} {n1 c1 n2 c2 : Nat}
theorem ResC.of (a:Bk w g 50 aHT):ResC w g:=⟨_,_,_,_,_,_,_,_,a⟩
theorem ResC.setR {d:World} (a:ResC w g) (c:ResC w g') (i:gL w g' x y (.slice A1 n1 c1) (.slice A2 n2 c2)=d):ResC d g:=by
 subst i;obtain ⟨_,_,_,_,_,_,_,_,c⟩:=c;by_cases e:g=g';subst e;exact ⟨_,_,_,_,_,_,_,_,aAt c _ _ _ _⟩;obtain ⟨_,_,_,_,_,_,_,_,a⟩:=a;exact ⟨_,_,_,_,_,_,_,_,(fG w g' _ _ _ _).bk a (fun f=>e f)⟩
theorem StAt.setR {c:World} {B gs gl most rate:Nat} {own:Nat->Nat} {T:List UInt8} (d:StAt w B own gs gl most rate T) (a:ResC w g') (e:gL w g' x y (.slice A1 n1 c1) (.slice A2 n2 c2)=c):StAt c B own gs gl most rate T:=by
 subst e;obtain ⟨_,_,_,_,_,_,_,_,a⟩:=a;exact d.farT (fG w g' _ _ _ _) a
theorem MdX.setR {c:World} {gx most:Nat} {T:List UInt8} (d:MdX w gx most T) (a:ResC w g') (e:gL w g' x y (.slice A1 n1 c1) (.slice A2 n2 c2)=c):MdX c gx most T:=by
 subst e;obtain ⟨_,_,_,_,_,_,_,_,a⟩:=a;exact (fG w g' _ _ _ _).bk d (Bk.ne d a dC)
def RowR (w:World) (A1 A2:Option Addr) (c2:Nat) (r:Told):Prop:=Rd w w.heap.size 1 A1 r.data.length (r.data.map bv)/\Made w 0 3 1 A2 r.places.length c2 (r.places.map nv)
theorem RowR.setR {c:World} {A3 A4:Option Addr} {c4:Nat} {q:Told} (d:RowR w A3 A4 c4 q) (a:ResC w g') (e:gL w g' x y (.slice A1 n1 c1) (.slice A2 n2 c2)=c):RowR c A3 A4 c4 q:=by
 subst e;obtain ⟨_,_,_,_,_,_,_,_,a⟩:=a;exact ⟨aK3 a (fG w g' _ _ _ _) (aIe _ _ _ _ _ _ _ _) d.1 nL,aJM a (fG w g' _ _ _ _) dC d.2⟩
theorem ResX.new {a:World} (c:ResC w g) (f:RowR w A1 A2 c2 r) (e:gL w g r.code r.num (.slice A1 r.data.length c1) (.slice A2 r.places.length c2)=a):ResX a g r:=by
 have d:=f.setR c e;subst e;obtain ⟨_,_,_,_,_,_,_,_,i⟩:=c;exact ⟨A1,c1,A2,c2,aAt i _ _ _ _,d.1,d.2⟩
theorem ResX.setR {f:World} (o:ResX w g r) (j:ResC w g') (p:RowR w A1 A2 c2 r) (e:gL w g' r.code r.num (.slice A1 r.data.length c1) (.slice A2 r.places.length c2)=f):ResX f g r:=by
 by_cases i:g=g';subst i;exact ResX.new j p e;obtain ⟨a,m,c,d,s,u,z⟩:=o;have l:=RowR.setR (A3:=a) (A4:=c) (c4:=d) (q:=r) ⟨u,z⟩ j e;subst e;exact ⟨a,m,c,d,(fG w g' _ _ _ _).bk s (fun n=>i n),l.1,l.2⟩
theorem lS {B:Nat} {c d:Value} {a:World} (f:B<=w.heap.size) (m:B<=g) (i:gL w g x y c d=a):Below B w a:=by
 subst i;exact (fG w g x y c d).to_below f fun b l e=>by have j:b=g:=e;omega
end
def vY (w:World) (g:Nat) (k c a:Int) (d:Value):World:=(((w.setCell ⟨g,0,none⟩ (.int .i64 k)).setCell ⟨g,1,none⟩ (.int .i64 c)).setCell ⟨g,2,none⟩ (.int .i64 a)).setCell ⟨g,3,none⟩ d
theorem aA2 {B:Nat} {w:World} {g:Nat} (f:B<=w.heap.size) (l:B<=g) (k a c:Int) (d:Value):Below B w (vY w g k a c d):=
 (((((Keep.refl (fun b=>b=g) w).setCell (p:=⟨g,0,none⟩) (.inl rfl) (.int .i64 k)).setCell (p:=⟨g,1,none⟩) (.inl rfl) (.int .i64 a)).setCell (p:=⟨g,2,none⟩) (.inl rfl) (.int .i64 c)).setCell (p:=⟨g,3,none⟩) (.inl rfl) d).to_below f fun b j e=>by have i:b=g:=e;omega
theorem aGc {w:World} {g:Nat} {f i j l:Value} (e:Bk w g 46 #[f,i,j,l]) (k c a:Int) (d:Value):Bk (vY w g k c a d) g 46 #[.int .i64 k,.int .i64 c,.int .i64 a,d]:=by
 have:=(((e.set 0 (.int .i64 k)).set 1 (.int .i64 c)).set 2 (.int .i64 a)).set 3 d;simpa [vY] using this
theorem aAa (c:Option Addr) (a d:Nat) (w:World) (j:a < 8):
 Calls prog 11 #[.slice c a d] w fun e w'=>e=.returned (.tuple #[.pointer none,.agg #[.int .i64 0,.int .i64 0,.int .i64 0],.int .i64 4])/\Below w.heap.size w w':=by
 have i:decide ((a:Int) < 8)=true:=zBz oM;go_enter func11,ntmps11;go_wp2_with fail;have f:=Bk.new w 30 #[.int .i64 0,.int .i64 0,.int .i64 0];exact bodyPost_ret (nJ rfl _ _ w.heap.size 30 #[.int .i64 0,.int .i64 0,.int .i64 0] (0,0) _ rfl f underlying30 rfl kR) rfl ⟨rfl,bR.alloc nL _⟩
theorem uQ (gs:Nat) (d:Option Addr) (c e:Nat) (w:World) (m:c < 8):
 Calls prog 29 #[gs,.slice d c e] w fun f w'=>f=.returned (.int .i64 4)/\Below w.heap.size w w':=by
 have j:=aAa d c e w m;go_enter func29,ntmps29;go_wp2_with fail;refine j.mono ?_;rintro f w1 ⟨rfl,a⟩;have i:Below w1.heap.size w1 (w1.alloc (.cells #[.int .i64 0,.int .i64 0,.int .i64 0] 30)):=bR.alloc nL _;have l:=lhd (a.trans (i.mono a.size));clear j a i;go_wp2_with fail;go_ret;exact ⟨rfl,l.out⟩
theorem aJl:doM [] ((9:Nat):Int) 1 0 0 [97,98,99,97,98]=([97,98,99,97,98],⟨0,0, [], []⟩):=by rfl
theorem aJk:doM [97,98,99,97,98] ((9:Nat):Int) 7 0 0 [97,98]=([97,98,99,97,98],⟨0,2, [], [0,3]⟩):=by rfl
theorem aHt:doM [97,98,99,97,98] ((9:Nat):Int) 1 1 0 [122,122,122,122,122]=([97,98,99,97,98],⟨3,0, [], []⟩):=by rfl
theorem aKm:doM [97,98,99,97,98] ((9:Nat):Int) 8 0 0 []=([97,98,99,97,98],⟨0,0, [], []⟩):=by rfl
theorem aKs (a c:Int) (d e:Value) (w:World):(Instr.field 50 (.agg #[.int .i64 a,.int .i64 c,d,e]) 0).run prog w=.ok (.int .i64 a) w:=by kernel_rfl
theorem uW {w w':World} {B gs c most rate:Nat} {own own':Nat->Nat} {T:List UInt8} {A1 A2:Option Addr} {n1 c1 n2 c2:Nat} {f i:List Value} (d:StAt w' B own' gs c most rate T) (j:LFS B gs w w' own own') (l:MadeZ w' own' gs 5 A1 n1 c1 f) (m:MadeZ w' own' gs 3 A2 n2 c2 i) (cs:Array Value):
 StAt (w'.alloc (.cells cs 50)) B own' gs c most rate T/\LFS B gs w (w'.alloc (.cells cs 50)) own own'/\MadeZ (w'.alloc (.cells cs 50)) own' gs 5 A1 n1 c1 f/\MadeZ (w'.alloc (.cells cs 50)) own' gs 3 A2 n2 c2 i/\Kp (w'.alloc (.cells cs 50)) own' gs w'.heap.size 50 cs/\w'.heap.size+1=(w'.alloc (.cells cs 50)).heap.size:=by
 have e:Below w'.heap.size w' (w'.alloc (.cells cs 50)):=bR.alloc nL _;have a:=LFS.of_below B gs own' e;exact ⟨d.vb (Vis.of_below e),j.trans a,l.step a dC dC,m.step a dC dC,Kp.new d _ _,by rw [World.size_alloc]⟩
theorem yD (w:World) (ab:TabW w):
 Calls prog 19 #[] w fun d w'=>d=.returned (.bool true)/\Below w.heap.size w w':=by
 have bK:=oE;have bM:=aKs;have bL:=vS;have bx:=ab.pos;obtain ⟨B,aT⟩:=eqx w.heap.size;have o:1 < B:=oM;obtain ⟨bl,aq⟩:=hqq2 ab aT;clear ab bx aT;go_enter func19,ntmps19;go_wp2_with fail;refine (aAJ 9 3 w oM oM oM).mono ?_;rintro d w1 ⟨gs,gl,own,rfl,ag,Y⟩;rw [aq.out] at ag Y;obtain ⟨M,av,a4⟩:=hqq3 ag Y (bl.out.below Y o);clear ag Y;go_wp2_with fail;refine (zK 9 0 w1 oM (.inl oM)).mono ?_;rintro d a1 ⟨rfl,rfl⟩;go_wp2_with fail;refine (zL (-1) 3 w1 (.inl oM)).mono ?_;rintro d a1 ⟨rfl,rfl⟩;go_wp2_with fail;refine (yM B own gs gl 9 3 [] [97,98,99,97,98] _ 0 0 _ 5 5 0 0 [] [] 0 0 _ aJl rfl rfl (M.out.vb (Vis.of_below (bR.alloc nL _))) (xQ M.out _ _ _ 5 rfl rfl) oM (a4.out.below (bR.alloc M.out.size _) o) o dC).mono ?_;rintro d a1 ⟨A1,c1,am,aO,b9,bt,rfl,C,j,z,A⟩;replace j:=(LFS.of_below B gs own (bR.alloc nL _)).trans j;obtain ⟨D,a,L,J,u,E⟩:=uW C j z A #[.int .i64 (0),.int .i64 (0),.slice A1 0 c1,.slice am 0 aO];obtain ⟨a5,aw,N,c,p⟩:=hqq5 (a4.out.below (a.below M.out.size) o) (av.out.trans (a.below M.out.size)) D u E;clear C j z A D a L J u E M a4 av;go_wp2_with fail;generalize a1.alloc (.cells #[.int .i64 (0),.int .i64 (0),.slice A1 0 c1,.slice am 0 aO] 50)=w2x at*
 try rw [p.out]
 generalize a1.heap.size=ga at*
 clear p;refine (aE4 B b9 gs bt 9 3 [97,98,99,97,98] [97,98] _ 0 0 _ 2 2 0 2 [] [0,3] 0 2 _ aJk rfl rfl (N.out.vb (Vis.of_below (bR.alloc nL _))) (xQ N.out _ _ _ 2 rfl rfl) oM (a5.out.below (bR.alloc N.out.size _) o) o dC).mono ?_;rintro d bc ⟨A1,c1,an,aP,ba,bu,rfl,C,j,z,A⟩;replace j:=(LFS.of_below B gs b9 (bR.alloc nL _)).trans j;obtain ⟨D,a,L,J,u,E⟩:=uW C j z A #[.int .i64 (0),.int .i64 (2),.slice A1 0 c1,.slice an 2 aP];have e:=lhd (c.out.step a dC dC);clear c;have c:=e;clear e;obtain ⟨a6,ax,O,f,p,i⟩:=hqq6 (a5.out.below (a.below N.out.size) o) (aw.out.trans (a.below N.out.size)) D u E J;clear C j z A D a L J u E N a5 aw;go_wp2_with fail;generalize bc.alloc (.cells #[.int .i64 (0),.int .i64 (2),.slice A1 0 c1,.slice an 2 aP] 50)=w3x at*
 try rw [p.out]
 generalize bc.heap.size=gb at*
 clear p;refine (yM B ba gs bu 9 3 [97,98,99,97,98] [122,122,122,122,122] _ 1 0 _ 5 5 3 0 [] [] 0 0 _ aHt rfl rfl (O.out.vb (Vis.of_below (bR.alloc nL _))) (xQ O.out _ _ _ 5 rfl rfl) oM (a6.out.below (bR.alloc O.out.size _) o) o dC).mono ?_;rintro d bd ⟨A1,c1,ao,aQ,bC,bv,rfl,C,j,z,A⟩;replace j:=(LFS.of_below B gs ba (bR.alloc nL _)).trans j;obtain ⟨D,a,L,J,u,E⟩:=uW C j z A #[.int .i64 (3),.int .i64 (0),.slice A1 0 c1,.slice ao 0 aQ];have e:=lhd (c.out.step a dC dC);clear c;have c:=e;clear e;have n:=lhd (i.out.step a dC dC);clear i;have i:=n;clear n;have l:=lhd (f.out.step a dC dC);clear f;have f:=l;clear l;obtain ⟨a7,ay,X,m,p⟩:=hqq5 (a6.out.below (a.below O.out.size) o) (ax.out.trans (a.below O.out.size)) D u E;clear C j z A D a L J u E O a6 ax;go_wp2_with fail;generalize bd.alloc (.cells #[.int .i64 (3),.int .i64 (0),.slice A1 0 c1,.slice ao 0 aQ] 50)=w4x at*
 try rw [p.out]
 generalize bd.heap.size=gc at*
 clear p;refine (aE3 B bC gs bv 9 3 [97,98,99,97,98] [] _ 0 0 none 0 0 0 0 [] [] 0 0 _ aKm rfl rfl X.out aIY oM a7.out o dC).mono ?_;rintro d be ⟨A1,c1,ap,aR,al,aS,rfl,C,j,z,A⟩;obtain ⟨D,a,L,J,u,E⟩:=uW C j z A #[.int .i64 (0),.int .i64 (0),.slice A1 0 c1,.slice ap 0 aR];have e:=lhd (c.out.step a dC dC);clear c;have c:=e;clear e;have n:=lhd (i.out.step a dC dC);clear i;have i:=n;clear n;have l:=lhd (f.out.step a dC dC);clear f;have f:=l;clear l;have q:=lhd (m.out.step a dC dC);clear m;have m:=q;clear q;obtain ⟨ar,az,R,s,p⟩:=hqq5 (a7.out.below (a.below X.out.size) o) (ay.out.trans (a.below X.out.size)) D u E;clear C j z A D a L J u E X a7 ay;go_wp2_with fail;generalize be.alloc (.cells #[.int .i64 (0),.int .i64 (0),.slice A1 0 c1,.slice ap 0 aR] 50)=w5x at*
 try rw [p.out]
 generalize be.heap.size=gd at*
 clear p;obtain ⟨F,S⟩:∃F,IsSuf (aF [97,98,99,97,98]) F:=by obtain ⟨F,_,_,_,S,_⟩:=R.out.tp;exact ⟨F,S⟩
 have a0:=yH B al gs aS 9 3 [97,98,99,97,98] F w5x R.out S;unfold eK at a0;obtain ⟨bA,af⟩:=eqx ((dN (aE (aF [97,98,99,97,98]) F) F 9 3 ([97,98,99,97,98]:List UInt8).length).length);rw [af] at a0;refine a0.mono ?_;clear a0;rintro d bJ ⟨bi,bp,rfl,Z,ai⟩;have H:=LFS.of_vb gs al ai;have e:=lhd (c.out.step H dC dC);clear c;have c:=e;clear e;have n:=lhd (i.out.step H dC dC);clear i;have i:=n;clear n;have l:=lhd (f.out.step H dC dC);clear f;have f:=l;clear l;have q:=lhd (m.out.step H dC dC);clear m;have m:=q;clear q;have G:=lhd (s.out.step H dC dC);clear s;have s:=G;clear G;have ah:=R.out.vb ai.1;have b0:=yJ B al gs aS 9 3 9 3 bi bA bp [97,98,99,97,98] [97,98,99,97,98] F bJ ah S dC dC dC dC dC af Z.rd Z.cap Z.max;obtain ⟨aA,au,a8,aN,aJ⟩:=hqq5 (az.out.trans (H.below R.out.size)) (ar.out.below (H.below R.out.size) o) ah S b0;clear ah H ai Z af S b0 az ar R;go_wp2_with fail;refine aJ.out.mono ?_;rintro d bf ⟨rfl,W,aa,b4,I⟩;have e:=lhd (c.out.step I dC dC);clear c;have c:=e;clear e;have n:=lhd (i.out.step I dC dC);clear i;have i:=n;clear n;have l:=lhd (f.out.step I dC dC);clear f;have f:=l;clear l;have q:=lhd (m.out.step I dC dC);clear m;have m:=q;clear q;have G:=lhd (s.out.step I dC dC);clear s;have s:=G;clear G;obtain ⟨aB,bm,a9⟩:=hqq3 (aA.out.trans (I.below a8.out.size)) (au.out.below (I.below a8.out.size) o) b4;clear b4 I aJ aA au a8;go_wp2_with fail;refine (uQ gs _ 1 1 _ oM).mono ?_;rintro d a2 ⟨rfl,aW⟩;have ac:=(Below.alloc (Below.refl bf.heap.size bf) nL (.cells #[.int .u8 120] 5 (1,2))).trans (aW.mono (by simp));have K:=LFS.of_below B gs W ac;have e:=lhd (c.out.step K dC dC);clear c;have c:=e;clear e;have n:=lhd (i.out.step K dC dC);clear i;have i:=n;clear n;have l:=lhd (f.out.step K dC dC);clear f;have f:=l;clear l;have q:=lhd (m.out.step K dC dC);clear m;have m:=q;clear q;have G:=lhd (s.out.step K dC dC);clear s;have s:=G;clear G;have b5:=a9.out.vb (Vis.of_below ac);obtain ⟨aC,U⟩:=hqq2 (aB.out.trans (K.below a9.out.size)) b5;obtain ⟨b6,_⟩:=c.out;obtain ⟨ak,_⟩:=f.out;obtain ⟨b7,_⟩:=m.out;obtain ⟨b8,_⟩:=s.out;obtain ⟨bo,bB,bs,_,aY⟩:=i.out.1.rd.2 oM;subst bs;have bD:=b6.cell 0;have bE:=ak.cell 1;have bF:=ak.cell 3;have bG:=b7.cell 0;have bH:=b8.cell 0;have bI:a2.cell? ⟨bo,bB+1,none⟩=some (.int .i64 3):=aY 1 _ rfl;have ae:=yK B W gs aa 9 3 6 [97,98,99,97,98] F a2 U.out aN.out rfl;unfold fZ at ae;have aI:=lhd ae;clear b6 ak b7 b8 aY b5 K aW ac ae c f m s i a9 aB bm;go_wp2_with fail;refine (yI B W gs aa 9 3 _ a2 U.out).mono ?_;rintro d a3 ⟨rfl,rfl⟩;go_wp2_with fail;refine (qL B W gs aa 9 3 _ a2 U.out).mono ?_;rintro d a3 ⟨rfl,rfl⟩;go_wp2_with fail;refine aI.out.mono ?_;rintro d a3 ⟨bj,bq,rfl,b1,aj⟩;obtain ⟨aK,aD⟩:=hqq2 b1 (aC.out.trans ((LFS.of_vb gs W aj).below U.out.size));have aU:B<=a3.heap.size:=zAk U.out.size aj.1.size;clear b1 aj aI aC bD bE bF bG bH bI;go_wp2_with fail;refine (nZ [97,98,99,97,98] 5 a3 rfl oM).mono ?_;rintro d bg ⟨bk,br,bb,rfl,b3,b2,V⟩;obtain rfl:=b3.unique aN.out;obtain ⟨aM,aL,aG⟩:=hqq3 (aK.out.rd.below V) b2 (aD.out.trans (V.mono aU));have aV:B<=bg.heap.size:=zAk aU V.size;have bz:=V.size;clear b2 V b3 aK aD;go_wp2_with fail;refine (kI bj bk 6 bq 6 br _ _ _ _ bg (aM.out.mono bz) aL.out.rd oM oM).mono ?_;rintro d bh ⟨rfl,ad⟩;have aZ:decide (aE (aF [97,98,99,97,98]) bb=aE (aF [97,98,99,97,98]) bb)=true:=zBz rfl;rw [aZ];have aH:=lhd (aG.out.trans (ad.mono aV));have bw:B<=bh.heap.size:=zAk aV ad.size;clear ad aZ aL aM aG;go_wp2_with fail;refine (aDk 0 0 0 none 0 0 bh).mono ?_;rintro d wc ⟨rfl,aX⟩;have bn:=lhd (aH.out.trans (aX.mono bw));clear aX aH;go_wp2_with fail;refine (zM wc).mono ?_;rintro d bN ⟨rfl,rfl⟩;go_wp2_with fail;go_ret;exact ⟨rfl,by rw [aq.out];exact bn.out⟩
theorem aGK {d:List Stp} {e f:Nat} (a:aCW d e f=true):e<=f/\∀c∈d,c.n<=60:=by
 unfold aCW at a;rw [zBd] at a;exact ⟨of_decide_eq_true a.2,fun c i=>of_decide_eq_true (zBf.1 a.1 c i)⟩
def aIk (e:Option Addr) (i f:Nat):Value->World->Prop:=fun v _=>∃a d n2 c,v=.agg (nN a d n2 e c f)/\c<=i/\nB a/\nB d/\nB n2
theorem aF6 (a:Option Addr) (e c:Nat):Stb (aIk a e c):=fun _ _ _ d _=>d
theorem uO (most rate:Int) (A1:Option Addr) (K c1:Nat) (R:List Stp) (w:World) (aa:Rd w w.heap.size 4 A1 K (gJ R)) (bw:R.length=K) (aS:∀S∈R,S.good w) (d1:K<=c1) (cV:c1<=maxLen) (bm:TabW w):
 Calls prog 5 #[.int .i64 most,.int .i64 rate,.slice A1 K c1] w fun j w'=>j=.returned (.bool true)/\Below w.heap.size w w':=by
 have ef:=bm.pos;obtain ⟨c,e4,e5⟩:=iH most 81 oM;obtain ⟨aC,e9,ea⟩:=iH rate 10 oM;have dO:IntKind.i64.wrap (c:Int)=(c:Int):=by rw [IntKind.wrap_i64];omega
 have dP:IntKind.i64.wrap (aC:Int)=(aC:Int):=by rw [IntKind.wrap_i64];omega
 have cJ:IntKind.i64.wrap (1+(aC:Int))=((aC+1:Nat):Int):=by rw [IntKind.wrap_i64];omega
 obtain ⟨C,d7⟩:=eqx (aC+1);rw [d7] at cJ;have eP:1<=C:=oM;have eQ:C<=64:=oM;have eO:c<=80:=oM;obtain ⟨B,bh⟩:=eqx w.heap.size;have aM:1 < B:=oM;rw [bh] at aa;have cY:=fun (w1:World) (ah:Below B w w1)=>aJe A1 K c1 B 40 R w1 (aa.below ah) bw (zAk d1 cV) (fun S d8=>zAk (aS S d8).2.2.2.2.1 (aS S d8).2.2.2.2.2);obtain ⟨b4,aG,dD,dB,dA,ci⟩:=hqq6 bm bh aa bw aS cY;clear bm ef bh aa bw aS cV d1 d7 ea e5 cY;go_enter func5,ntmps5;go_wp2_with fail;refine (aAJ c C w oM oM oM).mono ?_;rintro j w1 ⟨gs,cK,bK,rfl,bE,aP⟩;rw [aG.out] at bE aP;obtain ⟨a7,aI⟩:=hqq2 bE aP;have cX:=ci.out w1 aP;clear bE aP dO dP cJ e4 e9 ci;go_wp2_with fail;refine cX.mono ?_;clear cX;rintro j bS ⟨rfl,rfl⟩;cases cW:aCW R K 40 with
 | false=>
   go_wp2_with fail;refine (yD w1 (b4.out.below aI.out aM)).mono ?_;rintro j en ⟨rfl,av⟩;have b5:=lhd (aI.out.trans (av.mono a7.out.size));clear av;go_wp2_with fail;go_ret;exact ⟨rfl,by rw [aG.out];exact b5.out⟩
 | true=>
   obtain ⟨eN,cL⟩:=aGK cW;have dx:=lhd cL;have bn:MdX (w1.alloc (.cells #[.string ⟨#[]⟩,(c:Int)] 56)) w1.heap.size c []:=Bk.new w1 56 #[.string ⟨#[]⟩,(c:Int)];obtain ⟨gx,ay⟩:=eqx w1.heap.size;have dT:B<=gx:=(by rw [<-ay];exact a7.out.size);have eL:gs < gx:=(by rw [<-ay];exact a7.out.blk.lt);have bp:Below w1.heap.size w1 (w1.alloc (.cells #[.string ⟨#[]⟩,(c:Int)] 56)):=bR.alloc nL _;have db:=a7.out.vb (Vis.of_below bp);have ar:Ap bK gs gx:=⟨a7.out.fresh oM,by omega⟩;have cT:=aI.out.trans (bp.mono a7.out.size);rw [ay] at bn;obtain ⟨cc,cp,a5,cf,cj⟩:=hqq5 bn db ar cT ay;clear cL bn bp db ar cT ay cW a7 aI;go_wp2_with fail;rw [cj.out];go_loopw [12] (fun H wr=>∃(k:Nat) (T:List UInt8) (own:Nat->Nat) (gl:Nat),k<=K/\H=.int .i64 (k:Int)/\StAt wr B own gs gl c C T/\MdX wr gx c T/\Ap own gs gx/\Below B w wr) (fun H _=>K -(intOf H).toNat)
   case atStart=>exact ⟨0, [],bK,cK,zAp _,rfl,cp.out,cc.out,a5.out,cf.out⟩
   case round=>
    clear cp cc a5 cf cK bK cj w1;obtain ⟨k,T,own,gl,eM,rfl,aW,d2,ar,ah⟩:=hrel;have cP:=aW.len;obtain ⟨aK,bj⟩:=eqx T.length;rw [bj] at cP;have eJ:aK<=80:=oM;have dd:=aW.size;obtain ⟨ad,a6,a5,an,aH,b9⟩:=hqq6 aW d2 ar ah bj dd;clear aW d2 ar ah bj dd;by_cases e3:k < K
    · obtain ⟨F,I,dK,eK,aw⟩:=(dD.out.below an.out).2 oM;subst dK;obtain ⟨S,ab⟩:∃S,R[k]?=some S:=⟨_,zAa (by rw [dB.out];exact e3)⟩;have dZ:=dA.out S (zAd ab);have eb:=dx.out S (zAd ab);obtain ⟨bH,bL,bI,q,md,u,a4⟩:=S;have bb:wr.cell? ⟨F,I+k*4,none⟩=some (.int .i64 bH):=aw (k*4+0) _ ((fL R k 0 _ ab oM).trans rfl);have cy:wr.cell? ⟨F,I+k*4+1,none⟩=some (.int .i64 bL):=aw (k*4+1) _ ((fL R k 1 _ ab oM).trans rfl);have cz:wr.cell? ⟨F,I+k*4+2,none⟩=some (.int .i64 bI):=aw (k*4+2) _ ((fL R k 2 _ ab oM).trans rfl);have cA:wr.cell? ⟨F,I+k*4+3,none⟩=some (.slice q md u):=aw (k*4+3) _ ((fL R k 3 _ ab oM).trans rfl);have cB:wr.cell? ⟨gx,0,none⟩=some (.string ⟨T.toArray⟩):=(Bk.cell a6.out 0).trans rfl;have es:(⟨T.toArray⟩:ByteArray).size=aK:=(mK T).trans aH.out;have aj:=World.block_lt_of_cell? wr _ bb;have bu:=Bk.lt a6.out;obtain ⟨Y,Z,a0,az,bx,br⟩:=dZ;simp only at Y Z a0 az bx br eb;rw [aG.out] at az;have bA:=fun d=>aI7 bH bL bI q md u aK k d oM oM bx br (fun bf=>by obtain ⟨b,dm,j,_⟩:=az.2 bf;exact ⟨b,dm,j⟩) Y Z a0;unfold yV at bA;have eR:(k:Int) < (K:Int):=oM;obtain ⟨b6,cl⟩:=hqq2 az bA;clear aw ab az Y Z a0 bA;go_wp2_with fail;refine wp_region_any kR ?_;obtain ⟨N0,bl⟩:=eqx wr.heap.size;have L:=lhd bl;rw [bl] at aj bu;clear bl;refine aCd 12 [50,51,52,53,54,55,56,57,58,59,60,13] [is (.slice (some ⟨F,I,none⟩) K c1),is (k:Int),is (.pointer (some ⟨F,I+k*4,none⟩)),is (.agg #[.int .i64 bH,.int .i64 bL,.int .i64 bI,.slice q md u]),is (.pointer (some ⟨gx,0,none⟩)),is (.pointer (some ⟨gx,0,none⟩)),is (.pointer (some ⟨gx,0,none⟩)),is (.string ⟨T.toArray⟩),is (aK:Int),is (k:Int),aIk q md u,fresh N0 46 #[.int .i64 0,.int .i64 0,.int .i64 0,.slice none 0 0]] _ _ rfl dC kR kR (by repeat' (first | exact aHB _ | exact aF6 _ _ _ | exact aF7 _ _ _ |(refine zAe.2 ⟨?_,?_⟩)|(intro aB e8;cases e8))) ?_ ?_
      · refine bJ ?_;refine pH3 2 (.slice (some ⟨F,I,none⟩) K c1) ?_;refine pH3 12 (.int .i64 (k:Int)) ?_;refine pW3 0 50 1 51 ?_;refine sC3 (fun _ d a _ _ _ _ m _ _ _ e=>?_) ?_
        · have ex:_=_:=m 2 52 kR rfl;have bU:d.cell? ⟨F,I+k*4,none⟩=_:=(Below.cell (p:=⟨F,I+k*4,none⟩) a (by rw [L.out];exact aj)).trans bb;have du:d.cell? ⟨F,I+k*4+1,none⟩=_:=(Below.cell (p:=⟨F,I+k*4+1,none⟩) a (by rw [L.out];exact aj)).trans cy;have dv:d.cell? ⟨F,I+k*4+2,none⟩=_:=(Below.cell (p:=⟨F,I+k*4+2,none⟩) a (by rw [L.out];exact aj)).trans cz;have dw:d.cell? ⟨F,I+k*4+3,none⟩=_:=(Below.cell (p:=⟨F,I+k*4+3,none⟩) a (by rw [L.out];exact aj)).trans cA;go_simp;exact e _ _ bR rfl
        refine pH3 11 (.pointer (some ⟨gx,0,none⟩)) ?_;refine pV3 4 54 ?_;refine pV3 5 55 ?_;refine sC3 (fun _ d a _ _ _ _ m _ _ _ e=>?_) ?_
        · have ez:_=_:=m 6 56 kR rfl;have bU:d.cell? ⟨gx,0,none⟩=_:=(Below.cell (p:=⟨gx,0,none⟩) a (by rw [L.out];exact bu)).trans cB;go_simp;exact e _ _ bR rfl
        refine pV3 7 57 ?_;refine pH3 12 (.int .i64 (k:Int)) ?_;refine sC3 (fun _ d _ _ _ _ _ m _ _ _ e=>?_) ?_
        · have ey:_=_:=m 3 53 kR rfl;have eA:_=_:=m 8 58 kR rfl;have eB:_=_:=m 9 59 kR rfl;go_simp;refine (cl.out d).mono ?_;rintro j dt ⟨z,A,n2,n,rfl,aq,N,dR,dS,a2⟩;exact e _ _ a2 ⟨z,A,n2,n,rfl,aq,N,dR,dS⟩
        refine sC3 (fun _ d a _ _ _ _ _ _ _ _ e=>?_) ?_
        · have a2:=Below.size a;have bB:N0<=d.heap.size:=(by rw [<-L.out];exact a2);go_simp;exact e _ _ (bR.alloc nL _) (xG bB)
        exact aD
      · intro G l M a m;have el:aIk q md u (G (.tmp 60)) l:=m 10 60 dC rfl;have ek:fresh N0 46 #[.int .i64 0,.int .i64 0,.int .i64 0,.slice none 0 0] (G (.tmp 13)) l:=m 11 13 dC rfl;simp only [zqq];clear m;obtain ⟨z,A,n2,n,bc,d0,e1,d4,d3⟩:=el;obtain ⟨gt,cF,cZ,O⟩:=ek;unfold nN at bc;rw [bc,cF];replace a:Below wr.heap.size wr l:=gD a;change wpAny prog Region.Mode.any _ _ (1+M) (bX 12 13) _ l;rw [zCs 1 M];refine bG (f:=M) (i:=12) kR ?_;refine bV rfl rfl ?_;generalize e:wpAny prog _ _ _ M _=K5;have aE:l.cell? ⟨gt,0,none⟩=some (.int .i64 0):=(O.cell 0).trans rfl;have dL:=O.frozen 0;have Y:l.cell? ⟨gt,1,none⟩=some (.int .i64 0):=(O.cell 1).trans rfl;have ao:=O.frozen 1;have Z:l.cell? ⟨gt,2,none⟩=some (.int .i64 0):=(O.cell 2).trans rfl;have ap:=O.frozen 2;have a0:l.cell? ⟨gt,3,none⟩=some (.slice none 0 0):=(O.cell 3).trans rfl;have dM:=O.frozen 3;go_simp;subst e;refine bW kR ?_;have ed:=ad.out.vb (Vis.of_below a);have e6:=Bk.below a6.out a (Bk.lt a6.out);have bC:N0<=l.heap.size:=(by rw [<-L.out];exact a.size);rw [show (((l.setCell ⟨gt,0,none⟩ (.int .i64 z)).setCell ⟨gt,1,none⟩ (.int .i64 A)).setCell ⟨gt,2,none⟩ (.int .i64 n2)).setCell ⟨gt,3,none⟩ (.slice q n u)=vY l gt z A n2 (.slice q n u) from rfl];obtain ⟨E,aO⟩:=eqx (vY l gt z A n2 (.slice q n u));rw [aO];have bo:Below N0 l E:=(by rw [<-aO];exact aA2 bC cZ _ _ _ _);have bq:Bk E gt 46 #[.int .i64 z,.int .i64 A,.int .i64 n2,.slice q n u]:=(by rw [<-aO];exact aGc O _ _ _ _);have e0:=bq.lt;have aR:Below wr.heap.size wr E:=a.trans (by rw [L.out];exact bo);have bD:=ad.out.vb (Vis.of_below aR);have bz:MdX E gx c T:=Bk.below a6.out aR (Bk.lt a6.out);have au:=an.out.trans (aR.mono b9.out);have cR:Ap own gs gt:=⟨ad.out.fresh (by rw [L.out];exact cZ),by have:=ad.out.blk.lt;rw [L.out] at this;omega⟩;have e7:gt≠gx:=oM;have ec:N0<=E.heap.size:=zAk bC bo.size;have aA:gx < E.heap.size:=oM;have bt:gs < E.heap.size:=oM;have bg:∀b,E.heap.size<=b->own b=0:=fun b ah=>ad.out.fresh (by rw [L.out];omega);obtain ⟨T2,r,N⟩:∃T2 r,doM T (c:Int) z A n2 (a4.take n)=(T2,r):=⟨_,_,rfl⟩;have dW:a4.length=md:=(by simpa using b6.out.1);have cO:T2.length<=c:=(by have:=aIF T (a4.take n) c z A n2 (by rw [aH.out];exact cP);rw [N] at this;exact this);have d5:r.places.length<=1099511627776:=(by have:=aEN T (a4.take n) (c:Int) z A n2;rw [N] at this;have j:=aH.out;simp only at this;omega);have aV:Rd w B 1 q n ((a4.take n).map bv):=(by have:=b6.out.cut_hi d0;rw [zBl,<-List.map_take] at this;exact this);have ak:∀d,StAt d B own gs gl c C T->Below B E d->Calls prog 22 #[gs,.agg #[.int .i64 z,.int .i64 A,.int .i64 n2,.slice q n u]] d (StDone d B own gs c C T2 r):=fun d a2 aZ=>
         aI4 B own gs gl c C T (a4.take n) T2 r z A n2 q n u d N a2 (ArgZ.old (aV.below (au.trans aZ)) nL a2.size) oM (b4.out.below (au.trans aZ) aM) aM oM
        have d6:∀d,MdX d gx c T->Below B E d->B<=d.heap.size->Calls prog 25 #[.pointer (some ⟨gx,0,none⟩),.agg #[.int .i64 z,.int .i64 A,.int .i64 n2,.slice q n u]] d fun j w'=>cD gx (c:Int) T2 r d w' j:=fun d a2 aZ bB=>
         aJ3 gx q n u B z A n2 (c:Int) T (a4.take n) T2 r N d a2 (aV.below (au.trans aZ)) bB (fun bf ev dV=>by
          obtain ⟨b,dm,j,ah,_⟩:=aV.2 bf;rw [dV] at j;cases j;simp only;omega) (by rw [aH.out];omega) oM d4 d3 oM
        obtain ⟨ch,cn,cm,cd,ce⟩:=hqq5 ak d6 d5 cR au;obtain ⟨D,aN⟩:=eqx E.heap.size;rw [aN] at ec aA bt bg e0;have ca:Hid (PyC E B gx gt D c #[.int .i64 z,.int .i64 A,.int .i64 n2,.slice q n u] E):=lhd ⟨bq,Below.refl _ _,bD.size,Nat.le_of_eq aN.symm,T,bz⟩;have cb:Hid (∀H,PyU 2 5 B gs gl gx own c C T H E):=lhd fun H=>⟨fun _=>bD,fun _=>bz⟩;obtain ⟨b3,eu,et⟩:=hqq3 bg cO aN;have eH:B<=D:=oM;clear ed e6 bC aO bo bq aR bD bz au cR bg N dW cO d5 aV ak d6 aN a O bc cF ad an a6 b9 d0 e1 d4 d3 aE Y Z a0 dL ao ap dM aj bu L cl b6 es cB bb cy cz cA bx br;go_wp2_with fail;refine wp_region_any kR ?_;refine nC 8 [61,62,63,64,65,66,14,15] (PyC E B gx gt D c #[.int .i64 z,.int .i64 A,.int .i64 n2,.slice q n u]) (PyS 2 5 B gs gx own c C T2) (PyU 2 5 B gs gl gx own c C T) (Vs [is gs,is (.agg #[.int .i64 z,.int .i64 A,.int .i64 n2,.slice q n u]),PyA B gs gx D c C T2 r,is (.pointer (some ⟨gx,0,none⟩)),is (.agg #[.int .i64 z,.int .i64 A,.int .i64 n2,.slice q n u]),PyB gx D c T2 r,fresh D 50 aHT,fresh D 50 aHT]) _ _ rfl dC kR kR ca.out.drew (fun H=>(cb.out H).drew) (fun aY w1 bS _ dQ k=>dQ.step k cd.out a5.out e7 dT) ?_ ?_ ?_ ?_;intro H aY w1 bS _ aT de ee dU k;exact ee.step k a5.out aT fun j M=>by subst j;subst M;rw [show upB _ _ _ _ _=true from by kernel_rfl] at de;cases de
        · intro H aY v w1 bS _ aT cQ X dU k;rcases H with _ | _ | _ | _ | _ | _ | _ | _ | H;exact X;exact X;by_cases cu:aY=5;exact PyA.keep X (k.2.1 cu).1 aA;exact PyA.below X (k.2.2 (fun j=>aT j.symm) cu);exact X;exact X
          · by_cases c2:aY=2
            · subst c2;rw [show uN _ _ _ _=true from by kernel_rfl] at cQ;cases cQ
            exact PyB.below X (k.2.2 c2 (fun j=>aT j.symm))
          exact xF X k b3.out bt aA;exact xF X k b3.out bt aA;exact trivial
        · refine bJ ?_;refine sC3 (fun G _ a J _ _ a9 _ _ _ _ e=>?_) ?_
          · have eG:G (.tmp 9)=.pointer (some ⟨gs,0,none⟩):=a9 9 kR;clear J a;go_simp;exact e _ _ (fH dC dC bR) rfl
          refine sC3 (fun G _ a _ _ _ a9 _ _ _ _ e=>?_) ?_
          · have dJ:G (.tmp 13)=.pointer (some ⟨gt,0,none⟩):=a9 13 kR;have dF:=a.1.cell 0;have c1:=a.1.cell 1;have c2:=a.1.cell 2;have dG:=a.1.cell 3;go_simp;exact e _ _ (fH dC dC bR) rfl
          refine sC3 (fun _ d a J _ _ _ m _ _ _ e=>?_) ?_
          · have eC:_=_:=m 0 61 kR rfl;have eD:_=_:=m 1 62 kR rfl;have ak:=ch.out d (J.1 rfl) a.2.1;have a1:=lhd a.2.2.2.1;clear J a;go_simp;refine ak.mono ?_;intro j dt ax;cases j with
            | returned v=>
              obtain ⟨aq,N⟩:=aKu (j1:=2) (j2:=5) dC a5.out (zAl aA a1.out) a1.out ax;exact e _ _ N aq
            | _=>obtain ⟨_,_,_,_,_,_,bs,_⟩:=ax;cases bs
          refine sC3 (fun G _ a J _ _ a9 _ _ _ _ e=>?_) ?_
          · have ew:G (.tmp 11)=.pointer (some ⟨gx,0,none⟩):=a9 11 kR;clear J a;go_simp;exact e _ _ (fH dC dC bR) rfl
          refine sC3 (fun G _ a _ _ _ a9 _ _ _ _ e=>?_) ?_
          · have dJ:G (.tmp 13)=.pointer (some ⟨gt,0,none⟩):=a9 13 kR;have dF:=a.1.cell 0;have c1:=a.1.cell 1;have c2:=a.1.cell 2;have dG:=a.1.cell 3;go_simp;exact e _ _ (fH dC dC bR) rfl
          refine sC3 (fun _ d a J _ _ _ m _ _ _ e=>?_) ?_
          · have eE:_=_:=m 3 64 kR rfl;have eF:_=_:=m 4 65 kR rfl;have ak:=cn.out d (J.2 rfl) a.2.1 a.2.2.1;have a1:=lhd a.2.2.2.1;clear J a;go_simp;refine ak.mono ?_;intro j dt ax;cases j with
            | returned v=>
              obtain ⟨aq,N⟩:=aKt (B:=B) (gs:=gs) (rate:=C) (own:=own) (j1:=2) (j2:=5) dC a1.out ax;exact e _ _ N aq
            | _=>obtain ⟨_,_,_,_,bs,_⟩:=ax;cases bs
          refine sC3 (fun _ _ a J _ _ _ _ _ _ _ e=>?_) ?_
          · have a1:=lhd a.2.2.2.1;clear J a;go_simp;exact e _ _ (fH dC dC (bR.alloc nL _)) (xG a1.out)
          refine sC3 (fun _ _ a J _ _ _ _ _ _ _ e=>?_) ?_
          · have a1:=lhd a.2.2.2.1;clear J a;go_simp;exact e _ _ (fH dC dC (bR.alloc nL _)) (xG a1.out)
          exact aD
        · intro G l M bi m;have ei:(PyA B gs gx D c C T2 r) (G (.tmp 63)) l:=m 2 63 dC rfl;have ej:(PyB gx D c T2 r) (G (.tmp 66)) l:=m 5 66 dC rfl;have eg:(fresh D 50 aHT) (G (.tmp 14)) l:=m 6 14 dC rfl;have eh:(fresh D 50 aHT) (G (.tmp 15)) l:=m 7 15 dC rfl;simp only [zqq];clear m;obtain ⟨b0,aL,al,cS,c0,dH,c3,cv,bd,di,dj⟩:=ei;obtain ⟨c6,dN,c7,cG,be,dk,dl,ag⟩:=ej;obtain ⟨W,cC,dY,dh⟩:=eg;obtain ⟨V,cE,dX,dg⟩:=eh;have a8:=ResC.of dh;have a3:=ResC.of dg;unfold lX at bd be;rw [bd,be,cC,cE];have cM:=bi.2.2.2.1;have ai:=ce.out.trans bi.2.1;have dn:RowR l c0 c3 cv r:=⟨di.rd,dj.mono (zAp _)⟩;have aF:RowR l c6 c7 cG r:=⟨dk.1,dl.mono (zAp _)⟩;clear di dj dk dl;change wpAny prog Region.Mode.any _ _ (2+M) (bX 8 10) _ l;rw [show 2+M=M+1+1 by omega];refine bG (i:=8) kR ?_;refine bV rfl rfl ?_;generalize e:wpAny prog _ _ _ _ _=K5;obtain ⟨bY,bZ,b1,n1,ao,b2,n2,ap,o⟩:=id a8;have aE:l.cell? ⟨W,0,none⟩=some (.int .i64 bY):=(o.cell 0).trans rfl;have bM:=o.frozen 0;have Y:l.cell? ⟨W,1,none⟩=some (.int .i64 bZ):=(o.cell 1).trans rfl;have bN:=o.frozen 1;have Z:l.cell? ⟨W,2,none⟩=some (.slice b1 n1 ao):=(o.cell 2).trans rfl;have bO:=o.frozen 2;have a0:l.cell? ⟨W,3,none⟩=some (.slice b2 n2 ap):=(o.cell 3).trans rfl;have bP:=o.frozen 3;go_simp;subst e;clear aE Y Z a0 bM bN bO bP o;obtain ⟨am,s⟩:=eqx (gL l W r.code r.num (.slice c0 r.data.length dH) (.slice c3 r.places.length cv));have ac:=s;unfold gL at ac;rw [ac];clear ac;have aU:=ResX.new a8 dn s;replace aF:=aF.setR a8 s;replace a3:=a3.setR a8 s;replace al:=al.setR a8 s;replace ag:=ag.setR a8 s;replace ai:=ai.trans (lS oM oM s);have cN:D<=am.heap.size:=zAk cM (lS (B:=D) cM dY s).size;clear s a8;refine bG (i:=9) kR ?_;refine bV rfl rfl ?_;generalize e:wpAny prog _ _ _ _ _=K5;obtain ⟨bY,bZ,b1,n1,ao,b2,n2,ap,o⟩:=id a3;have aE:am.cell? ⟨V,0,none⟩=some (.int .i64 bY):=(o.cell 0).trans rfl;have bM:=o.frozen 0;have Y:am.cell? ⟨V,1,none⟩=some (.int .i64 bZ):=(o.cell 1).trans rfl;have bN:=o.frozen 1;have Z:am.cell? ⟨V,2,none⟩=some (.slice b1 n1 ao):=(o.cell 2).trans rfl;have bO:=o.frozen 2;have a0:am.cell? ⟨V,3,none⟩=some (.slice b2 n2 ap):=(o.cell 3).trans rfl;have bP:=o.frozen 3;go_simp;subst e;clear aE Y Z a0 bM bN bO bP o;obtain ⟨U,s⟩:=eqx (gL am V r.code r.num (.slice c6 r.data.length dN) (.slice c7 r.places.length cG));have ac:=s;unfold gL at ac;rw [ac];clear ac;replace aU:=aU.setR a3 aF s;have aa:=ResX.new a3 aF s;replace al:=al.setR a3 s;replace ag:=ag.setR a3 s;replace ai:=ai.trans (lS oM oM s);have eI:D<=U.heap.size:=zAk cN (lS (B:=D) cN dX s).size;clear s a3;refine bW kR ?_;obtain ⟨cr,ct,b8,ba,ck,dy⟩:=hqq6 aU aa al ag ai cS;clear aU aa al ag ai cS dn aF dh dg bi bd be cC cE ca cb ce ch cn cd a5 b3;obtain ⟨c4,cw,c5,cx,ae,dp,dr⟩:=cr.out;obtain ⟨c8,cH,c9,cI,af,dq,ds⟩:=ct.out;unfold lX at ae af;have da:=aDr r.code r.code r.num r.num c4 c8 c5 c9 r.data.length cw r.data.length cH r.places.length cx r.places.length cI _ _ _ _ r.data r.data r.places r.places U dp dq dr.rd ds.rd nL nL nL nL cm.out cm.out;have bU:U.cell? ⟨W,0,none⟩=some (.int .i64 r.code):=(ae.cell 0).trans rfl;have du:U.cell? ⟨W,1,none⟩=some (.int .i64 r.num):=(ae.cell 1).trans rfl;have dv:U.cell? ⟨W,2,none⟩=some (.slice c4 r.data.length cw):=(ae.cell 2).trans rfl;have dw:U.cell? ⟨W,3,none⟩=some (.slice c5 r.places.length cx):=(ae.cell 3).trans rfl;have eo:U.cell? ⟨V,0,none⟩=some (.int .i64 r.code):=(af.cell 0).trans rfl;have ep:U.cell? ⟨V,1,none⟩=some (.int .i64 r.num):=(af.cell 1).trans rfl;have eq:U.cell? ⟨V,2,none⟩=some (.slice c8 r.data.length cH):=(af.cell 2).trans rfl;have er:U.cell? ⟨V,3,none⟩=some (.slice c9 r.places.length cI):=(af.cell 3).trans rfl;have co:=lhd da;clear dp dq dr ds ae af da cr ct;go_wp2_with fail;refine co.out.mono ?_;rintro j bT ⟨rfl,aQ⟩;have d9:=b8.out.vb (Vis.of_below aQ);have bF:MdX bT gx c T2:=Bk.below ba.out aQ (Bk.lt ba.out);have dc:=b8.out.size;have cU:=ck.out.trans (aQ.mono dc)
          try simp only [and_self,decide_true]
          have dI:bT.cell? ⟨gx,0,none⟩=some (.string ⟨T2.toArray⟩):=(Bk.cell bF 0).trans rfl;obtain ⟨aJ,cq,cg⟩:=hqq3 d9 bF cU;clear d9 bF dc aQ cU bU du dv dw eo ep eq er co b8 ba ck;go_wp2_with fail;refine (aFi B b0 gs aL c C T2 bT aJ.out).mono ?_;rintro j bQ ⟨rfl,aX⟩;have b7:=lhd (aJ.out.vb aX.1);have df:MdX bQ gx c T2:=aX.1.bk cq.out dC dC;obtain ⟨dE,dz⟩:=hqq2 df (cg.out.trans (VB.to_below aX aJ.out.size));clear df aX aJ cq cg dI;go_wp2_with fail;refine (yI B b0 gs aL c C T2 bQ b7.out).mono ?_;rintro j em ⟨rfl,rfl⟩;go_wp2_with fail;refine (qL B b0 gs aL c C T2 bQ b7.out).mono ?_;rintro j em ⟨rfl,rfl⟩;go_wp2_with fail;go_roundw
          case rel=>exact ⟨k+1,T2,b0,aL,by omega,by go_num,b7.out,dE.out,dy.out,dz.out⟩
          case measure=>first |(simp [intOf];omega)| simp [intOf]
    · have e2:k=K:=oM;subst e2;go_wp2_with fail;refine (yD wr (b4.out.below an.out aM)).mono ?_;rintro j en ⟨rfl,av⟩;have b5:=lhd (an.out.trans (av.mono b9.out));clear av;go_wp2_with fail;go_ret;exact ⟨rfl,by rw [aG.out];exact b5.out⟩
end Go.Proofs.YthldmddkfbijhaaGreatDoor
