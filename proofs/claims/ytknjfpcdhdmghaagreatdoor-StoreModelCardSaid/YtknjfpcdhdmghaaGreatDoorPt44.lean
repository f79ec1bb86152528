/- Lemmas of the walk. Conditions: each its own. -/
import Derived.Test.YtknjfpcdhdmghaaGreatDoorPt34
set_option linter.all false
set_option maxRecDepth 100000
set_option maxHeartbeats 2000000
open Go.Proofs.Tryz
namespace Go.Proofs.YtknjfpcdhdmghaaGreatDoor
open Go.RowKit
structure MdAt (w:World) (g gp:Nat) (aA:Int) (T:List UInt8):Prop where
 mod:Bk w g 91 #[gp,(aA:Int)]
 pl:PlS w gp T
 b0:0<=aA
 b1:aA<=2147483648
section
variable {w w1 w' : World} {B g gp sz n c : Nat} {aA : Int} {T : List UInt8} {A : Option Addr} {xs : List Value}
def MdAt.ne (a:MdAt w g gp aA T):g≠gp:=by
 obtain ⟨A,c,d,_⟩:=a.pl;exact Bk.ne a.mod d dC
def MdAt.lt (a:MdAt w g gp aA T):gp < w.heap.size:=by
 obtain ⟨A,c,d,_⟩:=a.pl;exact d.lt
def MdAt.keep (l:MdAt w g gp aA T) (C:w.heap.size<=w'.heap.size) (k:∀b t cs,t≠29->Bk w b t cs->Bk w' b t cs):MdAt w' g gp aA T:=by
 obtain ⟨m,⟨A,c,o,i,p,e⟩,q,s⟩:=l;refine ⟨k _ _ _ dC m,⟨A,c,k _ _ _ dC o,?_,p,λa f j=>⟨(e a f j).1,by obtain ⟨cs,d⟩:=(e a f j).2;exact ⟨cs,k _ _ _ dC d⟩⟩⟩,q,s⟩;refine ⟨i.1,λa=>?_⟩;obtain ⟨b,G,rfl,u,z⟩:=i.2 a;obtain ⟨cs,d⟩:=(e a _ rfl).2;have D:w'.heap[b]?=w.heap[b]?:=(k _ _ _ dC d).trans (Eq.symm d);exact ⟨b,G,rfl,zAl u C,λF H E=>by rw [<-z F H E];exact zDd D⟩
def MdAt.below (d:MdAt w g gp aA T) (k:Below w.heap.size w w'):MdAt w' g gp aA T:=d.keep k.size λb t cs _ a=>a.below k a.lt
structure KM (B:Nat) (w w':World):Prop where
 low:Below B w w'
 sz:w.heap.size<=w'.heap.size
 d:∀b t cs,t≠89->t≠29->Bk w b t cs->Bk w' b t cs
def KM.refl (B w):KM B w w:=⟨kg _ _,zAs _,λ_ _ _ _ _ a=>a⟩
def KM.trans (a:KM B w w1) (k:KM B w1 w'):KM B w w':=⟨a.low.trans k.low,zAk a.sz k.sz,λb t cs d e f=>k.d b t cs d e (a.d b t cs d e f)⟩
def KM.j (k:Below w.heap.size w w') (hB:B<=w.heap.size):KM B w w':=⟨k.mono hB,k.size,λb t cs _ _ a=>a.below k a.lt⟩
def RdM (w:World) (B sz:Nat) (A:Option Addr) (n:Nat) (xs:List Value):Prop:=Rd w w.heap.size sz A n xs/\(0 < n->∀a,A=some a->a.block < B∨∃t cs,t≠89/\t≠29/\Bk w a.block t cs)
def RdM.step (a:RdM w B sz A n xs) (k:KM B w w'):RdM w' B sz A n xs:=by
 rcases zBa n with d | d;subst d;have:xs= []:=(by simpa using a.1.1);subst this;exact ⟨Rd.nil _ _ _ _,λq=>absurd q oM⟩;obtain ⟨b,C,rfl,o,p⟩:=a.1.2 d;have m:=a.2 d _ rfl;have s:w'.heap[b]?=w.heap[b]?:=(by rcases m with l |⟨t,cs,e,f,i⟩;exact k.low.block b l;exact (k.d _ _ _ e f i).trans (Eq.symm i));refine ⟨⟨a.1.1,λ_=>⟨b,C,rfl,zAl o k.sz,λz D u=>by rw [<-p z D u];exact zDd s⟩⟩,λ_ E j=>?_⟩;injection j with j;subst j;rcases m with l |⟨t,cs,e,f,i⟩;exact .inl l;exact .inr ⟨t,cs,e,f,k.d _ _ _ e f i⟩
end
section
variable {w w' : World} {B gs g gp : Nat} {own own' : Nat -> Nat} {aA : Int}
end
section
variable {w w' : World} {B g : Nat} {own : Nat -> Nat} {cs0 : Array Value}
def WaveE.ax {i f} (a:WaveE w B own i f) (k:Keep (λb=>b=g) w w') (d:Bk w g 29 cs0):WaveE w' B own i f:=by
 obtain ⟨m,v,a⟩:=a;refine ⟨m,v,k.d a.a (Bk.ne a.a d dC),a.base,λlv z=>?_,λb d=>⟨(a.q b d).1,zAl (a.q b d).2 k.size⟩⟩;obtain ⟨l,q,s,u⟩:=a.rows lv z;exact ⟨l,aC q λb cs _ e=>k.d e (Bk.ne e d dC),s,λD C=>(u D C).keep k λb t cs j e _ o=>by
  have p:b=g:=o;subst p;rw [(aU e d).1] at j;exact absurd j dC⟩
def WalkE.ax {gk d T} (j:WalkE w B own gk d T) (k:Keep (λb=>b=g) w w') (a:Bk w g 29 cs0):WalkE w' B own gk d T:=by
 obtain ⟨i,gt,e,l,m,f,o⟩:=j;exact ⟨i,gt,k.d e (Bk.ne e a dC),l,m.ax k a,k.d f (Bk.ne f a dC),o⟩
def PermE.ax {f gp i P j} (q:PermE w f gp i P j) (k:Keep (λb=>b=g) w w') (e:Bk w g 29 cs0):PermE w' f gp i P j:=by
 obtain ⟨⟨p,E,F,G,D,z,l,C,o,hx,m⟩,s,u⟩:=q;have a:=hx.at_;exact ⟨⟨p,E,F,G,D,z,l,C,o,⟨⟨k.d a.a (Bk.ne a.a e dC),aC a.u λb cs _ d=>k.d d (Bk.ne d e dC),aC a.t λb cs _ d=>k.d d (Bk.ne d e dC),k.d a.V (Bk.ne a.V e dC),aC a.F λb cs _ d=>k.d d (Bk.ne d e dC),aC a.M λb cs _ d=>k.d d (Bk.ne d e dC),a.apart,a.lt,a.lo⟩,hx.fp,hx.fa,hx.fl,hx.fo,hx.ft,hx.ff,hx.nd,hx.an,hx.tkk,hx.a8,hx.am,hx.sz⟩,m⟩,s,u⟩
def LiveE.ax {gl rate t} (e:LiveE w B own gl t rate) (k:Keep (λb=>b=g) w w') (d:Bk w g 29 cs0):LiveE w' B own gl t rate:=by
 obtain ⟨gk,gp,m,T,p,o,⟨f,a,i,j⟩,l⟩:=e;exact ⟨gk,gp,m,T,p,o,⟨f,⟨k.d a.a (Bk.ne a.a d dC),a.x,a.walk.ax k d,a.perm.ax k d⟩,i,j⟩,l⟩
def StAt.ax {gs gl aA rate t} (a:StAt w B own gs gl aA rate t) (k:Keep (λb=>b=g) w w') (d:Bk w g 29 cs0):StAt w' B own gs gl aA rate t:=
 ⟨k.d a.a (Bk.ne a.a d dC),a.low,a.x,a.live.ax k d,a.n127,a.len,a.max,a.r1,a.r2⟩
end
section
variable {P : Program} {ops : Array Oper} {Q : Exit -> Act -> World -> Prop} {md : Region.Mode}
end
section
variable {w w' : World} {B gs gs1 gs2 gl1 gl2 aA rate : Nat} {own own' own1 own2 own2' : Nat -> Nat} {T T2 : List UInt8} {r : Told} {v : Value}
def DoS (B gs:Nat) (own:Nat->Nat) (aA rate:Nat) (T2:List UInt8) (w w':World):Prop:=∃own' a,StAt w' B own' gs a aA rate T2/\LFS B gs w w' own own'
def ResD (w:World) (own:Nat->Nat) (gs:Nat) (r:Told) (v:Value):Prop:=∃A1 c1 A2 c2,v=.agg (iD r A1 c1 A2 c2)/\MadeZ w own gs 5 A1 r.data.length c1 (r.data.map bv)/\MadeZ w own gs 3 A2 r.places.length c2 (r.places.map nv)
def MadeZ.b7 {a A n c xs} (d:MadeZ w own gs a A n c xs) (k:LFS B gs w w' own own') (i:a≠233) (j:a≠191):MadeZ w' own gs a A n c xs:=⟨(d.step k i j).1,λe f=>⟨zAl (d.2 e f).1 k.size,(d.2 e f).2⟩⟩
def ResD.step (a:ResD w own gs r v) (k:LFS B gs w w' own own'):ResD w' own gs r v:=by
 obtain ⟨A1,c1,A2,c2,rfl,d,e⟩:=a;exact ⟨A1,c1,A2,c2,rfl,d.b7 k dC dC,e.b7 k dC dC⟩
def ResD.below (a:ResD w own gs r v) (k:Below w.heap.size w w'):ResD w' own gs r v:=a.step (LFS.j 0 gs own k)
def OneDone (w:World) (B gs1 gs2:Nat) (own2:Nat->Nat) (aA rate:Nat) (T2:List UInt8) (r:Told) (v:Value):Prop:=∃a d,StAt w B a gs1 d aA rate T2/\Two a gs1 own2 gs2/\ResD w own2 gs2 r v
def BothDone (w:World) (B gs1 gs2 aA rate:Nat) (T2:List UInt8) (r:Told) (v:Value):Prop:=∃a d own2' e,StAt w B a gs1 d aA rate T2/\StAt w B own2' gs2 e aA rate T2/\Two a gs1 own2' gs2/\∃A1 c1 A2 c2,v=.agg (iD r A1 c1 A2 c2)/\Made w 0 5 1 A1 r.data.length c1 (r.data.map bv)/\Made w 0 3 1 A2 r.places.length c2 (r.places.map nv)
def OneDone.below (d:OneDone w B gs1 gs2 own2 aA rate T2 r v) (k:Below w.heap.size w w'):OneDone w' B gs1 gs2 own2 aA rate T2 r v:=by
 obtain ⟨j,a,e,f,i⟩:=d;exact ⟨j,a,e.G (kb k),f,i.below k⟩
def BothDone.below (e:BothDone w B gs1 gs2 aA rate T2 r v) (k:Below w.heap.size w w'):BothDone w' B gs1 gs2 aA rate T2 r v:=by
 obtain ⟨o,a,own2',d,f,i,j,A1,c1,A2,c2,rfl,l,m⟩:=e;exact ⟨o,a,own2',d,f.G (kb k),i.G (kb k),j,A1,c1,A2,c2,rfl,l.below k,m.below k⟩
def aPk (d e B gs1 gs2:Nat) (own1 own2:Nat->Nat) (aA rate:Nat) (T2:List UInt8) (a:Nat) (w w':World):Prop:=(a=d->DoS B gs1 own1 aA rate T2 w w')/\(a=e->DoS B gs2 own2 aA rate T2 w w')/\(a≠d->a≠e->Below w.heap.size w w')
def DuoC (a:World) (B gt:Nat) (cs:Array Value) (w:World):Prop:=Bk w gt 32 cs/\Below B a w/\B<=w.heap.size
def DuoU (d e B gs1 gl1 gs2 gl2:Nat) (own1 own2:Nat->Nat) (aA rate:Nat) (T:List UInt8) (a:Nat) (w:World):Prop:=(a=d->StAt w B own1 gs1 gl1 aA rate T/\StAt w B own2 gs2 gl2 aA rate T)/\(a=e->StAt w B own2 gs2 gl2 aA rate T)
def DuoC.step {l gt j p q cs} (u:DuoC l B gt cs w) (k:aPk p q B gs1 gs2 own1 own2 aA rate T2 j w w') (m:Ap own1 gs1 gt) (o:Ap own2 gs2 gt):DuoC l B gt cs w':=by
 obtain ⟨e,f,d⟩:=u;by_cases c1:j=p;obtain ⟨own',s,_,a⟩:=k.1 c1;exact ⟨a.d e m.x m.ne dC dC,f.trans (a.below d),zAk d a.size⟩;by_cases c2:j=q;obtain ⟨own',s,_,a⟩:=k.2.1 c2;exact ⟨a.d e o.x o.ne dC dC,f.trans (a.below d),zAk d a.size⟩;have i:=k.2.2 c1 c2;exact ⟨e.below i e.lt,f.trans (i.mono d),zAk d i.size⟩
def dD (w B):Below B w w.drew:=⟨rfl,rfl,rfl,zAs _,λ_ _=>rfl⟩
def DuoC.drew {d gt cs} (a:DuoC d B gt cs w):DuoC d B gt cs w.drew:=⟨a.1,a.2.1.trans (dD w B),a.2.2⟩
def DuoU.drew {e f i} (d:DuoU f i B gs1 gl1 gs2 gl2 own1 own2 aA rate T e w):DuoU f i B gs1 gl1 gs2 gl2 own1 own2 aA rate T e w.drew:=⟨λa=>⟨(d.1 a).1.G (kb (dD _ _)),(d.1 a).2.G (kb (dD _ _))⟩,λa=>(d.2 a).G (kb (dD _ _))⟩
def DuoU.step {j e f i} (l:DuoU f i B gs1 gl1 gs2 gl2 own1 own2 aA rate T j w) (k:aPk f i B gs1 gs2 own1 own2 aA rate T2 e w w') (ht:Two own1 gs1 own2 gs2) (s:j≠e) (o:e≠i):DuoU f i B gs1 gl1 gs2 gl2 own1 own2 aA rate T j w':=by
 refine ⟨λa=>?_,λa=>?_⟩;have m:=k.2.2 (λp=>s (a.trans p.symm)) o;obtain ⟨q,d⟩:=l.1 a;exact ⟨q.G (kb m),d.G (kb m)⟩;have d:=l.2 a;by_cases c1:e=f;obtain ⟨own',z,_,u⟩:=k.1 c1;exact (d.other u ht).1;exact d.G (kb (k.2.2 c1 o))
end
def aH3 {d a k} (f:¬dK d a k=false):0<=a/\0<=k/\a+k<=(d:Int):=by
 cases e:dK d a k with
 | false=>exact absurd e f
 | true=>
  obtain ⟨i,b,rfl,rfl,j⟩:=dT e;omega
def aEZ (T s) (aA:Nat) (d u k:Int) (a:T.length<=aA):(doM T (aA:Int) d u k s).1.length<=aA:=by
 unfold doM;by_cases f:d=1
 .rw [zBx f];split;exact a
  .split;exact a
   .rename_i e z
    have:=aH3 e;simp only [zAi,zAj,zAw];omega
 rw [zBw f];by_cases i:d=2;rw [zBx i];split;exact a;simp only [zAi,zAj,zAw];omega;rw [zBw i];by_cases m:d=5
 .rw [zBx m];split <;> exact a
 rw [zBw m];by_cases j:d=3
 .rw [zBx j];split;exact a
  .rename_i e
   have:=aH3 e;simp only [zAi,zAj,zAw];omega
 rw [zBw j];by_cases l:d=4;rw [zBx l];exact a;rw [zBw l];by_cases o:d=6;rw [zBx o];exact a;rw [zBw o];by_cases p:d=7;rw [zBx p];exact a;rw [zBw p];by_cases q:d=8;rw [zBx q];exact a;rw [zBw q];exact a
section
variable {P : Program} {ops : Array Oper} {Q : Exit -> Act -> World -> Prop} {md : Region.Mode}
end
section
variable {w w' : World} {v : Value}
def fresh (N0:Nat) (t:TypeId) (cs:Array Value):Value->World->Prop:=λv w=>∃g,v=.pointer (some ⟨g,0,none⟩)/\N0<=g/\Bk w g t cs
def aPn:Array Value:=#[.int .i64 0,.int .i64 0,.slice none 0 0,.slice none 0 0]
variable {B gs gl gx gt N0 aA rate : Nat} {own own' : Nat -> Nat} {T T2 : List UInt8} {r : Told}
def MdX (w:World) (gx aA:Nat) (T:List UInt8):Prop:=Bk w gx 35 #[.string ⟨T.toArray⟩,(aA:Int)]
def PyA (B gs gx N0 aA rate:Nat) (T2:List UInt8) (r:Told) (v:Value) (w:World):Prop:=∃own1 gl1,StAt w B own1 gs gl1 aA rate T2/\Ap own1 gs gx/\∃A1 c1 A2 c2,v=.agg (iD r A1 c1 A2 c2)/\Made w N0 5 1 A1 r.data.length c1 (r.data.map bv)/\Made w N0 3 1 A2 r.places.length c2 (r.places.map nv)
def PyA.below (a:PyA B gs gx N0 aA rate T2 r v w) (k:Below w.heap.size w w'):PyA B gs gx N0 aA rate T2 r v w':=by
 obtain ⟨own1,gl1,d,e,A1,c1,A2,c2,f,i,j⟩:=a;exact ⟨own1,gl1,d.G (kb k),e,A1,c1,A2,c2,f,i.below k,j.below k⟩
def PyA.keep (f:PyA B gs gx N0 aA rate T2 r v w) (k:Keep (λb=>b=gx) w w') (hx:gx < N0):PyA B gs gx N0 aA rate T2 r v w':=by
 obtain ⟨own1,gl1,i,e,A1,c1,A2,c2,j,l,m⟩:=f;exact ⟨own1,gl1,i.m k (λb a=>by have d:b=gx:=a;rw [d];exact e),e,A1,c1,A2,c2,j,l.o k (λb a=>by have d:b=gx:=a;omega),m.o k (λb a=>by have d:b=gx:=a;omega)⟩
def PyB (gx N0 aA:Nat) (T2:List UInt8) (r:Told) (v:Value) (w:World):Prop:=∃A1 c1 A2 c2,v=.agg (iD r A1 c1 A2 c2)/\RdN w N0 1 A1 r.data.length (r.data.map bv)/\Made w N0 3 1 A2 r.places.length c2 (r.places.map nv)/\MdX w gx aA T2
def PyB.below (d:PyB gx N0 aA T2 r v w) (k:Below w.heap.size w w'):PyB gx N0 aA T2 r v w':=by
 obtain ⟨A1,c1,A2,c2,e,f,i,a⟩:=d;exact ⟨A1,c1,A2,c2,e,f.below k,i.below k,kf a k (Bk.lt a)⟩
def PyS (d e B gs gx:Nat) (own:Nat->Nat) (aA rate:Nat) (T2:List UInt8) (a:Nat) (w w':World):Prop:=(a=d->DoS B gs own aA rate T2 w w')/\(a=e->Keep (λb=>b=gx) w w'/\MdX w' gx aA T2)/\(a≠d->a≠e->Below w.heap.size w w')
def PyC (a:World) (B gx gt N0 aA:Nat) (cs:Array Value) (w:World):Prop:=Bk w gt 32 cs/\Below B a w/\B<=w.heap.size/\N0<=w.heap.size/\∃d,MdX w gx aA d
def PyU (d e B gs gl gx:Nat) (own:Nat->Nat) (aA rate:Nat) (T:List UInt8) (a:Nat) (w:World):Prop:=(a=d->StAt w B own gs gl aA rate T)/\(a=e->MdX w gx aA T)
def PyC.step {q p C D cs} (E:PyC q B gx gt N0 aA cs w) (k:PyS C D B gs gx own aA rate T2 p w w') (u:Ap own gs gt) (z:Ap own gs gx) (G:gt≠gx) (J:B<=gx):PyC q B gx gt N0 aA cs w':=by
 obtain ⟨f,l,a,m,s,o⟩:=E;by_cases c1:p=C;obtain ⟨own',I,_,e⟩:=k.1 c1;exact ⟨e.d f u.x u.ne dC dC,l.trans (e.below a),zAk a e.size,zAk m e.size,s,e.d o z.x z.ne dC dC⟩;by_cases c2:p=D;obtain ⟨i,F⟩:=k.2.1 c2;exact ⟨i.d f (λj=>G j),l.trans (i.e a λb d j=>by have H:b=gx:=j;omega),zAk a i.size,zAk m i.size,T2,F⟩;have d:=k.2.2 c1 c2;exact ⟨f.below d f.lt,l.trans (d.mono a),zAk a d.size,zAk m d.size,s,kf o d (Bk.lt o)⟩
def PyC.drew {d cs} (a:PyC d B gx gt N0 aA cs w):PyC d B gx gt N0 aA cs w.drew:=⟨a.1,a.2.1.trans (dD w B),a.2.2.1,a.2.2.2.1,a.2.2.2.2⟩
def PyU.drew {e f i} (d:PyU f i B gs gl gx own aA rate T e w):PyU f i B gs gl gx own aA rate T e w.drew:=⟨λa=>(d.1 a).G (kb (dD _ _)),λa=>d.2 a⟩
def PyU.step {f i d j} (e:PyU d j B gs gl gx own aA rate T f w) (k:PyS d j B gs gx own aA rate T2 i w w') (m:Ap own gs gx) (o:f≠i) (p:f=d->i≠j):PyU d j B gs gl gx own aA rate T f w':=by
 refine ⟨λa=>?_,λa=>?_⟩;exact (e.1 a).G (kb (k.2.2 (λl=>o (a.trans l.symm)) (p a)));by_cases c1:i=d;obtain ⟨own',u,_,s⟩:=k.1 c1;exact s.d (e.2 a) m.x m.ne dC dC;have q:=k.2.2 c1 (λl=>o (a.trans l.symm));exact kf (e.2 a) q (Bk.lt (e.2 a))
end
def aPj (cs:Array Value):Prop:=∀(a:Nat) (c:UInt8),cs[a]?≠some (bv c)
def aK5 (x y A1 A2 n1 c1 n2 c2):aPj #[(x:Int),(y:Int),.slice A1 n1 c1,.slice A2 n2 c2]:=by
 intro a c;rcases a with _ | _ | _ | _ | a <;> simp [bv]
section
variable {w w' : World} {g : Nat} {t : TypeId} {cs : Array Value} (hx : Bk w g t cs) (k : Keep (λb => b = g) w w')
include hx k
def aPc {B n:Nat} {A:Option Addr} {T:List UInt8} (m:aPj cs) (d:Rd w B 1 A n (T.map bv)) (hB:B<=w.heap.size):Rd w' w'.heap.size 1 A n (T.map bv):=Rd.o d k hB λp s l a=>by
 obtain ⟨b,q,e,u,j⟩:=d.2 p;rw [l] at e;cases e;have a:b=g:=a;subst a;have o:(T.map bv).length=n:=by have:=d.1;omega
 have i:0 < T.length:=by simp at o;omega
 have f:=j 0 (bv (T[0]'i)) (by rw [zAf,zAa i];rfl);rw [zBq,hx.cell q] at f;exact m _ _ f
def aM7 {B sz n c a A xs} (i:a≠t) (d:Made w B a sz A n c xs):Made w' B a sz A n c xs:=by
 have f:w'.ownsRow B a sz (.slice A n c) n xs:=aC d.own λb j _ e=>k.d e (Bk.ne e hx i);exact ⟨f,Rd.s f,d.cap,d.max⟩
end
def nW (w:World) (g:Nat) (a num:Int) (d e:Value):World:=(((w.setCell g (.int .i64 a)).setCell ⟨g,1,none⟩ (.int .i64 num)).setCell ⟨g,2,none⟩ d).setCell ⟨g,3,none⟩ e
def iH (w g a num d e):Keep (λb=>b=g) w (nW w g a num d e):=
 ((((ke (λb=>b=g) w).setCell (p:=g) (.inl rfl) _).setCell (p:=⟨g,1,none⟩) (.inl rfl) _).setCell (p:=⟨g,2,none⟩) (.inl rfl) _).setCell (p:=⟨g,3,none⟩) (.inl rfl) _
def aB9 {w g i j l m} (f:Bk w g 29 #[i,j,l,m]) (a num d e):Bk (nW w g a num d e) g 29 #[(a:Int),(num:Int),d,e]:=by
 have:=(((f.set 0 (.int .i64 a)).set 1 (.int .i64 num)).set 2 d).set 3 e;simpa [nW] using this
def ResC (w:World) (g:Nat):Prop:=∃(x y:Int) (A1:Option Addr) (n1 c1:Nat) (A2:Option Addr) (n2 c2:Nat),Bk w g 29 #[(x:Int),(y:Int),.slice A1 n1 c1,.slice A2 n2 c2]
def ResX (w:World) (g:Nat) (r:Told):Prop:=∃A1 c1 A2 c2,Bk w g 29 (iD r A1 c1 A2 c2)/\Rd w w.heap.size 1 A1 r.data.length (r.data.map bv)/\Made w 0 3 1 A2 r.places.length c2 (r.places.map nv)
section
variable {w : World} {g g' : Nat} {r : Told} {A1 A2 : Option Addr} {x y : Int} {n1 c1 n2 c2 : Nat}
def ResC.of (a:Bk w g 29 aPn):ResC w g:=⟨_,_,_,_,_,_,_,_,a⟩
def ResC.be {e} (a:ResC w g) (d:ResC w g') (j:nW w g' x y (.slice A1 n1 c1) (.slice A2 n2 c2)=e):ResC e g:=by
 subst j;obtain ⟨_,_,_,_,_,_,_,_,d⟩:=d;by_cases f:g=g';subst f;exact ⟨_,_,_,_,_,_,_,_,aB9 d _ _ _ _⟩;obtain ⟨_,_,_,_,_,_,_,_,a⟩:=a;exact ⟨_,_,_,_,_,_,_,_,(iH w g' _ _ _ _).d a (λi=>f i)⟩
def StAt.be {d B gs gl aA rate own T} (e:StAt w B own gs gl aA rate T) (a:ResC w g') (f:nW w g' x y (.slice A1 n1 c1) (.slice A2 n2 c2)=d):StAt d B own gs gl aA rate T:=by
 subst f;obtain ⟨_,_,_,_,_,_,_,_,a⟩:=a;exact e.ax (iH w g' _ _ _ _) a
def MdX.be {d gx aA T} (e:MdX w gx aA T) (a:ResC w g') (f:nW w g' x y (.slice A1 n1 c1) (.slice A2 n2 c2)=d):MdX d gx aA T:=by
 subst f;obtain ⟨_,_,_,_,_,_,_,_,a⟩:=a;exact (iH w g' _ _ _ _).d e (Bk.ne e a dC)
def RowR (w:World) (A1 A2:Option Addr) (c2:Nat) (r:Told):Prop:=Rd w w.heap.size 1 A1 r.data.length (r.data.map bv)/\Made w 0 3 1 A2 r.places.length c2 (r.places.map nv)
def RowR.be {d A3 A4 c4 q} (e:RowR w A3 A4 c4 q) (a:ResC w g') (f:nW w g' x y (.slice A1 n1 c1) (.slice A2 n2 c2)=d):RowR d A3 A4 c4 q:=by
 subst f;obtain ⟨_,_,_,_,_,_,_,_,a⟩:=a;exact ⟨aPc a (iH w g' _ _ _ _) (aK5 _ _ _ _ _ _ _ _) e.1 nL,aM7 a (iH w g' _ _ _ _) dC e.2⟩
def ResX.new {a} (d:ResC w g) (i:RowR w A1 A2 c2 r) (f:nW w g r.code r.num (.slice A1 r.data.length c1) (.slice A2 r.places.length c2)=a):ResX a g r:=by
 have e:=i.be d f;subst f;obtain ⟨_,_,_,_,_,_,_,_,j⟩:=d;exact ⟨A1,c1,A2,c2,aB9 j _ _ _ _,e.1,e.2⟩
def ResX.be {i} (s:ResX w g r) (l:ResC w g') (u:RowR w A1 A2 c2 r) (f:nW w g' r.code r.num (.slice A1 r.data.length c1) (.slice A2 r.places.length c2)=i):ResX i g r:=by
 by_cases j:g=g';subst j;exact ResX.new l u f;obtain ⟨a,o,d,e,z,C,D⟩:=s;have m:=RowR.be (A3:=a) (A4:=d) (c4:=e) (q:=r) ⟨C,D⟩ l f;subst f;exact ⟨a,o,d,e,(iH w g' _ _ _ _).d z (λp=>j p),m.1,m.2⟩
end
def nM (aA rate:Nat) (w) (o:aA<=2147483648) (i:1<=rate) (j:rate<=64):
 Calls prog 7 #[(aA:Int),(rate:Int)] w λf w'=>∃gs gl own,f=.returned (.tuple #[.pointer (some ⟨gs,0,none⟩),o0])/\StAt w' w.heap.size own gs gl aA rate []/\Below w.heap.size w w':=by
 have l:=vO (A0:=none) (m0:=0) (B:=w.heap.size) (ss:=[]) (t:=[]) (N:=0) (w:=w) rate 0 rfl rfl (Rd.nil _ _ _ _) (λC p=>by cases p) nL oM oM i j;have n1:¬((aA:Int) < 0):=oM;have n2:¬((aA:Int) > 2147483648):=oM;have z:=zBy n2;go_enter func7,ntmps7;go_wp2_with fail;refine l.mono ?_;rintro f w1 ⟨gl,own,rfl,u,e,a⟩;have d:Below w1.heap.size w1 (w1.alloc (.cells #[.pointer (some ⟨gl,0,none⟩),(aA:Int)] 58)):=bR.alloc nL _;have q:StAt (w1.alloc (.cells #[.pointer (some ⟨gl,0,none⟩),(aA:Int)] 58)) w.heap.size own w1.heap.size gl aA rate []:=
  ⟨kd _ _ _,a.size,zFi λs=>by have:=(e.q w1.heap.size oM).2;omega,e.b (kb d),by simp,by simp,o,i,j⟩
 have m:=(a.trans (d.mono a.size));clear d a e l;go_wp2_with fail;go_ret2;exact ⟨_,gl,own,rfl,q,m⟩
def yL (t:List UInt8) (n:Nat) (w:World) (f:Ending) (w':World):Prop:=∃a d e,f=.returned (.slice a (n+1) d)/\IsSuf (aG t) e/\Made w' w.heap.size 3 1 a (n+1) d ((aH (aG t) e).map sv)/\Below w.heap.size w w'
def qR {t n} (w) (d:t.length=n) (a5:n<=900):
 Calls prog 35 #[.string ⟨t.toArray⟩] w (yL t n w):=by
 obtain ⟨Y,O,V,W,X⟩:=info_parts gI;have I:=qQ w d a5;unfold yK at I;have ah:(⟨t.toArray⟩:ByteArray).size=n:=(rW t).trans d;unfold yL;go_enter func35,ntmps35;go_wp2_with fail;refine I.mono ?_;rintro aa w1 ⟨A1,c1,o,rfl,J,a4,D⟩;have S:o.length=n+1:=by rw [J.len,aO,d]
 obtain ⟨i,z⟩:=eqx (aH (aG t) o);have a2:i.length=n+1:=by rw [<-z,bY,S]
 have L:=D;clear I D;go_wp2_with fail;go_loopw [4,5] (λv K wr=>∃k:Nat,k<=n+1/\K=.int .i64 k/\wr.ownsRow w1.heap.size 3 1 v k ((i.take k).map sv)/\Below w1.heap.size w1 wr) (λ_ K _=>n+1 -(intOf K).toNat)
 case atStart=>exact ⟨0,zAp _,rfl,ki _ _ _ _,kg _ _⟩
 case round=>
  obtain ⟨k,ae,rfl,e,j⟩:=hrel;have s:=j.size;by_cases a3:k < n+1
  .have R:k < o.length:=(by rw [S];exact a3);obtain ⟨a,H⟩:∃a,o[k]?=some a:=⟨_,zAa R⟩;have af:a<=n:=(by have:=J.lt (zAd H);rw [aO,d] at this;omega);obtain ⟨b1,Z,rfl,D,N⟩:=(a4.rd.below j).2 oM;have u:wr.cell? ⟨b1,Z+k,none⟩=some (.int .i64 a):=N k _ (by rw [zAf,H];rfl);have M:i[k]?=some (bS (aG t) a):=(by rw [<-z];unfold aH;rw [zAf,H];rfl);have q:i.take (k+1)=i.take k++ [bS (aG t) a]:=(by rw [zAv,M];rfl);clear N M R;rcases a with _ | f
   .have m:bS (aG t) 0=0:=(by rw [bV (by rw [aO];omega),aO,zBb];exact (fA t).last);rw [m] at q;clear m;have a9:wr.cell? ⟨b1,Z+k,none⟩=some (.int .i64 0):=u;clear u;go_wp2_with (at_builtin;refine bP _ rfl (.tmp 19) (.tmp 20) _ rfl w1.heap.size 3 Y (.int .i64 0) 1 8 underlying27 O V W X rfl dC _ k _ rfl e rfl rfl (by simp [Value.oneCell']) zx oM s ?_;intro a7 a8 G l a6 C);have E:=aX j e l s;clear l C;go_roundw
    case rel=>exact ⟨k+1,by omega,by go_num,by rw [q,zAz];exact G,E⟩
    case measure=>exact zr
   .obtain ⟨c,F⟩:∃c,t[f]?=some c:=⟨_,zAa (by rw [d];omega)⟩;have m:bS (aG t) (f+1)=c.toNat+1:=(by rw [bL (by rw [aO,d];omega)];unfold aG dQ;rw [zAb,zAn (by rw [zBc,d];omega),zAf,F];rfl);rw [m] at q;have a0:(((f+1:Nat):Int)==0)=false:=(by rw [zCb];omega);have a1:IntKind.i64.wrap ((f+1:Nat) - 1)=(f:Int):=zu;have ag:=aGe F;have ad:=c.toNat_lt;have ab:IntKind.i64.wrap c.toNat=(c.toNat:Int):=zu;have ac:wrap64 (c.toNat+1)=((c.toNat+1:Nat):Int):=(by rw [dU oM oM];omega);clear m F;generalize f+1=a at u a0 a1;go_wp2_with (at_builtin;refine bP _ rfl (.tmp 22) (.tmp 32) _ rfl w1.heap.size 3 Y (.int .i64 0) 1 8 underlying27 O V W X rfl dC _ k _ rfl e rfl rfl (by simp [Value.oneCell']) zx oM s ?_;intro a7 a8 G l a6 C);have E:=aX j e l s;clear l C;go_roundw
    case rel=>exact ⟨k+1,by omega,by go_num,by rw [q,zAz];exact G,E⟩
    case measure=>exact zr
  .obtain rfl:k=n+1:=oM;rw [zAg (by rw [a2];exact zAs _)] at e;obtain ⟨A,c,rfl,p⟩:=aR e;clear e;go_wp2_with fail;go_ret;have U:=L.size;exact ⟨A,c,o,rfl,J,by rw [z];exact ⟨cG p.own U,p.rd,p.cap,p.max⟩,L.trans (j.mono U)⟩
def sE (w:World) (B:Nat) (own:Nat->Nat) (gs aA rate:Nat) (T:List UInt8) (a num:Int) (d:List UInt8) (i:List Nat) (n1 n2:Nat) (e:Ending) (w':World):Prop:=
 ∃A1 c1 A2 c2 own' f,e=.returned (.agg #[(a:Int),(num:Int),.slice A1 n1 c1,.slice A2 n2 c2])/\StAt w' B own' gs f aA rate T/\LFS B gs w w' own own'/\MadeZ w' own' gs 5 A1 n1 c1 (d.map bv)/\MadeZ w' own' gs 3 A2 n2 c2 (i.map nv)
def StDone.v {w w' B gs aA rate own T o num i m n1 n2 p} (G:gs < w.heap.size) (q:i.length=n1) (s:m.length=n2) (z:StDone w B own gs aA rate T ⟨o,num,i,m⟩ p w'):sE w B own gs aA rate T o num i m n1 n2 p w':=by
 subst q s;obtain ⟨A1,c1,A2,c2,own',u,rfl,C,D,d,e,E,F⟩:=z;refine ⟨A1,c1,A2,c2,own',u,rfl,C,D,⟨⟨cG d.own (zAp _),d.rd,d.cap,d.max⟩,λa f=>?_⟩,⟨⟨cG e.own (zAp _),e.rd,e.cap,e.max⟩,λa f=>?_⟩⟩;have j:=E a f;subst f;have l:=d.own.lt (k:=a.block) rfl;exact ⟨l.2,j,by omega⟩;have j:=F a f;subst f;have l:=e.own.lt (k:=a.block) rfl;exact ⟨l.2,j,by omega⟩
def Kp (w:World) (own:Nat->Nat) (gs g:Nat) (t:TypeId) (cs:Array Value):Prop:=Bk w g t cs/\Ap own gs g
def Kp.step {w w' B gs g own own' t cs} (a:Kp w own gs g t cs) (k:LFS B gs w w' own own') (d:t≠233) (e:t≠191):Kp w' own' gs g t cs:=⟨k.d a.1 a.2.x a.2.ne d e,a.2.step k a.1.lt⟩
def Kp.new {a B gs gl aA rate own e} (d:StAt a B own gs gl aA rate e) (t cs):Kp (a.alloc (.cells cs t)) own gs a.heap.size t cs:=⟨kd a t cs,d.fresh nL,by have:=d.a.lt;omega⟩
def aA3 {B own gs gl aA rate t w} (d:StAt w B own gs gl aA rate t):
 Calls prog 42 #[gs] w λa w'=>a=.returned (.int .i64 rate)/\w=w':=by
 have i:=d.a.cell 0;have e:Calls prog 77 #[gl] w λa w'=>a=.returned (.int .i64 rate)/\w=w':=by obtain ⟨q,gk,gp,p,m,f,l,o,j⟩:=d.tp;exact oW f
 clear d;go_enter func42,ntmps42;go_wp2_with fail;refine e.mono ?_;rintro a w1 ⟨rfl,rfl⟩;clear e;go_wp2_with fail;go_ret;exact ⟨rfl,rfl⟩
def oR (w:World) (B:Nat) (a:List Nat) (n:Nat) (d:Ending) (w':World):Prop:=∃A c,d=.returned (.slice A n c)/\Made w' w.heap.size 3 1 A n c (a.map sv)/\VB B w w'
def aA5 {B own gs gl aA rate} (n) {t f w} (a:StAt w B own gs gl aA rate t) (e:IsSuf (aG t) f) (j:t.length+1=n):
 Calls prog 39 #[gs] w (oR w B (aH (aG t) f) n):=by
 have s:=a.a.cell 0;have d:Calls prog 76 #[gl] w (oR w B (aH (aG t) f) n):=by
  obtain ⟨q,gk,gp,E,o,l,C,D,z⟩:=a.tp;obtain rfl:=o.unique e;have i:(aH (aG t) q).length=n:=by rw [bY,e.len,aO,j]
  have:=vP l (dR (eX t)) (by rw [i];omega);unfold kB at this;rw [i] at this;exact this
 unfold oR at d⊢;clear a e j;go_enter func39,ntmps39;go_wp2_with fail;refine d.mono ?_;rintro u w1 ⟨A,c,rfl,m,p⟩;clear d;go_wp2_with fail;go_ret;exact ⟨A,c,rfl,m,p⟩
end Go.Proofs.YtknjfpcdhdmghaaGreatDoor
