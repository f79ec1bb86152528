/- Lemmas of the walk. Conditions: each its own. -/
import Derived.Test.YtihaijbgmjdhgaaGreatDoorPp20
import Derived.Test.YtihaijbgmjdhgaaGreatDoorProg
import Derived.Test.YtihaijbgmjdhgaaGreatDoorSht
import Derived.Test.YtihaijbgmjdhgaaGreatDoorShl
import Derived.Test.YtihaijbgmjdhgaaGreatDoorShi
import Derived.Test.YtihaijbgmjdhgaaGreatDoorShs
set_option linter.all false
set_option maxRecDepth 100000
set_option maxHeartbeats 4000000
open Go.Proofs.Tryz
namespace Go.Proofs.YtihaijbgmjdhgaaGreatDoor
open Go.RowKit
structure MdAt (w:World) (g gp:Nat) (most:Int) (T:List UInt8):Prop where
 mod:Bk w g 65 #[gp,.int .i64 most]
 pl:PlS w gp T
 b0:0<=most
 b1:most<=2147483648
section
variable {w w1 w' : World} {B g gp sz n c : Nat} {most : Int} {T : List UInt8} {A : Option Addr} {xs : List Value}
theorem MdAt.ne (a:MdAt w g gp most T):g≠gp:=by
 obtain ⟨A,c,d,_⟩:=a.pl;exact Bk.ne a.mod d dC
theorem MdAt.lt (a:MdAt w g gp most T):gp < w.heap.size:=by
 obtain ⟨A,c,d,_⟩:=a.pl;exact d.lt
theorem MdAt.keep (l:MdAt w g gp most T) (D:w.heap.size<=w'.heap.size) (k:∀b t cs,t≠41->Bk w b t cs->Bk w' b t cs):MdAt w' g gp most T:=by
 obtain ⟨m,⟨A,c,o,i,p,e⟩,s,u⟩:=l;refine ⟨k _ _ _ dC m,⟨A,c,k _ _ _ dC o,?_,p,fun a f j=>⟨(e a f j).1,by obtain ⟨cs,d⟩:=(e a f j).2;exact ⟨cs,k _ _ _ dC d⟩⟩⟩,s,u⟩;refine ⟨i.1,fun a=>?_⟩;obtain ⟨b,H,rfl,z,C⟩:=i.2 a;obtain ⟨cs,d⟩:=(e a _ rfl).2;have E:w'.heap[b]?=w.heap[b]?:=(k _ _ _ dC d).trans (Eq.symm d);exact ⟨b,H,rfl,zAl z D,fun G I F=>by rw [<-C G I F];exact World.cell?_of_block E⟩
theorem MdAt.below (d:MdAt w g gp most T) (k:Below w.heap.size w w'):MdAt w' g gp most T:=d.keep k.size fun b t cs _ a=>a.below k a.lt
structure KM (B:Nat) (w w':World):Prop where
 low:Below B w w'
 sz:w.heap.size<=w'.heap.size
 bk:∀b t cs,t≠63->t≠41->Bk w b t cs->Bk w' b t cs
theorem KM.refl (B:Nat) (w:World):KM B w w:=⟨Below.refl _ _,zAs _,fun _ _ _ _ _ a=>a⟩
theorem KM.trans (a:KM B w w1) (k:KM B w1 w'):KM B w w':=⟨a.low.trans k.low,zAk a.sz k.sz,fun b t cs d e f=>k.bk b t cs d e (a.bk b t cs d e f)⟩
theorem KM.of_below (k:Below w.heap.size w w') (d:B<=w.heap.size):KM B w w':=⟨k.mono d,k.size,fun b t cs _ _ a=>a.below k a.lt⟩
theorem KM.of_do (k:Keep (fun b=>b=gp) w w') (l:B<=gp) (i:B<=w.heap.size) {cs0:Array Value} (f:Bk w gp 63 cs0):KM B w w':=
 ⟨k.to_below i (fun b a d=>by have j:b=gp:=d;omega),k.size,fun b t cs e _ a=>k.bk a (Bk.ne a f e)⟩
def RdM (w:World) (B sz:Nat) (A:Option Addr) (n:Nat) (xs:List Value):Prop:=Rd w w.heap.size sz A n xs/\(0 < n->∀a,A=some a->a.block < B∨∃t cs,t≠63/\t≠41/\Bk w a.block t cs)
theorem RdM.step (a:RdM w B sz A n xs) (k:KM B w w'):RdM w' B sz A n xs:=by
 rcases zAz n with d | d;subst d;have:xs= []:=(by simpa using a.1.1);subst this;exact ⟨Rd.nil _ _ _ _,fun p=>absurd p oM⟩;obtain ⟨b,C,rfl,m,o⟩:=a.1.2 d;have l:=a.2 d _ rfl;have s:w'.heap[b]?=w.heap[b]?:=(by rcases l with q |⟨t,cs,e,f,i⟩;exact k.low.block b q;exact (k.bk _ _ _ e f i).trans (Eq.symm i));refine ⟨⟨a.1.1,fun _=>⟨b,C,rfl,zAl m k.sz,fun z D u=>by rw [<-o z D u];exact World.cell?_of_block s⟩⟩,fun _ E j=>?_⟩;injection j with j;subst j;rcases l with q |⟨t,cs,e,f,i⟩;exact .inl q;exact .inr ⟨t,cs,e,f,k.bk _ _ _ e f i⟩
end
section
variable {w w' : World} {B gs g gp : Nat} {own own' : Nat -> Nat} {most : Int}
theorem MdAt.lfs0 (a:MdAt w g gp most []) (k:LFS B gs w w' own own') (d:Ap own gs g) (e:Ap own gs gp):MdAt w' g gp most []:=by
 obtain ⟨f,⟨A,c,i,o,j,p⟩,l,m⟩:=a;exact ⟨k.bk f d.col d.ne dC dC,⟨A,c,k.bk i e.col e.ne dC dC,⟨rfl,fun a=>absurd a (by simp)⟩,j,fun a=>absurd a (by simp)⟩,l,m⟩
end
def StpM (w:World) (B:Nat) (A:Option Addr) (n:Nat) (L:List Sp):Prop:=
 L.length=n/\(0 < n->∃b a,A=some ⟨b,a,none⟩/\b < w.heap.size/\(b < B∨∃t cs,t≠63/\t≠41/\Bk w b t cs)/\∀k d,L[k]?=some d->∃e md f,w.cell? ⟨b,a+k*4,none⟩=some (.int .i64 d.kind)/\w.cell? ⟨b,a+k*4+1,none⟩=some (.int .i64 d.p)/\w.cell? ⟨b,a+k*4+2,none⟩=some (.int .i64 d.k)/\w.cell? ⟨b,a+k*4+3,none⟩=some (.slice e md f)/\RdM w B 1 e md (d.D.map bv))
theorem StpM.step {w w':World} {B n:Nat} {A:Option Addr} {L:List Sp} (j:StpM w B A n L) (k:KM B w w'):StpM w' B A n L:=by
 refine ⟨j.1,fun C=>?_⟩;obtain ⟨b,I,rfl,D,l,E⟩:=j.2 C;have H:w'.heap[b]?=w.heap[b]?:=by rcases l with q |⟨t,cs,a,d,e⟩;exact k.low.block b q;exact (k.bk _ _ _ a d e).trans (Eq.symm e)
 have f:∀i,w'.cell? ⟨b,i,none⟩=w.cell? ⟨b,i,none⟩:=fun i=>World.cell?_of_block H;refine ⟨b,I,rfl,zAl D k.sz,?_,fun q J G=>?_⟩;rcases l with q |⟨t,cs,a,d,e⟩;exact .inl q;exact .inr ⟨t,cs,a,d,k.bk _ _ _ a d e⟩;obtain ⟨m,md,o,p,s,u,z,F⟩:=E q J G;exact ⟨m,md,o,(f _).trans p,(f _).trans s,(f _).trans u,(f _).trans z,F.step k⟩
def aDR (w:World) (g gp:Nat) (most:Int) (T2:List UInt8) (r:Told) (a:Ending) (w':World):Prop:=
 ∃A1 c1 A2 c2,a=.returned (.agg (iK r A1 c1 A2 c2))/\MdAt w' g gp most T2/\Keep (fun b=>b=gp) w w'/\Made w' w.heap.size 5 1 A1 r.data.length c1 (r.data.map bv)/\Made w' w.heap.size 3 1 A2 r.places.length c2 (r.places.map nv)
structure SpB (s:Sp):Prop where
 pb:-9223372036854775808<=s.p/\s.p<=9223372036854775807
 kb:-9223372036854775808<=s.k/\s.k<=9223372036854775807
 db:s.D.length<=549755813888
theorem aCt (B g gp:Nat) (most:Int) (T T2:List UInt8) (r:Told) (a:Sp) (A:Option Addr) (e c:Nat) (w:World) (d:MdAt w g gp most T) (K:B<=gp) (F:T.length<=549755813888) (l:RdM w B 1 A e (a.D.map bv)) (m:SpB a) (z:doM T most a.kind a.p a.k a.D=(T2,r)):
 Calls prog 30 #[g,.agg #[.int .i64 a.kind,.int .i64 a.p,.int .i64 a.k,.slice A e c]] w (aDR w g gp most T2 r):=by
 have M:a.D.length=e:=by simpa using l.1.1
 have I:0 < e->∀f,A=some f->f.block≠gp:=fun s f G i=>by obtain ⟨_,_,J,_⟩:=d.pl;rcases l.2 s f G with q |⟨t,cs,u,_,j⟩;omega;rw [i] at j;exact Bk.ne j J u rfl
 refine (aDV g gp A e c w.heap.size a.kind a.p a.k most T a.D T2 r z w d.mod d.pl l.1 nL I d.ne F (by have:=m.db;omega) m.pb m.kb ⟨d.b0,d.b1⟩).mono ?_;rintro i w' ⟨A1,c1,A2,c2,H,o,j,C,E⟩;exact ⟨A1,c1,A2,c2,H,⟨o.bk d.mod (fun i=>d.ne i),E,d.b0,d.b1⟩,o,j,C⟩
def ResM (w:World) (b0:Nat) (a:List Value) (k:Nat) (r:Told):Prop:=
 ∃A1 c1 A2 c2,a[k*4]?=some (.int .i64 r.code)/\a[k*4+1]?=some (.int .i64 r.num)/\a[k*4+2]?=some (.slice A1 r.data.length c1)/\a[k*4+3]?=some (.slice A2 r.places.length c2)/\Made w b0 5 1 A1 r.data.length c1 (r.data.map bv)/\Made w b0 3 1 A2 r.places.length c2 (r.places.map nv)
theorem Made.same {w w':World} {b n c:Nat} {a:TypeId} {A:Option Addr} {xs:List Value} (d:Made w b a 1 A n c xs) (k:∀g cs,b<=g->Bk w g a cs->Bk w' g a cs):Made w' b a 1 A n c xs:=by
 have e:w'.ownsRow b a 1 (.slice A n c) n xs:=aB d.own fun g cs i f=>k g cs (d.own.lt g i).1 f;exact ⟨e,Rd.of_own e,d.cap,d.max⟩
theorem Made.km {w w':World} {B b n c:Nat} {a:TypeId} {A:Option Addr} {xs:List Value} (d:Made w b a 1 A n c xs) (k:KM B w w') (e:a≠63) (f:a≠41):Made w' b a 1 A n c xs:=
 d.same fun g cs _ i=>k.bk _ _ _ e f i
theorem ResM.same {w w':World} {b0:Nat} {e:List Value} {k:Nat} {r:Told} (f:ResM w b0 e k r) (q:∀g t cs,b0<=g->t=5∨t=3->Bk w g t cs->Bk w' g t cs):ResM w' b0 e k r:=by
 obtain ⟨A1,c1,A2,c2,i,j,l,m,o,p⟩:=f;exact ⟨A1,c1,A2,c2,i,j,l,m,o.same fun g cs d a=>q g _ cs d (.inl rfl) a,p.same fun g cs d a=>q g _ cs d (.inr rfl) a⟩
theorem ResM.km {w w':World} {B b0:Nat} {a:List Value} {k:Nat} {r:Told} (d:ResM w b0 a k r) (q:KM B w w'):ResM w' b0 a k r:=by
 obtain ⟨A1,c1,A2,c2,e,f,i,j,l,m⟩:=d;exact ⟨A1,c1,A2,c2,e,f,i,j,l.km q dC dC,m.km q dC dC⟩
theorem ResM.more {w:World} {b0:Nat} {a i:List Value} {k:Nat} {r:Told} (j:ResM w b0 a k r):ResM w b0 (a++i) k r:=by
 obtain ⟨A1,c1,A2,c2,l,m,o,p,s⟩:=j;have q:∀(d:Nat) (e:Value),a[d]?=some e->(a++i)[d]?=some e:=fun d e f=>by rw [zAn (zAc.1 f).1];exact f
 exact ⟨A1,c1,A2,c2,q _ _ l,q _ _ m,q _ _ o,q _ _ p,s⟩
theorem Keep.grownK {f:Nat->Prop} {w w1 w':World} {e:TypeId} {sz n:Nat} {v:Value} {m:List Value} (a:Keep f w w1) (l:w1.ownsRow w.heap.size e sz v n m) (d:w1.grownBy w' v.ownBlock):Keep f w w':=
 ⟨d.os.trans a.os,d.tape.trans a.tape,d.output.trans a.output,zAk a.size d.size,fun b i j=>(d.block b (zAl i a.size) (fun e=>by have:=(l.lt b e.symm).1;omega)).trans (a.block b i j)⟩
theorem Keep.belowK {d:Nat->Prop} {w w1 w':World} (a:Keep d w w1) (k:Below w1.heap.size w1 w'):Keep d w w':=
 ⟨k.os.trans a.os,k.tape.trans a.tape,k.output.trans a.output,zAk a.size k.size,fun b e f=>(k.block b (zAl e a.size)).trans (a.block b e f)⟩
def nG (w:World) (B g gp:Nat) (most:Int) (T:Nat->List UInt8) (R:Nat->Told) (n:Nat) (d:Ending) (w':World):Prop:=
 ∃v a,d=.returned v/\w'.ownsRow w.heap.size 41 4 v n a/\(∀k,k < n->ResM w' w.heap.size a k (R k))/\MdAt w' g gp most (T n)/\KM B w w'/\Keep (fun b=>b=gp) w w'
theorem yQ (B g gp:Nat) (most:Int) (T:Nat->List UInt8) (R:Nat->Told) (A:Option Addr) (n c:Nat) (L:List Sp) (w:World) (M:MdAt w g gp most (T 0)) (ag:B<=gp) (a2:StpM w B A n L) (br:n<=100000) (e:∀a∈L,SpB a) (ah:∀k,(T k).length<=549755813888)
 (al:∀k a,L[k]?=some a->doM (T k) most a.kind a.p a.k a.D=(T (k+1),R k)):
 Calls prog 29 #[.func (Fn.func 30) #[g] #[],.slice A n c] w (nG w B g gp most T R n):=by
 obtain ⟨bl,bn,b6,bg,bh,bi,bj⟩:=mG;have N:B<=w.heap.size:=by have:=M.lt;omega
 obtain ⟨aE,aJ,aG,aI,aF,aM,a6⟩:=hqq7 M a2 a2.1 e al ah ag;clear M a2 e al ah ag;unfold nG;go_enter func29,ntmps29;go_wp2_with fail;go_loopw [5,10] (fun v a4 wr=>∃(k:Nat) (l:List Value),k<=n/\a4=.int .i64 (k:Int)/\wr.ownsRow w.heap.size 41 4 v k l/\(∀d,d < k->ResM wr w.heap.size l d (R d))/\MdAt wr g gp most (T k)/\KM B w wr/\Keep (fun b=>b=gp) w wr) (fun _ a4 _=>n -(intOf a4).toNat)
 case atStart=>exact ⟨0, [],by omega,rfl,World.ownsRow_nil _ _ _ _,fun d an=>absurd an oM,aE.out,KM.refl _ _,Keep.refl _ _⟩
 case round=>
  obtain ⟨k,l,bq,rfl,Z,a1,J,u,V⟩:=hrel;by_cases bb:k < n
  · obtain ⟨a,I⟩:∃a,L[k]?=some a:=⟨_,zAa (by rw [aG.out];exact bb)⟩;have a3:=u.sz;have az:=aJ.out.step u;obtain ⟨b0,bs,rfl,bp,_,aj⟩:=az.2 oM;obtain ⟨a5,md,af,aU,aV,aW,aX,ak⟩:=aj k a I;have E:Below wr.heap.size wr (wr.alloc (.cells #[.int .i64 a.kind,.int .i64 a.p,.int .i64 a.k,.slice a5 md af] 44)):=bR.alloc nL _;have S:=KM.of_below (B:=B) E (zAk N a3);have am:=aCt B g gp most (T k) (T (k+1)) (R k) a a5 md af _ (J.below E) a6.out (aM.out k) (ak.step S) (aI.out a (zAd I)) (aF.out k a I);obtain ⟨a7,ae,ac,a9,aS,i,a8,j,aa⟩:=hqq9 am J Z u a1 E S a3 V;clear J Z u a1 ak az aj am I E S a3 V;go_wp2_with fail;refine a7.out.mono ?_;rintro C w1 ⟨A1,c1,A2,c2,rfl,aA,G,ar,av⟩;have b5:=(ae.out.below i.out).pl;obtain ⟨_,_,a0,_⟩:=b5;have ap:=KM.of_do (B:=B) G a6.out (by have:=i.out.size;have:=j.out;omega) a0;have F:=a8.out.trans ap;have ax:w1.ownsRow w.heap.size 41 4 u5 k l:=aB (aH ac.out i.out) fun b cs _ e=>G.bk e (Bk.ne e a0 dC);obtain ⟨o,O⟩:=eqx ((R k).code);obtain ⟨z,Y⟩:=eqx ((R k).num);obtain ⟨n1,W⟩:=eqx ((R k).data.length);obtain ⟨n2,X⟩:∃bm,(R k).places.length=bm:=⟨_,rfl⟩;unfold iK;rw [O,Y,W,X];have f:Below w1.heap.size w1 (w1.alloc (.cells #[.int .i64 o,.int .i64 z,.slice A1 n1 c1,.slice A2 n2 c2] 41)):=bR.alloc nL _;have bd:=F.sz;have U:=(a9.out.trans F).trans (KM.of_below f (by have:=j.out;omega));have ao:=F.trans (KM.of_below (B:=B) f (by have:=j.out;omega));have ay:=aH ax f;have aC:=aA.below f;have au:=(ar.below f).mono (B':=w.heap.size) (by have:=j.out;have:=i.out.size;omega);have aw:=(av.below f).mono (B':=w.heap.size) (by have:=j.out;have:=i.out.size;omega);have aq:=((aa.out.belowK i.out).trans G).belowK f;obtain ⟨aR,m,aT,aQ,aO,ab,ad,aN⟩:=hqq8 aq ay aC U ao (And.intro au aw) (show w.heap.size<=(w1.alloc (.cells #[.int .i64 o,.int .i64 z,.slice A1 n1 c1,.slice A2 n2 c2] 41)).heap.size from U.sz) (And.intro O (And.intro Y (And.intro W X)));clear aq aa ax ay aA aC G ap F U ao ar av au aw f bd a0 O Y W X ae ac a9 i a8 j a7 aU aV aW aX;go_wp2_with (at_builtin;refine aP _ rfl (.tmp 14) (.tmp 18) _ rfl w.heap.size 41 bl bn 4 64 underlying33 b6 bg bh bi bj dC u5 k _ rfl m.out _ _ 1 1 _ rfl (oJ (Bk.new w1 41 #[.int .i64 o,.int .i64 z,.slice A1 n1 c1,.slice A2 n2 c2]) rfl) (by simp [Value.oneCell']) (by unfold maxLen;omega) oM ad.out ?_;intro bt aD bc s bo);have ai:∀b t cs,t≠41->Bk (w1.alloc (.cells #[.int .i64 o,.int .i64 z,.slice A1 n1 c1,.slice A2 n2 c2] 41)) b t cs->Bk aD b t cs:=fun b t cs bf e=>(s.block b e.lt (aK m.out e (fun C=>bf C.symm))).trans e;have H:KM B (w1.alloc (.cells #[.int .i64 o,.int .i64 z,.slice A1 n1 c1,.slice A2 n2 c2] 41)) aD:=⟨aL bR (aZ m.out N) s (zAk N ad.out),s.size,fun b t cs _ b4 e=>ai b t cs b4 e⟩;have be:=aT.out.keep s.size ai;have b9:=aQ.out.trans H;have b7:=aO.out.trans H;have ba:=aR.out.grownK m.out s;have K:l.length=k*4:=m.out.1;obtain ⟨aY,b1,b2,b3⟩:=aN.out;subst aY b1 b2 b3;go_roundw
    case rel=>refine ⟨k+1,_,by omega,by go_num,bc,fun d an=>?_,be,b9,ba⟩;by_cases C:d=k;subst C;refine ⟨A1,c1,A2,c2,?_,?_,?_,?_,ab.out.1.km H dC dC,ab.out.2.km H dC dC⟩;rw [zAo oM,K,Nat.sub_self];rfl;rw [zAo oM,K,show d*4+1 - d*4=1 by omega];rfl;rw [zAo oM,K,show d*4+2 - d*4=2 by omega];rfl;rw [zAo oM,K,show d*4+3 - d*4=3 by omega];rfl;exact ((aS.out d oM).km b7).more
    case measure=>simp [intOf];omega
  · have b8:k=n:=oM;subst b8;go_wp2_with fail;go_ret;exact ⟨_,l,rfl,Z,a1,J,u,V⟩
theorem gJ (B g gp:Nat) (most:Int) (T:Nat->List UInt8) (R:Nat->Told) (A:Option Addr) (n c:Nat) (L:List Sp) (w:World) (e:MdAt w g gp most (T 0)) (E:B<=gp) (l:StpM w B A n L) (F:n<=100000) (i:∀a∈L,SpB a) (f:∀k,(T k).length<=549755813888)
 (j:∀k a,L[k]?=some a->doM (T k) most a.kind a.p a.k a.D=(T (k+1),R k)):
 Calls prog 14 #[g,.slice A n c] w (nG w B g gp most T R n):=by
 have m:=yQ B g gp most T R A n c L w e E l F i f j;have d:=lhd m;clear e l i f j m;unfold nG at d⊢;go_enter func14,ntmps14;go_wp2_with fail;refine d.out.mono ?_;rintro H w1 ⟨v,G,rfl,o,s,u,z,C⟩;go_wp2_with fail;go_ret;exact ⟨v,G,rfl,o,s,u,z,C⟩
def txM (most:Int) (L:List Sp):Nat->List UInt8
 | 0=> []
 | k+1=>match L[k]? with
   | some a=>(doM (txM most L k) most a.kind a.p a.k a.D).1
   | none=>txM most L k
def anM (most:Int) (L:List Sp) (k:Nat):Told:=match L[k]? with
 | some a=>(doM (txM most L k) most a.kind a.p a.k a.D).2
 | none=>⟨0,0, [], []⟩
theorem aBk {most:Int} {L:List Sp} {k:Nat} {a:Sp} (d:L[k]?=some a):doM (txM most L k) most a.kind a.p a.k a.D=(txM most L (k+1),anM most L k):=by
 simp only [txM,anM,d]
section
variable {w w' : World} {b0 B gs n q : Nat} {own : Nat -> Nat} {v : Value} {R : Nat -> Told} {L : List Sp}
def AnsAt (w:World) (b0:Nat) (v:Value) (n:Nat) (R:Nat->Told):Prop:=∃a,w.ownsRow b0 41 4 v n a/\∀k,k < n->ResM w b0 a k (R k)
theorem AnsAt.same (f:AnsAt w b0 v n R) (k:∀g t cs,b0<=g->t=41∨t=5∨t=3->Bk w g t cs->Bk w' g t cs):AnsAt w' b0 v n R:=by
 obtain ⟨o,e,i⟩:=f;exact ⟨o,aB e fun g cs d a=>k g _ cs (e.lt g d).1 (.inl rfl) a,fun m j=>(i m j).same fun g t cs d l a=>k g t cs d (.inr l) a⟩
theorem AnsAt.below (d:AnsAt w b0 v n R) (k:Below w.heap.size w w'):AnsAt w' b0 v n R:=d.same fun g t cs _ _ a=>a.below k a.lt
theorem AnsAt.keep {gx:Nat} {a:TypeId} {cs0:Array Value} (e:AnsAt w b0 v n R) (k:Keep (fun b=>b=gx) w w') (hx:Bk w gx a cs0) (i:41≠a) (j:5≠a) (l:3≠a):AnsAt w' b0 v n R:=
 e.same fun g t cs _ f d=>k.bk d (Bk.ne d hx (by rcases f with rfl | rfl | rfl <;> assumption))
theorem AnsAt.slice (e:AnsAt w b0 v n R):∃A c,v=.slice A n c/\n<=c/\c<=maxLen:=by
 obtain ⟨i,f,_⟩:=e;obtain ⟨A,c,d,a⟩:=aF f;exact ⟨A,c,d,a.cap,a.max⟩
theorem AnsAt.get {A:Option Addr} {c:Nat} (e:AnsAt w b0 (.slice A n c) n R) (m:0 < n):∃g a,A=some ⟨g,a,none⟩/\g < w.heap.size/\∀k,k < n->∃A1 c1 A2 c2,w.cell? ⟨g,a+k*4,none⟩=some (.int .i64 (R k).code)/\w.cell? ⟨g,a+k*4+1,none⟩=some (.int .i64 (R k).num)/\w.cell? ⟨g,a+k*4+2,none⟩=some (.slice A1 (R k).data.length c1)/\w.cell? ⟨g,a+k*4+3,none⟩=some (.slice A2 (R k).places.length c2)/\Made w b0 5 1 A1 (R k).data.length c1 ((R k).data.map bv)/\Made w b0 3 1 A2 (R k).places.length c2 ((R k).places.map nv):=by
 obtain ⟨D,f,i⟩:=e;obtain ⟨g,a,rfl,j,d⟩:=(Rd.of_own f).2 m;refine ⟨g,a,rfl,j,fun k l=>?_⟩;obtain ⟨A1,c1,A2,c2,s,u,z,C,o,p⟩:=i k l;exact ⟨A1,c1,A2,c2,d _ _ s,d _ _ u,d _ _ z,d _ _ C,o,p⟩
def StpR (w:World) (b0:Nat) (v:Value) (q:Nat) (L:List Sp):Prop:=∃xs,w.ownsRow b0 44 4 v q xs/\StpsAt w b0 xs L
theorem StpR.same (f:StpR w b0 v q L) (k:∀g t cs,b0<=g->t=44∨t=5->Bk w g t cs->Bk w' g t cs):StpR w' b0 v q L:=by
 obtain ⟨xs,e,i⟩:=f;exact ⟨xs,aB e fun g cs d a=>k g _ cs (e.lt g d).1 (.inl rfl) a,i.keep fun g cs d a=>k g _ cs d (.inr rfl) a⟩
theorem StpR.below (d:StpR w b0 v q L) (k:Below w.heap.size w w'):StpR w' b0 v q L:=d.same fun g t cs _ _ a=>a.below k a.lt
theorem StpR.keep {gx:Nat} {a:TypeId} {cs0:Array Value} (e:StpR w b0 v q L) (k:Keep (fun b=>b=gx) w w') (hx:Bk w gx a cs0) (i:44≠a) (j:5≠a):StpR w' b0 v q L:=
 e.same fun g t cs _ f d=>k.bk d (Bk.ne d hx (by rcases f with rfl | rfl <;> assumption))
theorem StpR.slice (e:StpR w b0 v q L):∃A c,v=.slice A q c/\q<=c/\c<=maxLen:=by
 obtain ⟨i,f,_⟩:=e;obtain ⟨A,c,d,a⟩:=aF f;exact ⟨A,c,d,a.cap,a.max⟩
theorem StpR.row {A:Option Addr} {c:Nat} (m:StpR w b0 (.slice A q c) q L) (E:0 < q):∃g cs,A=some ⟨g,0,none⟩/\b0<=g/\g < w.heap.size/\Bk w g 44 cs/\∀k d,L[k]?=some d->∃A1 f c1,w.cell? ⟨g,0+k*4,none⟩=some (.int .i64 d.kind)/\w.cell? ⟨g,0+k*4+1,none⟩=some (.int .i64 d.p)/\w.cell? ⟨g,0+k*4+2,none⟩=some (.int .i64 d.k)/\w.cell? ⟨g,0+k*4+3,none⟩=some (.slice A1 f c1)/\DataAt w b0 A1 f c1 d.D:=by
 obtain ⟨xs,i,o⟩:=m;obtain ⟨g,M,l,C,e⟩:=(Rd.of_own i).2 E;subst l;rcases i.2 with ⟨a,_⟩|⟨g',K,j,a,s,u,_⟩
 · cases a
 injection a with a _ _;injection a with a;injection a with a e2 _;subst a e2;refine ⟨g,j,rfl,s,C,u,fun k d F=>?_⟩;obtain ⟨A1,f,c1,G,H,I,J,z⟩:=o.get F;exact ⟨A1,f,c1,e _ _ G,e _ _ H,e _ _ I,e _ _ J,z⟩
theorem StpR.get {A:Option Addr} {c:Nat} (f:StpR w b0 (.slice A q c) q L) (l:0 < q):∃g a,A=some ⟨g,a,none⟩/\g < w.heap.size/\∀k s,L[k]?=some s->∃A1 d c1,w.cell? ⟨g,a+k*4,none⟩=some (.int .i64 s.kind)/\w.cell? ⟨g,a+k*4+1,none⟩=some (.int .i64 s.p)/\w.cell? ⟨g,a+k*4+2,none⟩=some (.int .i64 s.k)/\w.cell? ⟨g,a+k*4+3,none⟩=some (.slice A1 d c1)/\DataAt w b0 A1 d c1 s.D:=by
 obtain ⟨g,cs,e,_,j,_,i⟩:=f.row l;exact ⟨g,0,e,j,i⟩
theorem DataAt.rdM {A:Option Addr} {i c:Nat} {d:List UInt8} (f:DataAt w b0 A i c d):RdM w B 1 A i (d.map bv):=
 ⟨f.rd,fun p l a=>by
  obtain ⟨_,_,_,⟨e,m,_⟩|⟨g,cs,e,o,j,_⟩⟩:=f;omega
  · rw [e] at a;injection a with a;subst a;exact .inr ⟨_,cs,by decide,by decide,j⟩⟩
theorem StpR.stpM {A:Option Addr} {c:Nat} (d:StpR w b0 (.slice A q c) q L) (e:L.length=q):StpM w B A q L:=
 ⟨e,fun m=>by
  obtain ⟨g,cs,a,E,l,f,i⟩:=d.row m;refine ⟨g,0,a,l,.inr ⟨_,cs,by decide,by decide,f⟩,fun k s o=>?_⟩;obtain ⟨A1,p,c1,u,z,C,D,j⟩:=i k s o;exact ⟨A1,p,c1,u,z,C,D,j.rdM⟩⟩
end
theorem AnsAt.of_plain {w w':World} {n:Nat} {v:Value} {R:Nat->Told} {a:List Value} (d:w'.ownsRow w.heap.size 41 4 v n a) (e:∀k,k < n->ResM w' w.heap.size a k (R k)):AnsAt w' w.heap.size v n R:=⟨a,d,e⟩
theorem AnsAt.mono {w:World} {b0 b1 n:Nat} {v:Value} {R:Nat->Told} (d:AnsAt w b0 v n R) (a:b1<=b0):AnsAt w b1 v n R:=by
 obtain ⟨u,e,f⟩:=d;refine ⟨u,aZ e a,fun k i=>?_⟩;obtain ⟨A1,c1,A2,c2,m,o,p,s,j,l⟩:=f k i;exact ⟨A1,c1,A2,c2,m,o,p,s,j.mono a,l.mono a⟩
theorem kY (w:World) (B:Nat):Below B w w.drew:=⟨rfl,rfl,rfl,zAs _,fun _ _=>rfl⟩
section
variable {w w' : World} {B g gp ga gpa N1 n q : Nat} {v vx : Value} {R : Nat -> Told} {most : Int} {T T2 : List UInt8}
theorem MdAt.keepX (o:MdAt w ga gpa most T) (k:Keep (fun b=>b=gp) w w') (D:gpa≠gp) {cs0:Array Value} (m:Bk w gp 63 cs0):MdAt w' ga gpa most T:=by
 obtain ⟨j,⟨A,c,p,s,u,i⟩,z,C⟩:=o;have l:0 < T.length->∀a,A=some a->a.block≠gp:=fun d a e=>by obtain ⟨_,cs,f⟩:=i d a e;exact Bk.ne f m dC
 exact ⟨k.bk j (Bk.ne j m dC),⟨A,c,k.bk p D,Rd.keepF s k nL l,u,fun d a e=>⟨(i d a e).1,by
  obtain ⟨_,cs,f⟩:=i d a e;exact ⟨cs,k.bk f (l d a e)⟩⟩⟩,z,C⟩
def uA (a:Stp):Sp:=⟨a.kind,a.p,a.k,a.D⟩
theorem rX {A:Option Addr} {a:List Stp} (F:Rd w B 4 A n (aR a)) (C:a.length=n) (z:∀j∈a,Rd w B 1 j.A j.n (j.D.map bv)) (p:B<=w.heap.size):StpM w B A n (a.map uA):=
 ⟨by simp [C],fun o=>by
  obtain ⟨b,G,rfl,s,i⟩:=F.2 o;refine ⟨b,G,rfl,by omega,.inl s,fun k j e=>?_⟩;rw [zAf] at e;cases d:a[k]? with
  | none=>rw [d] at e;cases e
  | some x=>
    rw [d] at e;injection e with e;subst e;refine ⟨x.A,x.n,x.c,i (k*4+0) _ ((dH a k 0 x d oM).trans rfl),i (k*4+1) _ ((dH a k 1 x d oM).trans rfl),i (k*4+2) _ ((dH a k 2 x d oM).trans rfl),i (k*4+3) _ ((dH a k 3 x d oM).trans rfl),?_⟩;have l:=z x (zAd d)
    exact ⟨l.mono p,fun E H f=>by
        obtain ⟨I,J,m,u,_⟩:=l.2 E;rw [m] at f;injection f with f;subst f;exact .inl u⟩⟩
theorem pU (a:List Stp) (k:Nat):(aR a).take (k*4)=aR (a.take k):=by
 induction a generalizing k with
 | nil=>simp [aR]
 | cons d a j=>
   rcases k with _ | k
   · simp [aR]
   · have e:aR (d::a)=dI d++aR a:=(by simp [aR]);have f:aR (d::a.take k)=dI d++aR (a.take k):=(by simp [aR]);have i:(dI d).length=4:=rfl;rw [List.take_succ_cons,e,f,List.take_append,i,<-j,zAg oM,show (k+1)*4 - 4=k*4 by omega]
theorem pX (a:List Stp) (k:Nat):(aR a).drop (k*4)=aR (a.drop k):=by
 induction a generalizing k with
 | nil=>simp [aR]
 | cons d a i=>
   rcases k with _ | k
   · simp
   have e:aR (d::a)=dI d++aR a:=(by simp [aR]);have f:(dI d).length=4:=rfl;rw [List.drop_succ_cons,e,List.drop_append,f,<-i,List.drop_eq_nil_of_le oM,show (k+1)*4 - 4=k*4 by omega];rfl
theorem AnsAt.app {b0 n1 n2:Nat} {s u:Value} {e i:List Value} (m:w.ownsRow b0 41 4 s n1 e) (M:∀k,k < n1->ResM w b0 e k (R k)) (K:∀k,k < n2->ResM w b0 i k (R (n1+k))) (H:w'.ownsRow b0 41 4 u (n1+n2) (e++i)) (G:w.grownBy w' s.ownBlock):AnsAt w' b0 u (n1+n2) R:=by
 have a:∀b t cs,t=5∨t=3->Bk w b t cs->Bk w' b t cs:=fun b t cs j a=>(G.block b a.lt (aK m a (by rcases j with rfl | rfl <;> decide))).trans a;have J:e.length=n1*4:=m.1;refine ⟨e++i,H,fun k O=>?_⟩;by_cases F:k < n1;exact ((M k F).same fun g t cs _ j f=>a g t cs j f).more
 · obtain ⟨A1,c1,A2,c2,z,C,D,E,o,p⟩:=K (k - n1) oM;rw [show n1+(k - n1)=k by omega] at z C D E o p;have q:∀d l,d < 4->i[(k - n1)*4+d]?=some l->(e++i)[k*4+d]?=some l:=fun d l N I=>by rw [zAo oM,J,show k*4+d - n1*4=(k - n1)*4+d by omega];exact I
   exact ⟨A1,c1,A2,c2,q 0 _ oM z,q 1 _ oM C,q 2 _ oM D,q 3 _ oM E,o.same fun g cs _ f=>a g _ cs (.inl rfl) f,p.same fun g cs _ f=>a g _ cs (.inr rfl) f⟩
theorem AnsAt.sep {n1:Nat} {l:Value} {z:List Value} (d:AnsAt w 0 vx q R) (u:∀b,vx.ownBlock=some b->b < N1) (j:w.ownsRow N1 41 4 l n1 z) (i:w.grownBy w' l.ownBlock):AnsAt w' 0 vx q R:=by
 obtain ⟨xs,o,p⟩:=d;have a:∀b t cs,t=5∨t=3->Bk w b t cs->Bk w' b t cs:=fun b t cs e a=>(i.block b a.lt (aK j a (by rcases e with rfl | rfl <;> decide))).trans a;exact ⟨xs,aB o fun b cs a f=>(i.block b f.lt (fun m=>by have:=(j.lt b m.symm).1;have:=u b a;omega)).trans f,fun k s=>(p k s).same fun g t cs _ e d=>a g t cs e d⟩
theorem aCK {f:List Value} (z:f.length=n*4) (j:∀k,k < n->ResM w N1 f k (R k)):∀i∈f,i.oneCell'=true:=by
 intro i l;obtain ⟨e,a⟩:=List.getElem?_of_mem l;have u:=(zAc.1 a).1;obtain ⟨A1,c1,A2,c2,m,o,p,s,_,_⟩:=j (e / 4) oM;have d:e=e / 4*4∨e=e / 4*4+1∨e=e / 4*4+2∨e=e / 4*4+3:=oM;rcases d with d | d | d | d;rw [d,m] at a;injection a with a;subst a;rfl;rw [d,o] at a;injection a with a;subst a;rfl;rw [d,p] at a;injection a with a;subst a;rfl;rw [d,s] at a;injection a with a;subst a;rfl
def aAC (N1:Nat) (v:Value) (w:World):Prop:=∃g,v=.slice (some ⟨g,0,none⟩) 0 0/\N1<=g/\Bk w g 41 #[]
theorem xS (d:aAC N1 v w) (k:Below w.heap.size w w'):aAC N1 v w':=by
 obtain ⟨g,e,f,a⟩:=d;exact ⟨g,e,f,a.below k a.lt⟩
theorem rC {cs0:Array Value} (d:aAC N1 v w) (i:Bk w gp 63 cs0) (k:Keep (fun b=>b=gp) w w'):aAC N1 v w':=by
 obtain ⟨g,e,f,a⟩:=d;exact ⟨g,e,f,k.bk a (Bk.ne a i dC)⟩
def PtS (gp:Nat) (most:Int) (gb:Nat) (T1 T2:List UInt8) (a:Nat) (w w':World):Prop:=(a=5->Keep (fun b=>b=gp) w w'/\MdAt w' gb gp most T1)/\(a=11->Keep (fun b=>b=gp) w w'/\MdAt w' gb gp most T2)/\(a≠5->a≠11->Below w.heap.size w w')
def PtC (W0:World) (B N1 gp ga gpa:Nat) (most:Int) (Ta:List UInt8) (vx:Value) (q:Nat) (R:Nat->Told) (w:World):Prop:=Below B W0 w/\B<=w.heap.size/\N1<=w.heap.size/\(∃cs,Bk w gp 63 cs)/\AnsAt w 0 vx q R/\MdAt w ga gpa most Ta
def PtU (gb gp:Nat) (most:Int) (T1:List UInt8) (d:Bool) (a:Nat) (w:World):Prop:=(a=5->MdAt w gb gp most [])/\(a=11->MdAt w gb gp most (if d then T1 else []))
variable {W0 : World} {gb : Nat} {Ta T1 : List UInt8}
theorem PtC.step {j:Nat} (z:PtC W0 B N1 gp ga gpa most Ta vx q R w) (k:PtS gp most gb T1 T2 j w w') (E:B<=gp) (C:gpa≠gp):PtC W0 B N1 gp ga gpa most Ta vx q R w':=by
 obtain ⟨l,f,m,⟨cs,i⟩,o,p⟩:=z;have s:Keep (fun b=>b=gp) w w'->(∃cs,Bk w' gp 63 cs)->PtC W0 B N1 gp ga gpa most Ta vx q R w':=fun d e=>
  ⟨l.trans (d.to_below f fun b a u=>by have D:b=gp:=u;omega),zAk f d.size,zAk m d.size,e,o.keep d i dC dC dC,p.keepX d C i⟩
 by_cases c1:j=5;obtain ⟨d,e⟩:=k.1 c1;obtain ⟨_,_,a,_⟩:=e.pl;exact s d ⟨_,a⟩;by_cases c2:j=11;obtain ⟨d,e⟩:=k.2.1 c2;obtain ⟨_,_,a,_⟩:=e.pl;exact s d ⟨_,a⟩;have a:=k.2.2 c1 c2;exact ⟨l.trans (a.mono f),zAk f a.size,zAk m a.size,⟨cs,i.below a i.lt⟩,o.below a,p.below a⟩
theorem PtC.drew (a:PtC W0 B N1 gp ga gpa most Ta vx q R w):PtC W0 B N1 gp ga gpa most Ta vx q R w.drew:=by
 obtain ⟨d,e,f,⟨cs,i⟩,j,l⟩:=a;exact ⟨d.trans (kY w B),e,f,⟨cs,i⟩,j.below (kY w _),l.below (kY w _)⟩
theorem PtU.step {i:Bool} {e d:Nat} (j:PtU gb gp most T1 i e w) (k:PtS gp most gb T1 T2 d w w') (l:e≠d) (m:e=5->d≠11):PtU gb gp most T1 (i||decide (d=5)) e w':=by
 refine ⟨fun a=>?_,fun a=>?_⟩;exact (j.1 a).below (k.2.2 (fun f=>l (a.trans f.symm)) (m a));by_cases c1:d=5;rw [zBx c1,Bool.or_true];exact (k.1 c1).2;rw [zBw c1,Bool.or_false];exact (j.2 a).below (k.2.2 c1 (fun f=>l (a.trans f.symm)))
theorem gK {d:Nat} (e:d≠5) (f:d≠11) (k:Below w.heap.size w w'):PtS gp most gb T1 T2 d w w':=⟨fun a=>absurd a e,fun a=>absurd a f,fun _ _=>k⟩
def PtV (gb gp:Nat) (most:Int) (T2:List UInt8) (N1 q:Nat) (R:Nat->Told) (v:Value) (w:World):Prop:=AnsAt w N1 v q R/\MdAt w gb gp most T2
theorem aDx {T:Nat->List UInt8} (l:N1<=w.heap.size) (o:nG w B gb gp most T R q (.returned v) w') (m:T q=T1):AnsAt w' N1 v q R/\PtS gp most gb T1 T2 5 w w':=by
 obtain ⟨s,u,d,f,i,e,p,j⟩:=o;injection d with d;subst d;rw [m] at e;exact ⟨(AnsAt.of_plain f i).mono l,fun _=>⟨j,e⟩,fun a=>absurd a dC,fun a=>absurd rfl a⟩
theorem aCP {T:Nat->List UInt8} (l:N1<=w.heap.size) (o:nG w B gb gp most T R q (.returned v) w') (m:T q=T2):PtV gb gp most T2 N1 q R v w'/\PtS gp most gb T1 T2 11 w w':=by
 obtain ⟨s,u,e,f,i,d,p,j⟩:=o;injection e with e;subst e;rw [m] at d;exact ⟨⟨(AnsAt.of_plain f i).mono l,d⟩,fun a=>absurd a dC,fun _=>⟨j,d⟩,fun _ a=>absurd rfl a⟩
end
section
variable {w w' : World} {B g : Nat} {own : Nat -> Nat} {cs0 : Array Value}
theorem WaveE.farT {f:Nat} {L:List Nat} (a:WaveE w B own f L) (k:Keep (fun b=>b=g) w w') (d:Bk w g 41 cs0):WaveE w' B own f L:=by
 obtain ⟨l,v,a⟩:=a;refine ⟨l,v,k.bk a.blk (Bk.ne a.blk d dC),a.base,fun D z=>?_,fun b d=>⟨(a.bnd b d).1,zAl (a.bnd b d).2 k.size⟩⟩;obtain ⟨j,p,s,u⟩:=a.rows D z;exact ⟨j,aB p fun b cs _ e=>k.bk e (Bk.ne e d dC),s,fun E C=>(u E C).keep k fun b t cs i e _ m=>by
  have o:b=g:=m;subst o;rw [(bL e d).1] at i;exact absurd i dC⟩
theorem WalkE.farT {gk:Nat} {L T:List Nat} (i:WalkE w B own gk L T) (k:Keep (fun b=>b=g) w w') (a:Bk w g 41 cs0):WalkE w' B own gk L T:=by
 obtain ⟨f,gt,d,j,l,e,m⟩:=i;exact ⟨f,gt,k.bk d (Bk.ne d a dC),j,l.farT k a,k.bk e (Bk.ne e a dC),m⟩
theorem PermE.farT {f:Nat->Prop} {gp R P:Nat} {i:List (Nat×Nat)} (o:PermE w f gp R P i) (k:Keep (fun b=>b=g) w w') (e:Bk w g 41 cs0):PermE w' f gp R P i:=by
 obtain ⟨⟨ga,D,E,F,C,u,j,z,m,hx,l⟩,p,s⟩:=o;have a:=hx.at_;exact ⟨⟨ga,D,E,F,C,u,j,z,m,⟨⟨k.bk a.blk (Bk.ne a.blk e dC),aB a.lrow fun b cs _ d=>k.bk d (Bk.ne d e dC),aB a.orow fun b cs _ d=>k.bk d (Bk.ne d e dC),k.bk a.ar (Bk.ne a.ar e dC),aB a.trow fun b cs _ d=>k.bk d (Bk.ne d e dC),aB a.frow fun b cs _ d=>k.bk d (Bk.ne d e dC),a.apart,a.lt,a.lo⟩,hx.fp,hx.fa,hx.fl,hx.fo,hx.ft,hx.ff,hx.nd,hx.tkl,hx.tkk,hx.frn,hx.frk,hx.sz⟩,l⟩,p,s⟩
theorem LiveE.farT {gl rate:Nat} {t:List UInt8} (e:LiveE w B own gl t rate) (k:Keep (fun b=>b=g) w w') (d:Bk w g 41 cs0):LiveE w' B own gl t rate:=by
 obtain ⟨gk,gp,m,T,p,o,⟨f,a,i,j⟩,l⟩:=e;exact ⟨gk,gp,m,T,p,o,⟨f,⟨k.bk a.blk (Bk.ne a.blk d dC),a.col,a.walk.farT k d,a.perm.farT k d⟩,i,j⟩,l⟩
theorem StAt.farT {gs gl most rate:Nat} {t:List UInt8} (a:StAt w B own gs gl most rate t) (k:Keep (fun b=>b=g) w w') (d:Bk w g 41 cs0):StAt w' B own gs gl most rate t:=
 ⟨k.bk a.blk (Bk.ne a.blk d dC),a.low,a.col,a.live.farT k d,a.n127,a.len,a.max,a.r1,a.r2⟩
end
section
variable {P : Program} {ops : Array Oper} {Q : Exit -> Act -> World -> Prop} {md : Region.Mode}
end
section
variable {w w' : World} {B gs gs1 gs2 gl1 gl2 most rate : Nat} {own own' own1 own2 own2' : Nat -> Nat} {T T2 : List UInt8} {r : Told} {v : Value}
def DoS (B gs:Nat) (own:Nat->Nat) (most rate:Nat) (T2:List UInt8) (w w':World):Prop:=∃own' a,StAt w' B own' gs a most rate T2/\LFS B gs w w' own own'
def ResD (w:World) (own:Nat->Nat) (gs:Nat) (r:Told) (v:Value):Prop:=∃A1 c1 A2 c2,v=.agg (iK r A1 c1 A2 c2)/\MadeZ w own gs 5 A1 r.data.length c1 (r.data.map bv)/\MadeZ w own gs 3 A2 r.places.length c2 (r.places.map nv)
theorem MadeZ.stepC {a:TypeId} {A:Option Addr} {n c:Nat} {xs:List Value} (d:MadeZ w own gs a A n c xs) (k:LFS B gs w w' own own') (i:a≠288) (j:a≠229):MadeZ w' own gs a A n c xs:=⟨(d.step k i j).1,fun e f=>⟨zAl (d.2 e f).1 k.size,(d.2 e f).2⟩⟩
theorem ResD.step (a:ResD w own gs r v) (k:LFS B gs w w' own own'):ResD w' own gs r v:=by
 obtain ⟨A1,c1,A2,c2,rfl,d,e⟩:=a;exact ⟨A1,c1,A2,c2,rfl,d.stepC k dC dC,e.stepC k dC dC⟩
theorem ResD.below (a:ResD w own gs r v) (k:Below w.heap.size w w'):ResD w' own gs r v:=a.step (LFS.of_below 0 gs own k)
def OneDone (w:World) (B gs1 gs2:Nat) (own2:Nat->Nat) (most rate:Nat) (T2:List UInt8) (r:Told) (v:Value):Prop:=∃a d,StAt w B a gs1 d most rate T2/\Two a gs1 own2 gs2/\ResD w own2 gs2 r v
def BothDone (w:World) (B gs1 gs2 most rate:Nat) (T2:List UInt8) (r:Told) (v:Value):Prop:=∃a d own2' e,StAt w B a gs1 d most rate T2/\StAt w B own2' gs2 e most rate T2/\Two a gs1 own2' gs2/\∃A1 c1 A2 c2,v=.agg (iK r A1 c1 A2 c2)/\Made w 0 5 1 A1 r.data.length c1 (r.data.map bv)/\Made w 0 3 1 A2 r.places.length c2 (r.places.map nv)
theorem OneDone.below (d:OneDone w B gs1 gs2 own2 most rate T2 r v) (k:Below w.heap.size w w'):OneDone w' B gs1 gs2 own2 most rate T2 r v:=by
 obtain ⟨j,a,e,f,i⟩:=d;exact ⟨j,a,e.vb (Vis.of_below k),f,i.below k⟩
theorem BothDone.below (e:BothDone w B gs1 gs2 most rate T2 r v) (k:Below w.heap.size w w'):BothDone w' B gs1 gs2 most rate T2 r v:=by
 obtain ⟨o,a,own2',d,f,i,j,A1,c1,A2,c2,rfl,l,m⟩:=e;exact ⟨o,a,own2',d,f.vb (Vis.of_below k),i.vb (Vis.of_below k),j,A1,c1,A2,c2,rfl,l.below k,m.below k⟩
def aD6 (d e B gs1 gs2:Nat) (own1 own2:Nat->Nat) (most rate:Nat) (T2:List UInt8) (a:Nat) (w w':World):Prop:=(a=d->DoS B gs1 own1 most rate T2 w w')/\(a=e->DoS B gs2 own2 most rate T2 w w')/\(a≠d->a≠e->Below w.heap.size w w')
def DuoC (W0:World) (B gt:Nat) (cs:Array Value) (w:World):Prop:=Bk w gt 44 cs/\Below B W0 w/\B<=w.heap.size
def DuoU (d e B gs1 gl1 gs2 gl2:Nat) (own1 own2:Nat->Nat) (most rate:Nat) (T:List UInt8) (a:Nat) (w:World):Prop:=(a=d->StAt w B own1 gs1 gl1 most rate T/\StAt w B own2 gs2 gl2 most rate T)/\(a=e->StAt w B own2 gs2 gl2 most rate T)
theorem DuoC.step {W0:World} {gt j o p:Nat} {cs:Array Value} (u:DuoC W0 B gt cs w) (k:aD6 o p B gs1 gs2 own1 own2 most rate T2 j w w') (l:Ap own1 gs1 gt) (m:Ap own2 gs2 gt):DuoC W0 B gt cs w':=by
 obtain ⟨e,f,d⟩:=u;by_cases c1:j=o;obtain ⟨own',s,_,a⟩:=k.1 c1;exact ⟨a.bk e l.col l.ne dC dC,f.trans (a.below d),zAk d a.size⟩;by_cases c2:j=p;obtain ⟨own',s,_,a⟩:=k.2.1 c2;exact ⟨a.bk e m.col m.ne dC dC,f.trans (a.below d),zAk d a.size⟩;have i:=k.2.2 c1 c2;exact ⟨e.below i e.lt,f.trans (i.mono d),zAk d i.size⟩
theorem eQ (w:World) (B:Nat):Below B w w.drew:=⟨rfl,rfl,rfl,zAs _,fun _ _=>rfl⟩
theorem DuoC.drew {W0:World} {gt:Nat} {cs:Array Value} (a:DuoC W0 B gt cs w):DuoC W0 B gt cs w.drew:=⟨a.1,a.2.1.trans (eQ w B),a.2.2⟩
theorem DuoU.drew {e f i:Nat} (d:DuoU f i B gs1 gl1 gs2 gl2 own1 own2 most rate T e w):DuoU f i B gs1 gl1 gs2 gl2 own1 own2 most rate T e w.drew:=⟨fun a=>⟨(d.1 a).1.vb (Vis.of_below (eQ _ _)),(d.1 a).2.vb (Vis.of_below (eQ _ _))⟩,fun a=>(d.2 a).vb (Vis.of_below (eQ _ _))⟩
theorem DuoU.step {j e f i:Nat} (l:DuoU f i B gs1 gl1 gs2 gl2 own1 own2 most rate T j w) (k:aD6 f i B gs1 gs2 own1 own2 most rate T2 e w w') (C:Two own1 gs1 own2 gs2) (u:j≠e) (o:e≠i):DuoU f i B gs1 gl1 gs2 gl2 own1 own2 most rate T j w':=by
 refine ⟨fun a=>?_,fun a=>?_⟩;have m:=k.2.2 (fun p=>u (a.trans p.symm)) o;obtain ⟨s,d⟩:=l.1 a;exact ⟨s.vb (Vis.of_below m),d.vb (Vis.of_below m)⟩;have d:=l.2 a;by_cases c1:e=f;obtain ⟨own',D,_,z⟩:=k.1 c1;exact (d.other z C).1;exact d.vb (Vis.of_below (k.2.2 c1 o))
end
theorem zC {d:Nat} {a k:Int} (f:¬dL d a k=false):0<=a/\0<=k/\a+k<=(d:Int):=by
 cases e:dL d a k with
 | false=>exact absurd e f
 | true=>
   obtain ⟨i,b,rfl,rfl,j⟩:=lJ e;omega
theorem aB8 (T u:List UInt8) (most:Nat) (d z k:Int) (a:T.length<=most):(doM T (most:Int) d z k u).1.length<=most:=by
 unfold doM;by_cases f:d=1
 · rw [zBv f];split;exact a
   · split;exact a
     · rename_i e C
       have:=zC e;simp only [zAi,zAj,zAv];omega
 rw [zBu f];by_cases i:d=2;rw [zBv i];split;exact a;simp only [zAi,zAj,zAv];omega;rw [zBu i];by_cases m:d=5
 · rw [zBv m];split <;> exact a
 rw [zBu m];by_cases j:d=3
 · rw [zBv j];split;exact a
   · rename_i e
     have:=zC e;simp only [zAi,zAj,zAv];omega
 rw [zBu j];by_cases l:d=4;rw [zBv l];exact a;rw [zBu l];by_cases o:d=6;rw [zBv o];exact a;rw [zBu o];by_cases p:d=7;rw [zBv p];exact a;rw [zBu p];by_cases s:d=8;rw [zBv s];exact a;rw [zBu s];exact a
section
variable {P : Program} {ops : Array Oper} {Q : Exit -> Act -> World -> Prop} {md : Region.Mode}
end
section
variable {w w' : World} {v : Value}
def fresh (N0:Nat) (t:TypeId) (cs:Array Value):Value->World->Prop:=fun v w=>∃g,v=.pointer (some ⟨g,0,none⟩)/\N0<=g/\Bk w g t cs
def aD9:Array Value:=#[.int .i64 0,.int .i64 0,.slice none 0 0,.slice none 0 0]
variable {B gs gl gx gt N0 most rate : Nat} {own own' : Nat -> Nat} {T T2 : List UInt8} {r : Told}
def MdX (w:World) (gx most:Nat) (T:List UInt8):Prop:=Bk w gx 38 #[.string ⟨T.toArray⟩,(most:Int)]
def PyA (B gs gx N0 most rate:Nat) (T2:List UInt8) (r:Told) (v:Value) (w:World):Prop:=∃own1 gl1,StAt w B own1 gs gl1 most rate T2/\Ap own1 gs gx/\∃A1 c1 A2 c2,v=.agg (iK r A1 c1 A2 c2)/\Made w N0 5 1 A1 r.data.length c1 (r.data.map bv)/\Made w N0 3 1 A2 r.places.length c2 (r.places.map nv)
theorem PyA.below (a:PyA B gs gx N0 most rate T2 r v w) (k:Below w.heap.size w w'):PyA B gs gx N0 most rate T2 r v w':=by
 obtain ⟨own1,gl1,d,e,A1,c1,A2,c2,f,i,j⟩:=a;exact ⟨own1,gl1,d.vb (Vis.of_below k),e,A1,c1,A2,c2,f,i.below k,j.below k⟩
theorem PyA.keep (f:PyA B gs gx N0 most rate T2 r v w) (k:Keep (fun b=>b=gx) w w') (hx:gx < N0):PyA B gs gx N0 most rate T2 r v w':=by
 obtain ⟨own1,gl1,i,e,A1,c1,A2,c2,j,l,m⟩:=f;exact ⟨own1,gl1,i.far k (fun b a=>by have d:b=gx:=a;rw [d];exact e),e,A1,c1,A2,c2,j,l.keepF k (fun b a=>by have d:b=gx:=a;omega),m.keepF k (fun b a=>by have d:b=gx:=a;omega)⟩
def PyB (gx N0 most:Nat) (T2:List UInt8) (r:Told) (v:Value) (w:World):Prop:=∃A1 c1 A2 c2,v=.agg (iK r A1 c1 A2 c2)/\RdN w N0 1 A1 r.data.length (r.data.map bv)/\Made w N0 3 1 A2 r.places.length c2 (r.places.map nv)/\MdX w gx most T2
theorem PyB.below (d:PyB gx N0 most T2 r v w) (k:Below w.heap.size w w'):PyB gx N0 most T2 r v w':=by
 obtain ⟨A1,c1,A2,c2,e,f,i,a⟩:=d;exact ⟨A1,c1,A2,c2,e,f.below k,i.below k,Bk.below a k (Bk.lt a)⟩
def PyS (d e B gs gx:Nat) (own:Nat->Nat) (most rate:Nat) (T2:List UInt8) (a:Nat) (w w':World):Prop:=(a=d->DoS B gs own most rate T2 w w')/\(a=e->Keep (fun b=>b=gx) w w'/\MdX w' gx most T2)/\(a≠d->a≠e->Below w.heap.size w w')
def PyC (W0:World) (B gx gt N0 most:Nat) (cs:Array Value) (w:World):Prop:=Bk w gt 44 cs/\Below B W0 w/\B<=w.heap.size/\N0<=w.heap.size/\∃a,MdX w gx most a
def PyU (d e B gs gl gx:Nat) (own:Nat->Nat) (most rate:Nat) (T:List UInt8) (a:Nat) (w:World):Prop:=(a=d->StAt w B own gs gl most rate T)/\(a=e->MdX w gx most T)
theorem PyC.step {W0:World} {p C D:Nat} {cs:Array Value} (E:PyC W0 B gx gt N0 most cs w) (k:PyS C D B gs gx own most rate T2 p w w') (u:Ap own gs gt) (z:Ap own gs gx) (G:gt≠gx) (J:B<=gx):PyC W0 B gx gt N0 most cs w':=by
 obtain ⟨f,l,a,m,s,o⟩:=E;by_cases c1:p=C;obtain ⟨own',I,_,e⟩:=k.1 c1;exact ⟨e.bk f u.col u.ne dC dC,l.trans (e.below a),zAk a e.size,zAk m e.size,s,e.bk o z.col z.ne dC dC⟩;by_cases c2:p=D;obtain ⟨i,F⟩:=k.2.1 c2;exact ⟨i.bk f (fun j=>G j),l.trans (i.to_below a fun b d j=>by have H:b=gx:=j;omega),zAk a i.size,zAk m i.size,T2,F⟩;have d:=k.2.2 c1 c2;exact ⟨f.below d f.lt,l.trans (d.mono a),zAk a d.size,zAk m d.size,s,Bk.below o d (Bk.lt o)⟩
theorem PyC.drew {W0:World} {cs:Array Value} (a:PyC W0 B gx gt N0 most cs w):PyC W0 B gx gt N0 most cs w.drew:=⟨a.1,a.2.1.trans (eQ w B),a.2.2.1,a.2.2.2.1,a.2.2.2.2⟩
theorem PyU.drew {e f i:Nat} (d:PyU f i B gs gl gx own most rate T e w):PyU f i B gs gl gx own most rate T e w.drew:=⟨fun a=>(d.1 a).vb (Vis.of_below (eQ _ _)),fun a=>d.2 a⟩
theorem PyU.step {f i d j:Nat} (e:PyU d j B gs gl gx own most rate T f w) (k:PyS d j B gs gx own most rate T2 i w w') (m:Ap own gs gx) (o:f≠i) (p:f=d->i≠j):PyU d j B gs gl gx own most rate T f w':=by
 refine ⟨fun a=>?_,fun a=>?_⟩;exact (e.1 a).vb (Vis.of_below (k.2.2 (fun l=>o (a.trans l.symm)) (p a)));by_cases c1:i=d;obtain ⟨own',z,_,u⟩:=k.1 c1;exact u.bk (e.2 a) m.col m.ne dC dC;have s:=k.2.2 c1 (fun l=>o (a.trans l.symm));exact Bk.below (e.2 a) s (Bk.lt (e.2 a))
end
def aD5 (cs:Array Value):Prop:=∀(a:Nat) (c:UInt8),cs[a]?≠some (bv c)
theorem aBO (x y:Int) (A1 A2:Option Addr) (n1 c1 n2 c2:Nat):aD5 #[.int .i64 x,.int .i64 y,.slice A1 n1 c1,.slice A2 n2 c2]:=by
 intro a c;rcases a with _ | _ | _ | _ | a <;> simp [bv]
section
variable {w w' : World} {g : Nat} {t : TypeId} {cs : Array Value} (hx : Bk w g t cs) (k : Keep (fun b => b = g) w w')
include hx k
theorem aDX {B n:Nat} {A:Option Addr} {T:List UInt8} (o:aD5 cs) (d:Rd w B 1 A n (T.map bv)) (l:B<=w.heap.size):Rd w' w'.heap.size 1 A n (T.map bv):=Rd.keepF d k l fun s z m a=>by
 obtain ⟨b,u,e,C,j⟩:=d.2 s;rw [m] at e;cases e;have a:b=g:=a;subst a;have p:(T.map bv).length=n:=by have:=d.1;omega
 have i:0 < T.length:=by simp at p;omega
 have f:=j 0 (bv (T[0]'i)) (by rw [zAf,zAa i];rfl);rw [zBo,hx.cell u] at f;exact o _ _ f
theorem aC0 {B sz n c:Nat} {a:TypeId} {A:Option Addr} {xs:List Value} (i:a≠t) (d:Made w B a sz A n c xs):Made w' B a sz A n c xs:=by
 have f:w'.ownsRow B a sz (.slice A n c) n xs:=aB d.own fun b j _ e=>k.bk e (Bk.ne e hx i);exact ⟨f,Rd.of_own f,d.cap,d.max⟩
end
def gY (w:World) (g:Nat) (a d:Int) (e f:Value):World:=(((w.setCell g (.int .i64 a)).setCell ⟨g,1,none⟩ (.int .i64 d)).setCell ⟨g,2,none⟩ e).setCell ⟨g,3,none⟩ f
theorem dX (w:World) (g:Nat) (a d:Int) (e f:Value):Keep (fun b=>b=g) w (gY w g a d e f):=
 ((((Keep.refl (fun b=>b=g) w).setCell (p:=g) (.inl rfl) _).setCell (p:=⟨g,1,none⟩) (.inl rfl) _).setCell (p:=⟨g,2,none⟩) (.inl rfl) _).setCell (p:=⟨g,3,none⟩) (.inl rfl) _
theorem qR {w:World} {g:Nat} {j l m o:Value} (i:Bk w g 41 #[j,l,m,o]) (a d:Int) (e f:Value):Bk (gY w g a d e f) g 41 #[.int .i64 a,.int .i64 d,e,f]:=by
 have:=(((i.set 0 (.int .i64 a)).set 1 (.int .i64 d)).set 2 e).set 3 f;simpa [gY] using this
def ResC (w:World) (g:Nat):Prop:=∃(x y:Int) (A1:Option Addr) (n1 c1:Nat) (A2:Option Addr) (n2 c2:Nat),Bk w g 41 #[.int .i64 x,.int .i64 y,.slice A1 n1 c1,.slice A2 n2 c2]
def ResX (w:World) (g:Nat) (r:Told):Prop:=∃A1 c1 A2 c2,Bk w g 41 (iK r A1 c1 A2 c2)/\Rd w w.heap.size 1 A1 r.data.length (r.data.map bv)/\Made w 0 3 1 A2 r.places.length c2 (r.places.map nv)
section
variable {w : World} {g g' : Nat} {r : Told} {A1 A2 : Option Addr} {x y : Int} {n1 c1 n2 c2 : Nat}
theorem ResC.of (a:Bk w g 41 aD9):ResC w g:=⟨_,_,_,_,_,_,_,_,a⟩
theorem ResC.setR {e:World} (a:ResC w g) (d:ResC w g') (j:gY w g' x y (.slice A1 n1 c1) (.slice A2 n2 c2)=e):ResC e g:=by
 subst j;obtain ⟨_,_,_,_,_,_,_,_,d⟩:=d;by_cases f:g=g';subst f;exact ⟨_,_,_,_,_,_,_,_,qR d _ _ _ _⟩;obtain ⟨_,_,_,_,_,_,_,_,a⟩:=a;exact ⟨_,_,_,_,_,_,_,_,(dX w g' _ _ _ _).bk a (fun i=>f i)⟩
theorem StAt.setR {d:World} {B gs gl most rate:Nat} {own:Nat->Nat} {T:List UInt8} (e:StAt w B own gs gl most rate T) (a:ResC w g') (f:gY w g' x y (.slice A1 n1 c1) (.slice A2 n2 c2)=d):StAt d B own gs gl most rate T:=by
 subst f;obtain ⟨_,_,_,_,_,_,_,_,a⟩:=a;exact e.farT (dX w g' _ _ _ _) a
theorem MdX.setR {d:World} {gx most:Nat} {T:List UInt8} (e:MdX w gx most T) (a:ResC w g') (f:gY w g' x y (.slice A1 n1 c1) (.slice A2 n2 c2)=d):MdX d gx most T:=by
 subst f;obtain ⟨_,_,_,_,_,_,_,_,a⟩:=a;exact (dX w g' _ _ _ _).bk e (Bk.ne e a dC)
def RowR (w:World) (A1 A2:Option Addr) (c2:Nat) (r:Told):Prop:=Rd w w.heap.size 1 A1 r.data.length (r.data.map bv)/\Made w 0 3 1 A2 r.places.length c2 (r.places.map nv)
theorem RowR.setR {d:World} {A3 A4:Option Addr} {c4:Nat} {q:Told} (e:RowR w A3 A4 c4 q) (a:ResC w g') (f:gY w g' x y (.slice A1 n1 c1) (.slice A2 n2 c2)=d):RowR d A3 A4 c4 q:=by
 subst f;obtain ⟨_,_,_,_,_,_,_,_,a⟩:=a;exact ⟨aDX a (dX w g' _ _ _ _) (aBO _ _ _ _ _ _ _ _) e.1 nL,aC0 a (dX w g' _ _ _ _) dC e.2⟩
theorem ResX.new {a:World} (d:ResC w g) (i:RowR w A1 A2 c2 r) (f:gY w g r.code r.num (.slice A1 r.data.length c1) (.slice A2 r.places.length c2)=a):ResX a g r:=by
 have e:=i.setR d f;subst f;obtain ⟨_,_,_,_,_,_,_,_,j⟩:=d;exact ⟨A1,c1,A2,c2,qR j _ _ _ _,e.1,e.2⟩
theorem ResX.setR {i:World} (s:ResX w g r) (l:ResC w g') (u:RowR w A1 A2 c2 r) (f:gY w g' r.code r.num (.slice A1 r.data.length c1) (.slice A2 r.places.length c2)=i):ResX i g r:=by
 by_cases j:g=g';subst j;exact ResX.new l u f;obtain ⟨a,o,d,e,z,C,D⟩:=s;have m:=RowR.setR (A3:=a) (A4:=d) (c4:=e) (q:=r) ⟨C,D⟩ l f;subst f;exact ⟨a,o,d,e,(dX w g' _ _ _ _).bk z (fun p=>j p),m.1,m.2⟩
end
theorem aA0 (most rate:Nat) (w:World) (u:most<=2147483648) (j:1<=rate) (l:rate<=64):
 Calls prog 10 #[(most:Int),(rate:Int)] w fun i w'=>∃gs gl own,i=.returned (.tuple #[.pointer (some ⟨gs,0,none⟩),.int .i64 0])/\StAt w' w.heap.size own gs gl most rate []/\Below w.heap.size w w':=by
 have m:=mB rate none 0 0 w.heap.size [] [] 0 rfl rfl w (Rd.nil _ _ _ _) (fun F z=>by cases z) nL oM oM j l;have n1:¬((most:Int) < 0):=oM;have n2:¬((most:Int) > 2147483648):=oM;have E:decide ((most:Int) > 2147483648)=false:=zBw n2;have f:=lhd m;clear m;go_enter func10,ntmps10;go_wp2_with fail;refine f.out.mono ?_;rintro i w1 ⟨gl,own,rfl,D,e,a⟩;have d:Below w1.heap.size w1 (w1.alloc (.cells #[.pointer (some ⟨gl,0,none⟩),(most:Int)] 60)):=bR.alloc nL _;have o:StAt (w1.alloc (.cells #[.pointer (some ⟨gl,0,none⟩),(most:Int)] 60)) w.heap.size own w1.heap.size gl most rate []:=
  ⟨Bk.new _ _ _,a.size,Nat.eq_zero_of_not_pos fun C=>by have:=(e.bnd w1.heap.size oM).2;omega,e.vis (Vis.of_below d),by simp,by simp,u,j,l⟩
 obtain ⟨s,p⟩:=hqq2 o (a.trans (d.mono a.size));clear o d a e f;go_wp2_with fail;go_ret2;exact ⟨_,gl,own,rfl,s.out,p.out⟩
def t22:List UInt8:= [0,4,2,129,200,3,255,0,1,9]
def L22:List Sp:= [⟨1,4,2, [98,98]⟩,⟨2,8,3, []⟩,⟨8,-128,-127, []⟩]
theorem aCE:mW t22 (t22.length / 3)=L22:=by
 unfold mW t22 L22;simp [List.range,List.range.loop,aBt,zZ,spK,spP,spN,spD,iL,lH,bW]
def R22 (k:Nat):Told:=if k=2 then ⟨0,0, [], []⟩ else ⟨2,0, [], []⟩
theorem aDs {B gs:Nat} (k:Nat) (j:Sp) (own1:Nat->Nat) (gl1:Nat) (w1:World) (A1:Option Addr) (d c1:Nat) (a:L22[k]?=some j) (l:StAt w1 B own1 gs gl1 9 2 []):
 Calls prog 25 #[gs,.agg #[.int .i64 j.kind,.int .i64 j.p,.int .i64 j.k,.slice A1 d c1]] w1 (mP w1 B own1 gs 9 2 [] (R22 k)):=by
 have s:∀f i n:Int,dL 0 i (rY f n d)=false->∀e,StAt e B own1 gs gl1 9 2 []->LFS B gs w1 e own1 own1->Calls prog 42 #[gs,.agg #[.int .i64 f,.int .i64 i,.int .i64 n,.slice A1 d c1]] e fun m w'=>m=.returned (.int .i64 2)/\∃own',StAt w' B own' gs gl1 9 2 []/\LFS B gs e w' own1 own':=fun f i n z e p _=>
  (tA B own1 gs gl1 9 2 0 [] f i n A1 d c1 e p rfl z).mono fun m w' ⟨u,o⟩=>⟨u,own1,p.vb (Vis.of_below o),LFS.of_below B gs own1 o⟩
 rcases k with _ | _ | _ | k;injection a with a;subst a;exact pI B own1 gs gl1 9 2 [] [] 1 4 2 A1 d c1 2 w1 l (.inl rfl) (s 1 4 2 (by show dL 0 4 0=false;decide));injection a with a;subst a;exact pI B own1 gs gl1 9 2 [] [] 2 8 3 A1 d c1 2 w1 l (.inr (.inl rfl)) (s 2 8 3 (by show dL 0 8 3=false;decide));injection a with a;subst a;exact yJ B own1 gs gl1 9 2 [] (-128) (-127) A1 d c1 w1 l
 · cases a
theorem aCD:∀k d,L22[k]?=some d->doM [] 9 d.kind d.p d.k d.D=([],R22 k):=by
 intro k d a;rcases k with _ | _ | _ | k;injection a with a;subst a;rfl;injection a with a;subst a;rfl;injection a with a;subst a;rfl
 · cases a
theorem aCC:∀d∈L22,SpB d:=by
 intro d a;simp only [L22,List.mem_cons,List.not_mem_nil,or_false] at a;rcases a with rfl | rfl | rfl;exact ⟨by decide,by decide,by decide⟩;exact ⟨by decide,by decide,by decide⟩;exact ⟨by decide,by decide,by decide⟩
theorem kA {w:World} {b sz n:Nat} {d:TypeId} {v:Value} {xs:List Value} (f:w.ownsRow b d sz v n xs) (m:0 < n):∃g c,v=.slice (some ⟨g,0,none⟩) n c/\b<=g:=by
 rcases f.2 with ⟨_,l⟩|⟨g,a,j,e,i,_⟩;omega;exact ⟨g,a,e,i⟩
theorem cY {w:World} {b sz n g c:Nat} {f:TypeId} {xs:List Value} (i:w.ownsRow b f sz (.slice (some g) n c) n xs) (l:0 < n) (d:Nat) (e:Value) (m:xs[d]?=some e):w.cell? ⟨g,d,none⟩=some e:=by
 obtain ⟨o,p,a,_,j⟩:=(Rd.of_own i).2 l;injection a with a;injection a with a e2;subst a;subst e2;have:=j d e m;rwa [zBh] at this
theorem pD (w:World):Calls prog 9 #[] w fun d w'=>d=.returned (.bool true)/\Below w.heap.size w w':=by
 have m:=rJ (some ⟨w.heap.size,0,none⟩) 10 10 t22 (w.alloc (.cells #[.int .u8 0,.int .u8 4,.int .u8 2,.int .u8 129,.int .u8 200,.int .u8 3,.int .u8 255,.int .u8 0,.int .u8 1,.int .u8 9] 5)) (Rd.made w 5 1 10 #[.int .u8 0,.int .u8 4,.int .u8 2,.int .u8 129,.int .u8 200,.int .u8 3,.int .u8 255,.int .u8 0,.int .u8 1,.int .u8 9] rfl) oM oM;have ad:Below w.heap.size w (w.alloc (.cells #[.int .u8 0,.int .u8 4,.int .u8 2,.int .u8 129,.int .u8 200,.int .u8 3,.int .u8 255,.int .u8 0,.int .u8 1,.int .u8 9] 5)):=bR.alloc nL _;unfold pR at m;rw [aCE,show t22.length / 3=3 from rfl] at m;obtain ⟨a0,E⟩:=hqq2 m ad;clear m ad;go_enter func9,ntmps9;go_wp2_with fail;refine a0.out.mono ?_;rintro d w1 ⟨bw,xs,rfl,W,aA,af⟩;have ae:=E.out.trans (af.mono E.out.size);obtain ⟨ga,K,rfl,bo⟩:=kA W oM;obtain ⟨j,l,F⟩:=hqq3 W aA ae;clear W aA af ae a0 E;go_wp2_with fail;refine (aA0 9 2 w1 oM oM oM).mono ?_;rintro d bf ⟨gs,gl,own,rfl,aD,ag⟩;obtain ⟨f,i⟩:=hqq2 aD ag;clear aD ag;go_wp2_with fail;refine (yP 9 bf oM oM).mono ?_;rintro d z ⟨g,gp,rfl,O,an,ao,b1,ar,ax⟩;have aX:w1.heap.size<=gp:=by have:=i.out.size;omega
 have aE:=f.out.vb (Vis.of_below O);have au:MdAt z g gp 9 []:=⟨ar,⟨_,_,ax,⟨rfl,fun M=>absurd M (by simp)⟩,zAp _,fun M=>absurd M (by simp)⟩,by decide,by decide⟩;have N:Below w1.heap.size w1 z:=i.out.trans (O.mono i.out.size);have aI:StpZ z w1.heap.size own gs (some ⟨ga,0,none⟩) 3 L22:=StpZ.of_stps j.out l.out rfl N;have ab:Ap own gs g/\Ap own gs gp:=⟨⟨f.out.fresh an,by have:=f.out.blk.lt;omega⟩,⟨f.out.fresh ao,by have:=f.out.blk.lt;omega⟩⟩;obtain ⟨J,a8,a5,a1,D⟩:=hqq5 aE aI au N ab;clear aE aI au N O an ao b1 ar ax ab f i;go_wp2_with fail;refine (aA2 w1.heap.size own gs gl 9 2 (fun _=> []) R22 (some ⟨ga,0,none⟩) 3 K L22 z J.out a8.out oM fun k bd own1 gl1 Z A1 bb c1 aY b2 _ _=>aDs k bd own1 gl1 Z A1 bb c1 aY b2).mono ?_;rintro d Z ⟨bx,bD,br,bn,rfl,X,_,az,b3,V⟩;have ah:=V.below J.out.size;have o:=a1.out.trans ah;have aq:=aH j.out o;have aC:=l.out.below o;have av:=a5.out.lfs0 V D.out.1 D.out.2;obtain ⟨a9,bm,rfl,bq⟩:=kA X oM;obtain ⟨a6,I,a4,a7,H,a2⟩:=hqq6 X az aq aC av o;clear X az aq aC av o ah b3 V J a8 a5 a1 D;go_wp2_with fail;refine (gJ w1.heap.size g gp 9 (fun _=> []) R22 (some ⟨ga,0,none⟩) 3 K L22 Z H.out aX (StpR.stpM (c:=K) ⟨xs,a4.out,a7.out⟩ rfl) oM aCC (fun _=>by simp) aCD).mono ?_;rintro d a ⟨bz,bC,rfl,s,aG,_,ap,al⟩;have ai:=ap.low;obtain ⟨_,_,ay,_⟩:=H.out.pl;have p:=a2.out.trans ai;have e:=aH j.out p;have Y:=aB a6.out fun b cs _ ac=>al.bk ac (Bk.ne ac ay dC);have u:=l.out.below p;obtain ⟨aW,bl,rfl,bp⟩:=kA s oM;obtain ⟨_,_,_,_,aR,_⟩:=aG 0 oM;have bs:a.cell? aW=some (.int .i64 2):=cY s oM 0 (.int .i64 2) aR;obtain ⟨_,_,_,_,aP,_⟩:=I.out 0 oM;obtain ⟨_,_,_,_,aQ,_⟩:=I.out 2 oM;have bt:a.cell? a9=some (.int .i64 2):=cY Y oM 0 (.int .i64 2) aP;have bu:a.cell? ⟨a9,8,none⟩=some (.int .i64 0):=cY Y oM 8 (.int .i64 0) aQ;obtain ⟨aS,bc,aU,aJ,aK,bg,aL,S⟩:=u.get (k:=0) rfl;obtain ⟨_,_,_,aM,_,_,_,_⟩:=u.get (k:=1) rfl;obtain ⟨_,_,_,aN,aO,_,_,_⟩:=u.get (k:=2) rfl;have b5:=cY e oM _ _ aJ;have b6:=cY e oM _ _ aK;have b7:=cY e oM _ _ aL;have b8:=cY e oM _ _ aM;have b9:=cY e oM _ _ aN;have ba:=cY e oM _ _ aO;have aZ:bc=2:=S.1.symm;subst aZ;have bv:(convert 22 9 (.slice aS 2 aU)).run prog a=.ok (.string ⟨#[98,98]⟩) a:=(eN (P:=prog) 22 9 5 underlying22 underlying5 underlying9 S.rd).trans rfl;have am:=F.out.trans (p.mono F.out.size);obtain ⟨G,bi⟩:=hqq2 am s;have U:=rJ (some ⟨a.heap.size,0,none⟩) 2 2 [1,2] (a.alloc (.cells #[.int .u8 1,.int .u8 2] 5)) (Rd.made a 5 1 2 #[.int .u8 1,.int .u8 2] rfl) oM oM;have aa:Below a.heap.size a (a.alloc (.cells #[.int .u8 1,.int .u8 2] 5)):=bR.alloc nL _;unfold pR at U;obtain ⟨a3,C⟩:=hqq2 U aa;clear U aa am p S aJ aK bg aL aM aN aO e Y u s aG ai al ap ay aR H a4 a7 a6 I a2 F j l aP aQ;simp only [Nat.zero_mul,Nat.one_mul,zBh,Nat.reduceMul,Nat.reduceAdd] at b5 b6 b7 b8 b9 ba;go_wp2_with fail;refine a3.out.mono ?_;rintro d bA ⟨be,bB,rfl,aw,_,aj⟩;have b4:∃A c,be=.slice A 0 c:=by obtain ⟨A,c,aV,_⟩:=aF aw;exact ⟨A,c,aV⟩
 obtain ⟨bh,bj,rfl⟩:=b4;have ak:=G.out.trans ((C.out.trans (aj.mono C.out.size)).mono G.out.size);have aT:=lhd ak;clear ak aj aw a3 C G;go_wp2_with fail;go_ret;exact ⟨rfl,aT.out⟩
end Go.Proofs.YtihaijbgmjdhgaaGreatDoor
