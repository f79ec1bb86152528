/- Lemmas of the walk. Conditions: each its own. -/
import Derived.Test.YtknjfpcdhdmghaaGreatDoorPt6
import Derived.Test.YtknjfpcdhdmghaaGreatDoorPt8
import Derived.Test.YtknjfpcdhdmghaaGreatDoorPt9
import Derived.Test.YtknjfpcdhdmghaaGreatDoorRows
import Derived.Test.YtknjfpcdhdmghaaGreatDoorShl
import Derived.Test.YtknjfpcdhdmghaaGreatDoorShs
set_option linter.all false
set_option maxRecDepth 100000
set_option maxHeartbeats 2000000
open Go.Proofs.Tryz
namespace Go.Proofs.YtknjfpcdhdmghaaGreatDoor
section
open Go.ChangeShapes Go.WideShapes Go.ChangeAt Go.RowKit
def kQ:laidOutB prog=true:=by kernel_rfl
def own:ownKnob prog.godebug=none:=by kernel_rfl
def aML {k:IntKind} {w:World} {d:Addr} {len f:Nat} {b:List Int} (x:len<=f) (y:b.length=f) (o:0 < len->d.block < w.heap.size)
 (i:∀e,e < b.length->w.cell? (d.add e)=some (.int k (b.getD e 0))):Rd w w.heap.size 1 (some d) len ((b.take len).map (Value.int k)):=by
 refine ⟨by simp;omega,λr=>?_⟩;have q:=i 0 oM;obtain ⟨m,t,u⟩:=d;have s:u=none:=by simpa [Addr.add] using World.cell?_spot q
 subst s;refine ⟨m,t,rfl,o r,λl z a=>?_⟩;simp only [zAf,zBs] at a;split at a
 .rename_i v
  have:=i l oM;rw [oN] at this;rw [this];have j:l < b.length:=oM;rw [zAa j] at a;simp only [zEq,zEB] at a;rw [<-a,zAb,zAa j];rfl
 .simp at a
def aE4 (a:List Int) (d:∀n∈a,(Lit.int .u8 n).wf=true):∃b:List UInt8,a.map (Value.int .u8)=b.map bv:=by
 induction a with
 | nil=>exact ⟨[],rfl⟩
 | cons e a j=>
  obtain ⟨b,f⟩:=j λn i=>d n (zEv _ i);have l:=bounds_u8 (d e (zEL ..));refine ⟨UInt8.ofNat e.toNat::b,?_⟩;simp only [zEJ,f];congr 1;unfold bv;congr 1;simp [zEc];omega
def aE8 {i:Type} {r:TypeId×Value->i} {q f} {k:IntKind} {w j len e} {d:DataW i} {p:List MemPlace} (ht:prog.underlying q=some (.slice f)) (u:prog.underlying f=some (.int k)) (t:prog.cellsOf f=1) (s:DataW.Trod r prog w 0 (λ_=>true) true q (.slice j len e) d p):
 ∃b:List Int,Rd w w.heap.size 1 j len (b.map (Value.int k))/\(∀n∈b,(Lit.int k n).wf=true)/\len<=e/\e<=maxLen:=by
 obtain ⟨E,v⟩:=s;rcases open_ints ht u t v with ⟨a,_⟩|⟨C,G,c,b,a,_,m,x,z,F,l,y⟩;simp [Value.cells] at a;obtain ⟨rfl,rfl,rfl⟩:=a;exact ⟨[],Rd.nil _ _ _ _,by simp,zAs _,zAp _⟩;simp [Value.cells] at a;obtain ⟨rfl,rfl,rfl⟩:=a;have B:b.length=e:=(by simpa using z);refine ⟨b.take len,aML m B (λo=>?_) l,λn o=>y n (zFy o),m,x⟩;have:=zFN w (C.add 0) (l 0 oM);simpa [Addr.add] using this
end
section
open Go.RowKit
def gY:List (String×DataW Unit):= [("math/bits.deBruijn64tab",Rows.laid_math_bits_deBruijn64tab)]
def aPd:prog.globalNamed "math/bits.deBruijn64tab" =some 0:=by kernel_rfl
def aPl:(prog.globals[0]?).map (·.type)=some 268:=by kernel_rfl
def aAE (b:Os) (a):laidMetH prog gY ((World.doorLaid prog 14 b).forCall (λ_ _=>0) ⟨#[],a, []⟩).memory:=
 laidMetH_of_parts3 (fuel:=8) (laidMet_of_run' 8 kR kR) kR kR
def aIn:(Rows.laid_math_bits_deBruijn64tab:DataW Unit)=Lib.tabData .u8 (Lib.deBruijn64tab.map λn:Nat=>(n:Int)):=rfl
def nS {W} (a:laidMetH prog gY W):TabW W:=by
 rw [MakeChecks.laidMetH_plain _ _ _ kR] at a;unfold gY at a;rw [aIn] at a;have d:=Lib.tabIs_of_head aPd aPl underlying268 underlying5 kR kR a;intro b e;have:=d.cell aPd b (by rw [zBc];exact e);rw [this,zAb,zAf,zAb];cases Lib.deBruijn64tab[b]? <;> rfl
def sW {B A n c xs Av} (b) {k w} (l:w.ownsRow B 3 1 (.slice A n c) n xs) (o:Rd w w.heap.size 1 Av 1 [sv k]) (hB:B<=w.heap.size) (v:n<=1000000):
 Calls prog 104 #[.slice A n c,(n:Int),.slice Av 1 b] w λe d=>∃a,e=.returned a/\d.ownsRow B 3 1 a (n+1) (xs++ [sv k])/\w.grownBy d (Value.slice A n c).ownBlock/\(a.ownBlock=(Value.slice A n c).ownBlock∨a.ownBlock=some w.heap.size):=by
 obtain ⟨t,j,q,r,s⟩:=info_parts gI;have x:=iC (P:=prog) 27 3 1 underlying27 Tryz.sizeOf3 A n c n nL;go_enter func104,ntmps104;go_wp2_with (at_builtin;refine bE _ rfl (.tmp 23) (.tmp 24) _ rfl B 3 t (.int .i64 0) 1 8 underlying27 j q r s rfl dC (.slice A n c) n _ rfl l w.heap.size Av 1 b _ rfl o (by simp [Value.oneCell',sv]) zx oM hB ?_;intro u y m i f);go_ret;exact ⟨u,rfl,m,i,f⟩
end
section
def hQ (a:List (Int×Nat)):List UInt8:=a.flatMap cB
def uW (b:Int×Nat) (a:List (Int×Nat)):hQ (b::a)=cB b++hQ a:=by simp [hQ]
def yA (a:Int×Nat) (b:List (Int×Nat)):eV (a::b)=List.replicate a.2 a.1++eV b:=by simp [eV]
def aIg:Nat->List (Int×Nat)->Prop
 | _, []=>True
 | last,x::q=>(fJ x.1/\x.1.toNat≠last/\1<=x.2/\x.2 < 18446744073709551616)/\aIg x.1.toNat q
def aIL {e b} {a:Int×Nat} {d} (l:fJ a.1) (m:a.2 < 18446744073709551616) (f:e.drop b=cB a++d):sH e b=some (a.1.toNat,a.2,b+(cB a).length):=by
 have i:=rP (n:=a.1.toNat) (zj l.2) (bW a.2++d) b;rw [cB,zCo] at f;rw [<-f] at i;have o:e.drop (b+(bW a.1.toNat).length)=bW a.2++d:=by rw [<-zFB,f,zFV]
 have j:=rP m d (b+(bW a.1.toNat).length);rw [<-o] at j;rw [aAa i j,cB,zAi,zDp]
def aKD (i o l q):∀(a:List (Int×Nat)) (d f:Nat) (e:List Int),i.drop d=hQ a++q->aIg f a->e.length+(eV a).length<=o->
 ∃F,rgo i o (a.length+l) d f e=rgo i o l (d+(hQ a).length) F (e++eV a):=by
 intro a
 induction a with
 | nil=>intro d f e _ _ _;exact ⟨f,by simp [hQ,eV]⟩
 | cons b a C=>
  intro d f e m u y;obtain ⟨⟨j,G,H,r⟩,s⟩:=u;rw [uW,zCo] at m;have z:=aIL j r m;rw [yA,zAi,zCn] at y;have t:(b::a).length+l=(a.length+l)+1:=zt;rw [t,aEA _ _ _ _ z,zBw (zk j.1 j.2),zBw oM];have B:((b.1.toNat:Nat):Int)=b.1:=(zj j.1);rw [B];have v:i.drop (d+(cB b).length)=hQ a++q:=(by rw [<-zFB,m,zFV]);obtain ⟨E,x⟩:=C (d+(cB b).length) b.1.toNat (e++List.replicate b.2 b.1) v s (by rw [zAi,zCn];omega);refine ⟨E,?_⟩;rw [x,uW,yA,zAi,zCo,zDp]
def aLU (d:List (Int×Nat)) (q:xG d) (f:∀a∈d,fJ a.1/\a.2 < 18446744073709551616) (i) (t:∀a,d[0]?=some a->a.1.toNat≠i):aIg i d:=by
 induction d generalizing i with
 | nil=>trivial
 | cons a d y=>
  obtain ⟨j,_,l⟩:=q;refine ⟨⟨(f a (zEL ..)).1,t a rfl,j a (zEL ..),(f a (zEL ..)).2⟩,?_⟩;refine y ⟨λe b=>j e (zEv _ b),List.pairwise_of_forall (by intros;trivial),λx m o r s=>l (x+1) m o (by simpa using r) (by simpa using s)⟩ (λe b=>f e (zEv _ b)) _ ?_;intro e b;have:=l 0 a e rfl (by simpa using b);have u:=(f a (zEL ..)).1;have v:=(f e (zEv _ (zAd b))).1;have:=u.1;have:=v.1;omega
def aG8 {d} (e:∀a∈bI d,fJ a.1) (f:d.length < 18446744073709551616):aIg 257 (bI d):=
 aLU _ (wI d) (λa b=>⟨e a b,by have:=lF b;omega⟩) 257 λa b=>by have:=(e a (zAd b)).2;have:=(e a (zAd b)).1;omega
def aCS {a} (b:a.length < 18446744073709551616):(bI a).length < 18446744073709551616:=by have:=jG a;omega
def aDd {l} (m:∀o∈bI l,fJ o.1) (d:l.length < 18446744073709551616) (aA) (q:(l.length:Int)<=aA) (a):
 oI (eO (bI l)++a) aA=if a= [] then (l,0) else ([],4):=by
 have f:=rP (aCS d) (hQ (bI l)++a) 0;have i:eO (bI l)++a=bW (bI l).length++(hQ (bI l)++a):=by simp [eO,hQ]
 rw [i,oI,f];simp only [zBi];have j:(bW (bI l).length++(hQ (bI l)++a)).drop (bW (bI l).length).length=hQ (bI l)++a:=zFV;have b:=kA l;obtain ⟨r,e⟩:=aKD _ aA.toNat 0 a (bI l) _ 257 [] j (aG8 m d) (by rw [b];simp;omega);rw [zBq] at e;rw [e,b,zDH,rgo];by_cases ht:a= []
 .subst ht;rw [zBx zs,zBx rfl]
 .have:0 < a.length:=List.length_pos_iff.2 ht;rw [zBw zt,zBw ht]
end
section
open Go.RowKit
def TabW.cy {g w b} (e:TabW w) (k:VisK (λd=>d=g) w b) (j:0 < g) (i:0 < w.heap.size):TabW b:=
 λa f=>(k.2.cell (p:=⟨0,a,none⟩) i (by show ¬(0=g);omega)).trans (e a f)
def aE1 {a:List Bool} {b:Bool} {p:Nat} (d:a[p]?=some b):(a.take p).count b < a.count b:=by
 have j:=(zAc.1 d).1;have e:a=a.take (p+1)++a.drop (p+1):=(zAu _ _).symm;have f:a.count b=(a.take (p+1)).count b+(a.drop (p+1)).count b:=by rw [<-zCc,zAu]
 have i:(a.take (p+1)).count b=(a.take p).count b+1:=by rw [zAv,d,zCc];simp
 omega
def aPb {l r:List Bool} {a:Bool} {p d:Nat} (e:(l++r)[p]?=some a) (b:((l++r).take p).count a=d) (f:d < l.count a):l[p]?=some a/\(l.take p).count a=d:=by
 by_cases c:p < l.length;rw [zAn c] at e;rw [zDi (zCm c)] at b;exact ⟨e,b⟩;rw [wV _ _ _ _ oM] at b;omega
def aPa {l r:List Bool} {a:Bool} {p d:Nat} (b:(l++r)[p]?=some a) (e:((l++r).take p).count a=d) (f:¬d < l.count a):l.length<=p/\r[p - l.length]?=some a/\(r.take (p - l.length)).count a=d - l.count a:=by
 by_cases c:p < l.length;rw [zAn c] at b;rw [zDi (zCm c)] at e;have:=aE1 b;omega;rw [zAo oM] at b;rw [wV _ _ _ _ oM] at e;exact ⟨by omega,b,by omega⟩
def aDA {e} {u:Option Tr} {p L a w} (S:TreeO w e u) (ab:(cH u)[p]?=some a) (am:((cH u).take p).count a=L) (aD:TabW w) (bn:0 < e):
 Calls prog 183 #[e,(L:Int),.bool a] w λs bD=>s=.returned (.int .i64 p)/\VisK (λa=>a=e) w bD:=by
 have bk:=S.le;obtain ⟨b7,a1,bl⟩:=S.a;have bw:=(zAc.1 ab).1;have aK:=aE1 ab;rw [am] at aK;have aJ:=tL (cH u);have bC:0 < w.heap.size:=aD.pos;have ar:=VisK.E a1 0;have aZ:=S.b ar.1;have bP:=a1.lt;have ax:w.cell? ⟨e,3,none⟩=some b7[3]:=by rw [a1.cell 3];simp [bl]
 have aB:=a1.frozen 3;obtain ⟨a0,aj⟩:=eqx ((cH u).length);obtain ⟨on,aV⟩:=eqx ((cH u).count true);rw [aj,aV] at aJ;rw [aj] at bk;have aP:L < (if a then on else a0 - on):=by cases a;simp;omega;simp;omega
 have bj:a0<=100000:=oM;have bu:on<=a0:=oM;have bU:L<=1100:=by rw [<-am];exact zAk zBv (by rw [zAj];omega)
 have bv:p<=1100:=oM;obtain ⟨f,aX⟩:=eqx ((if a then on else a0 - on));rw [aX] at aP;have bF:=aP;clear a1 bw aK aJ;go_enter func183,ntmps183;go_wp2_with fail;clear ax aB;refine (jL (gt:=e) (o:=u) aZ).mono ?_;rintro s c4 ⟨rfl,aE⟩;rw [aj];have F:=ar.below aE;have b0:=S.b F.1;have aw:=F;clear F ar aZ aE;go_wp2_with fail;refine (aHi (gt:=e) (o:=u) b0).mono ?_;rintro s c5 ⟨rfl,aF⟩;rw [aV];have O:=aw.below aF;have bA:=S.b O.1;clear aw b0 aF;go_wp2_with fail;refine (pY (n:=a0) (o:=on) a _ bj bu).mono ?_;rintro s C ⟨rfl,aG⟩;rw [aX];have au:=O.below aG;have bB:=S.b au.1;have aT:¬f<=L:=oM;have bt:=zBy aT;clear aG O bA;obtain ⟨bN,A,bI,n,ag,c2,c3,J,⟨rfl,rfl⟩|⟨b1,rfl,al,rfl,a7,aC⟩⟩:=bB
 .have:=ab;simp [cH] at this
 obtain ⟨I,bJ,rfl,aL⟩:=J.ex (zj (al.at.lt J.len));have bH:=J.c2;have bS:=J.a.lt;have bQ:=aL.lt;have b3:=(show AtSub C ag b1 from ⟨al,a7.le,aC⟩);clear al aL a7 aC;go_wp2_with fail;clear aT bt;go_loopw [1,7,8] (λbE av E wr=>∃(z:LT) (m B v:Nat),bE=.int .i64 m/\av=.int .i64 (z.num:Nat)/\E=.int .i64 B/\AtSub C ag z/\z.bits[v]?=some a/\(z.bits.take v).count a=m/\B+v=p/\VisK (λa=>a=e) C wr) (λ_ av _ _=>lI C I av)
 case atStart=>exact ⟨b1,L,0,p,rfl,rfl,rfl,b3,ab,am,zBi _,VisK.refl _ _⟩
 case round=>
  obtain ⟨z,m,B,v,rfl,rfl,rfl,y,ac,a2,aq,V⟩:=hrel;have bV:m<=1100:=by rw [<-a2];refine zAk zBv ?_;rw [zAj];have a6:=y.len;have s:z.bits.length=z.len:=rfl;omega
  obtain ⟨P,t⟩:=J.b V.1;have bG:=t.c1;have ax:=t.c3;have aB:=t.a.frozen 3;have bT:=t.a.lt;obtain ⟨bK,a9⟩:=fE t.row;have bR:=a9.lt;have U:=y.sub.b V.1;have bZ:e≠I:=Bk.ne t.a a9 dC;have aO:(z.num:Int) < n:=zj (U.at.lt t.len)
  have ao:=kS J y.sub;generalize aW:z.num=q at*
  cases z with
  | lf a5 g R=>
   change a5=q at aW;subst a5;obtain ⟨ae,aR⟩:=eqx R.length;obtain ⟨H,a4⟩:=eqx (R.count true);obtain ⟨b8,b9,ba,ay,az,bb,bc,bd⟩:=t.at (show At8 ag q [_,_,_,_,_,_,_,_] from U.1);rw [aR] at ay;rw [a4] at az;change (q:Int) < (n:Int) at aO;have bq:R.length<=128:=y.le;have bx:R[v]?=some a:=ac;have bp:(R.take v).count a=m:=a2;have bo:e≠wr.heap.size:=oM;have F:VisK (λa=>a=e) wr ((wr.setCell ⟨e,3,none⟩ (.int .i64 (wrap64 (P+1)))).alloc (.cells #[(-1:Int),(-1:Int),o0,(ae:Int),(H:Int),o0,o0,g] 236)):=(VisK.E t.a _).alloc _;have ak:=U.2;have aI:=(ak.m (p:=⟨e,3,none⟩) (Bk.ne ak t.a dC) (.int .i64 (wrap64 (P+1)))).alloc (.cells #[(-1:Int),(-1:Int),o0,(ae:Int),(H:Int),o0,o0,g] 236);have O:=(V.trans F);have b6:=bq;clear y ac a2 V t a9 U ao F ak aR a4;go_wp2_with fail;refine (pY (n:=0) (o:=0) a _ oM nL).mono ?_;rintro s M ⟨rfl,K⟩;have ah:(if a=true then 0 else 0 - 0:Nat)=0:=(by cases a <;> rfl);rw [ah];have Z:=(O.below K);have b2:=(aI.below K aI.lt);have b4:=(aD.cy (au.trans Z) bn bC);have x:=(jJ wr e (.int .i64 (wrap64 (P+1))) #[(-1:Int),(-1:Int),o0,(ae:Int),(H:Int),o0,o0,g]).below K (jJ wr e (.int .i64 (wrap64 (P+1))) #[(-1:Int),(-1:Int),o0,(ae:Int),(H:Int),o0,o0,g]).lt;have be:M.cell? ⟨wr.heap.size,7,none⟩=some (.pointer (some g)):=(by rw [x.cell 7];rfl);have bz:wr.heap.size < M.heap.size:=x.lt;clear x K ah;go_wp2_with fail;refine (yW (gb:=g) (l:=R) (b:=a) (p:=v) (j:=m) b2 b6 bx bp b4).mono ?_;rintro s c6 ⟨rfl,aH⟩;have b5:=(au.trans (Z.below aH));have aY:B+v=p:=aq;have c1:wrap64 (B+v)=(p:Int):=(by unfold wrap64;omega);clear aH;go_wp2_with fail;go_ret;exact ⟨fM (aEc aY.symm (zAk (zCv aY) bv)),b5⟩
  | nd a5 d f=>
   change a5=q at aW;subst a5;obtain ⟨i,N⟩:=eqx d.len;obtain ⟨G,a3⟩:=eqx d.on;obtain ⟨af,aU⟩:=eqx (d.len+f.len);obtain ⟨H,a4⟩:=eqx (d.on+f.on);obtain ⟨aa,aM⟩:=eqx (max d.ht f.ht+1);obtain ⟨X,an⟩:=eqx d.num;obtain ⟨Y,ap⟩:=eqx f.num;have aN:At8 ag q (ndL X Y aa af H i G):=(by rw [<-N,<-a3,<-aU,<-a4,<-aM,<-an,<-ap];exact U.1);obtain ⟨b8,b9,ba,ay,az,bb,bc,bd⟩:=t.at aN;change (q:Int) < (n:Int) at aO;have bW:=y.len;have bY:=LT.len_nd q d f;have br:=kS J y.l.sub;have bs:=kS J y.r.sub;have aS:(LT.nd q d f).ht=max d.ht f.ht+1:=rfl;have aQ:G<=i:=(by rw [<-a3,<-N];exact d.on_le);have bX:i<=1100:=oM;have a8:(LT.nd q d f).bits=d.bits++f.bits:=rfl;have bm:(if a then G else i - G)=d.bits.count a:=(by rw [<-a3,<-N];exact tE d.bits a);have aQ:G<=i:=(by rw [<-a3,<-N];exact d.on_le);have c0:B<=1100:=oM;have bo:e≠wr.heap.size:=oM;have F:VisK (λa=>a=e) wr ((wr.setCell ⟨e,3,none⟩ (.int .i64 (wrap64 (P+1)))).alloc (.cells #[(X:Int),(Y:Int),(aa:Int),(af:Int),(H:Int),(i:Int),(G:Int),.pointer none] 236)):=(VisK.E t.a _).alloc _;have O:=(V.trans F);clear a3 aU a4 aM aN U a9 t V F;go_wp2_with fail;refine (pY (n:=i) (o:=G) a _ oM aQ).mono ?_;rintro s M ⟨rfl,K⟩;rw [bm];obtain ⟨E,ad⟩:=eqx (d.bits.count a);rw [ad];have Z:=(O.below K);have x:=(jJ wr e (.int .i64 (wrap64 (P+1))) #[(X:Int),(Y:Int),(aa:Int),(af:Int),(H:Int),(i:Int),(G:Int),.pointer none]).below K (jJ wr e (.int .i64 (wrap64 (P+1))) #[(X:Int),(Y:Int),(aa:Int),(af:Int),(H:Int),(i:Int),(G:Int),.pointer none]).lt;have ah:M.cell? ⟨wr.heap.size,0,none⟩=some (.int .i64 X):=(by rw [x.cell 0];rfl);have bL:M.cell? ⟨wr.heap.size,1,none⟩=some (.int .i64 Y):=(by rw [x.cell 1];rfl);have bM:M.cell? ⟨wr.heap.size,5,none⟩=some (.int .i64 i):=(by rw [x.cell 5];rfl);have be:M.cell? ⟨wr.heap.size,7,none⟩=some (.pointer none):=(by rw [x.cell 7];rfl);have bz:wr.heap.size < M.heap.size:=x.lt;clear x K;by_cases c:m < E
   .have bf:=zy ((m:Int) < E);have bg:=zBz c;have Q:=(aPb (l:=d.bits) (r:=f.bits) (a8 ▸ ac) (a8 ▸ a2) (by rw [ad];exact c));go_wp2_with fail;go_roundw
    case rel=>exact ⟨d,m,B,v,rfl,by rw [an],rfl,y.l,Q.1,Q.2,aq,Z⟩
    case measure=>have a6:=ao;have ai:=br;have a7:=aS;rw [an] at ai;show lI C I (.int .i64 X) < lI C I (.int .i64 (q:Nat));have bh:lI C I (.int .i64 (q:Nat))=(LT.nd q d f).ht:=a6;omega
   .have bf:=zn ((m:Int) < E);have bg:=zBy c;have Q:=(aPa (l:=d.bits) (r:=f.bits) (a8 ▸ ac) (a8 ▸ a2) (by rw [ad];exact c));go_wp2_with fail;go_roundw
    case rel=>exact ⟨f,m - E,B+i,v - i,congrArg (Value.int .i64) (show (m:Int) -(E:Int)=(m - E:Nat) by omega),by rw [ap],congrArg (Value.int .i64) (show (B:Int)+(i:Int)=(B+i:Nat) from rfl),y.r,by
     have s:d.bits.length=i:=N;rw [<-s];exact Q.2.1,by
     have s:d.bits.length=i:=N;rw [<-s,<-ad];exact Q.2.2,by
     have s:d.bits.length=i:=N;have bi:=Q.1;rw [s] at bi;have bO:=aq;omega,Z⟩
    case measure=>have a6:=ao;have ai:=bs;have a7:=aS;rw [ap] at ai;show lI C I (.int .i64 Y) < lI C I (.int .i64 (q:Nat));have bh:lI C I (.int .i64 (q:Nat))=(LT.nd q d f).ht:=a6;omega
def aAY {gt bs p j b w} (a:TreeAt w gt bs) (l:bs[p]?=some b) (i:(bs.take p).count b=j) (e:TabW w) (f:0 < gt):
 Calls prog 183 #[gt,(j:Int),.bool b] w λd m=>d=.returned (.int .i64 p)/\VisK (λb=>b=gt) w m:=by
 obtain ⟨o,rfl,a⟩:=a;exact aDA a l i e f
def aHz (w):Calls prog 187 #[(),o0,o0] w λa b=>a=.returned (.tuple #[])/\b=w:=by
 go_enter func187,ntmps187;go_wp2_with fail;go_loopw [6] (λd wr=>d=.int .i64 1/\wr=w) (λ_ _=>0)
 case atStart=>exact ⟨rfl,rfl⟩
 case round=>obtain ⟨rfl,rfl⟩:=hrel;go_wp2_with fail;go_end0;exact ⟨rfl,rfl⟩
def aHw (b w):Calls prog 135 #[(),o0,o0,(b:Int)] w λa d=>a=.returned (.tuple #[])/\d=w:=by
 go_enter func135,ntmps135;go_wp2_with fail;go_loopw [1,2] (λe f wr=>e=.int .i64 0/\f=.int .i64 0/\wr=w) (λ_ _ _=>0)
 case atStart=>exact ⟨rfl,rfl,rfl⟩
 case round=>obtain ⟨rfl,rfl,rfl⟩:=hrel;go_wp2_with fail;refine (aHz wr).mono ?_;rintro a w1 ⟨rfl,rfl⟩;go_wp2_with fail;exact bodyPost_ret (results_none rfl _ _ _) rfl ⟨rfl,rfl⟩
def aFu (w):Calls prog 72 #[()] w λa b=>a=.returned (.tuple #[])/\b=w:=by
 have d:Calls prog 136 #[.int .u64 0] w λa b=>a=.returned (.int .i64 (Lib.bitLen (0:Int).toNat))/\b=w:=calls_of_every_depth λD=>AnyS.bits_LenIn shLen D 0 w oM oM;go_enter func72,ntmps72;go_wp2_with fail;refine d.mono ?_;rintro a w1 ⟨rfl,rfl⟩;go_wp2_with fail;refine (aHw _ w1).mono ?_;rintro a e ⟨rfl,rfl⟩;go_wp2_with fail;go_end0;exact ⟨rfl,rfl⟩
def aFt {q:Nat} {v:Value} {n:Nat} {a:List Int} {w:World} (s:w.ownsRow q 3 1 v n (a.map (Value.int .i64))) (B:a.length=n) (J:n<=1000):
 ∃A c,v=.slice A n c/\Calls prog 72 #[.slice A n c] w λb e=>b=.returned (.tuple #[])/\e.ownsRow q 3 1 (.slice A n c) n ((a.mergeSort λm o=>decide (m<=o)).map (Value.int .i64))/\Keep (λf=>(Value.slice A n c).ownBlock=some f) w e:=by
 subst B;rcases s.2 with ⟨i,t⟩|⟨g,r,I,i,j,l,C,z,F,G⟩;subst i;refine ⟨none,0,by rw [t],?_⟩;have H:a= []:=zBk t;subst H;refine (aFu w).mono ?_;rintro b e ⟨rfl,rfl⟩;exact ⟨rfl,by simpa using s,ke _ _⟩
 .subst i;refine ⟨_,r,rfl,?_⟩;have y:g < w.heap.size:=(zAh.1 l).1;have x:Sort.Holds (Value.int .i64) w g 0 a.toArray:=holds_of_blockI l (by rw [<-G];simp);refine (Any.slices_Sort_int shSrt g 0 r a w x y oM).mono ?_;rintro b e ⟨rfl,k,u,rfl⟩;have d:=grownBy_sortedI (w:=w) (g:=g) (n:=k) (os:=u) (a.mergeSort λm o=>decide (m<=o)).toArray;refine ⟨rfl,ownsRow_sortedI zs j l C z F,⟨d.os,d.tape,d.output,d.size,λf j E=>d.block f j (λb=>E b.symm)⟩⟩
def xX:(prog.info? 3).map (λa=>(a.zero,a.size,a.bytes))=some (some (.int .i64 0),1,8):=by kernel_rfl
def Rd.o {f w d e q n A r} (l:Rd w e q A n r) (k:Keep f w d) (hB:e<=w.heap.size) (t:0 < n->∀i,A=some i->¬f i.block):Rd d d.heap.size q A n r:=
 ⟨l.1,λm=>by
  obtain ⟨a,b,j,x,s⟩:=l.2 m;exact ⟨a,b,j,by have:=k.size;omega,λo v u=>(k.cell (p:=⟨a,b+o,none⟩) (by simp only;omega) (by exact t m ⟨a,b,none⟩ j)).trans (s o v u)⟩⟩
section
variable {w W : World}
def eP {a j l m o b d e f} (i:Bk W a 29 #[j,l,m,o]):
 Bk ((((W.setCell a b).setCell ⟨a,1,none⟩ d).setCell ⟨a,2,none⟩ e).setCell ⟨a,3,none⟩ f) a 29 #[b,d,e,f]:=by
 have:=(((i.set 0 b).set 1 d).set 2 e).set 3 f;simpa using this
def lL {a v0 v1 v2 v3} (b:w.heap.size<=a):Below w.heap.size w W->Below w.heap.size w ((((W.setCell a v0).setCell ⟨a,1,none⟩ v1).setCell ⟨a,2,none⟩ v2).setCell ⟨a,3,none⟩ v3):=
 λd=>(((d.setCell (p:=a) b v0).setCell (p:=⟨a,1,none⟩) b v1).setCell (p:=⟨a,2,none⟩) b v2).setCell (p:=⟨a,3,none⟩) b v3
def nB {d a v0 v1 v2 v3} (b:w.heap.size<=a):Keep d w W->Keep d w ((((W.setCell a v0).setCell ⟨a,1,none⟩ v1).setCell ⟨a,2,none⟩ v2).setCell ⟨a,3,none⟩ v3):=
 λe=>(((e.setCell (p:=a) (.inr b) v0).setCell (p:=⟨a,1,none⟩) (.inr b) v1).setCell (p:=⟨a,2,none⟩) (.inr b) v2).setCell (p:=⟨a,3,none⟩) (.inr b) v3
def iY {s v0 v1 v2 v3}:Keep (λa=>a=s) W ((((W.setCell s v0).setCell ⟨s,1,none⟩ v1).setCell ⟨s,2,none⟩ v2).setCell ⟨s,3,none⟩ v3):=
 ((((ke (λa=>a=s) W).setCell (p:=s) (.inl rfl) v0).setCell (p:=⟨s,1,none⟩) (.inl rfl) v1).setCell (p:=⟨s,2,none⟩) (.inl rfl) v2).setCell (p:=⟨s,3,none⟩) (.inl rfl) v3
end
def aCk (a b f n i):Stb (jD a b f n i):=λ_ _ _ ⟨A,c,d,e⟩ k=>⟨A,c,d,e.below k⟩
def PlS (w:World) (gp:Nat) (T:List UInt8):Prop:=∃A c,Bk w gp 89 #[.slice A T.length c]/\Rd w w.heap.size 1 A T.length (T.map bv)/\T.length<=c/\(0 < T.length->∀a,A=some a->a.block≠gp/\∃b,Bk w a.block 5 b)
def PlS.keep {w w' gp T} (l:PlS w gp T) (k:Grow w w'):PlS w' gp T:=by
 obtain ⟨A,c,e,m,o,f⟩:=l
 exact ⟨A,c,e.below k e.lt,(m.below k).mono (Below.size k),o,λd a i=>⟨(f d a i).1,by
  obtain ⟨j,b⟩:=(f d a i).2;exact ⟨j,b.below k b.lt⟩⟩⟩
structure DoF (w W:World) (g gp n c nd cd:Nat) (A AD:Option Addr) (T D:List UInt8) (aA kind p k:Int):Prop where
 low:Below w.heap.size w W
 step:Bk W w.heap.size 32 #[(kind:Int),(p:Int),(k:Int),.slice AD nd cd]
 wQ:Bk W (w.heap.size+1) 29 #[o0,o0,(),()]
 mod:Bk W g 91 #[gp,(aA:Int)]
 pl:Bk W gp 89 #[.slice A n c]
 rT:Rd W w.heap.size 1 A n (T.map bv)
 rD:Rd W w.heap.size 1 AD nd (D.map bv)
 az:gp < w.heap.size
 cv:g≠gp
 dc:g < w.heap.size
section
variable {w W W' : World} {g gp n c nd cd : Nat} {A AD : Option Addr} {T D : List UInt8} {aA kind p k : Int}
def DoF.grow (a:DoF w W g gp n c nd cd A AD T D aA kind p k) (b:Grow W W'):DoF w W' g gp n c nd cd A AD T D aA kind p k:=
 ⟨a.low.trans (zDV b a.low.size),a.step.below b a.step.lt,a.wQ.below b a.wQ.lt,a.mod.below b a.mod.lt,a.pl.below b a.pl.lt,a.rT.below (zDV b a.low.size),a.rD.below (zDV b a.low.size),a.az,a.cv,a.dc⟩
end
end
section
def rK {a b:Nat} (d:a≠b):((a:Int)==b)=false:=by rw [zCb];omega
def xW {a b:List Nat} {k n:Nat} (e:a.length=n) (f:b.length=n) (d:a.take k=b.take k) (i:n<=k):a=b:=by
 rw [zAg oM,zAg oM] at d;exact d
end
section
open Go.RowKit
def RdN (w:World) (f i:Nat) (A:Option Addr) (n:Nat) (j:List Value):Prop:=Rd w w.heap.size i A n j/\(0 < n->∀a,A=some a->f<=a.block/\∃d b e,w.heap[a.block]?=some (.cells d b e)/\(b=5∨b=3))
def RdN.o {j w r i q n A s} (b:RdN w i q A n s) (k:Keep j w r) (o:∀l,j l->l < i):RdN r i q A n s:=
 ⟨Rd.o b.1 k nL λf a e d=>by have:=(b.2 f a e).1;have:=o _ d;omega,λf a e=>by
  obtain ⟨x,t,u,v,m,y⟩:=b.2 f a e;exact ⟨x,t,u,v,(k.block _ (zAh.1 m).1 λd=>by have:=o _ d;omega).trans m,y⟩⟩
def RdN.below {w f d e n A i} (a:RdN w d e A n i) (k:Below w.heap.size w f):RdN f d e A n i:=⟨(a.1.below k).mono k.size,λt j s=>by
 obtain ⟨q,l,m,o,b,r⟩:=a.2 t j s;exact ⟨q,l,m,o,(k.block _ (zAh.1 b).1).trans b,r⟩⟩
def RdN.mono {w f i j n A l} (a:RdN w f j A n l) (m:i<=f):RdN w i j A n l:=⟨a.1,λe b d=>⟨zAk m (a.2 e b d).1,(a.2 e b d).2⟩⟩
def RdN.nil (w b d A):RdN w b d A 0 []:=⟨Rd.nil _ _ _ _,λa=>absurd a oM⟩
structure RefF (w W:World) (gx nd cd:Nat) (AD:Option Addr) (T D:List UInt8) (aA kind p k:Int):Prop where
 low:Below w.heap.size w W
 step:Bk W w.heap.size 32 #[(kind:Int),(p:Int),(k:Int),.slice AD nd cd]
 wQ:Bk W (w.heap.size+1) 29 #[o0,o0,(),()]
 mod:Bk W gx 35 #[.string ⟨T.toArray⟩,(aA:Int)]
 rD:Rd W w.heap.size 1 AD nd (D.map bv)
 ae:gx < w.heap.size
section
variable {w W W' : World} {gx nd cd : Nat} {AD : Option Addr} {T D : List UInt8} {aA kind p k : Int}
def RefF.grow (a:RefF w W gx nd cd AD T D aA kind p k) (b:Grow W W'):RefF w W' gx nd cd AD T D aA kind p k:=
 ⟨a.low.trans (zDV b a.low.size),a.step.below b a.step.lt,a.wQ.below b a.wQ.lt,a.mod.below b a.mod.lt,a.rD.below (zDV b a.low.size),a.ae⟩
end
def tJ (T D aA kind p k):(doM T aA kind p k D).2.places.length<=T.length+1:=by
 unfold doM;by_cases a:kind=1
 .rw [zBx a];split
  .simp
  .split <;> simp
 rw [zBw a];by_cases b:kind=2
 .rw [zBx b];split <;> simp
 rw [zBw b];by_cases f:kind=5
 .rw [zBx f];split <;> simp
 rw [zBw f];by_cases d:kind=3
 .rw [zBx d];split <;> simp
 rw [zBw d];by_cases e:kind=4
 .rw [zBx e];simp
 rw [zBw e];by_cases i:kind=6
 .rw [zBx i];simp
 rw [zBw i];by_cases j:kind=7;rw [zBx j];have:=wR T D (T.length+1 - D.length);simp only [dY];omega;rw [zBw j];by_cases l:kind=8
 .rw [zBx l];simp
 rw [zBw l];simp
end
end Go.Proofs.YtknjfpcdhdmghaaGreatDoor
