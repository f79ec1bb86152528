/- Lemmas of the walk. Conditions: each its own. -/
import Derived.Test.YtcoooelofcejbaaGreatDoorPd30
import Derived.Test.YtcoooelofcejbaaGreatDoorProg
import Derived.Test.YtcoooelofcejbaaGreatDoorShl
import Derived.Test.YtcoooelofcejbaaGreatDoorSht
import Derived.Test.YtcoooelofcejbaaGreatDoorShi
import Derived.Test.YtcoooelofcejbaaGreatDoorShs
import Derived.Test.YtcoooelofcejbaaGreatDoorShd
set_option linter.all false
set_option maxRecDepth 100000
set_option maxHeartbeats 4000000
open Go.Proofs.Tryz
namespace Go.Proofs.YtcoooelofcejbaaGreatDoor
open Go.RowKit
def StAt.save {k:Nat->Prop} {e:World} {f l g c j:Nat} {own:Nat->Nat} {b:List UInt8} {d:List Nat} (a:StAt e f own l g c j b k) (p:IsSuf (aF b) d):
 Calls prog 81 #[g,(c:Int)] e (eY e f (dN (aD (aF b) d) d c j b.length)):=by
 obtain ⟨t,gk,q,s,i,m,o,r,n⟩:=a.tp;obtain rfl:=i.unique p;exact rU m o i n a.r1 a.r2 a.len a.max
def pX {L:Nat->Prop} {m:Nat} {own:Nat->Nat} {l u s t:Nat} {p:List UInt8} {q:List Nat} {e:World} (v:StAt e m own l u s t p L) (F:IsSuf (aF p) q):
 Calls prog 47 #[l] e (eY e m (dN (aD (aF p) q) q s t p.length)):=by
 have x:∀w1,VB m e w1->Calls prog 81 #[u,(s:Int)] w1 (eY w1 m (dN (aD (aF p) q) q s t p.length)):=fun w1 z=>(v.vb z.1).save F;obtain ⟨n,D⟩:=eqx (dN (aD (aF p) q) q s t p.length);rw [D] at x⊢;obtain ⟨g,f⟩:=eqx n.length;obtain ⟨K,B,C⟩:=hqq3 x f v.blk;clear x v F D f;unfold eY;rw [B.out];go_enter func47,ntmps47;go_wp2_with fail;refine wp_region_any kR ?_;refine aY (S:=(VB m)) (V:=(Vs [is l,is l,is l,is u,is l,is l,is (.pointer (some ⟨l,1,none⟩)),is (s:Int),fun i j=>∃a b,i=.tuple #[.slice a g b,.int .i64 0]/\Made j e.heap.size 5 1 a g b (n.map bv),fun i j=>∃a b,i=.slice a g b/\Made j e.heap.size 5 1 a g b (n.map bv),is (.int .i64 0),fun i j=>∃a b,i=.slice a g b/\Made j e.heap.size 5 1 a g b (n.map bv),is (.int .i64 0)])) [6,7,8,9,10,11,12,13,14,15,16,2,3] _ rfl kR vR (fun _ _=>VisK.trans) (cK (by repeat' (first | exact gW _ _ | exact iZ _ | exact fun _ _ _ ⟨H,M,R,T⟩ z=>⟨H,M,R,z.1.made T dC dC⟩|(refine zAe.2 ⟨?_,?_⟩)|(intro a5 U;cases U)))) ?_ ?_
 · refine aV ?_;refine pH 0 (.pointer (some l)) ?_;refine pV 0 6 ?_;refine pV 1 7 ?_;refine sC (fun _ k c _ _ _ d _ _ _ f=>?_) ?_
   · have a3:_=_:=d 2 8 kR rfl;replace c:(VB m) e k:=bD c;have w:=c.1.bk C.out dC dC;have N:=w.cell 0;go_simp;exact f _ _ vR rfl
   refine pH 0 (.pointer (some l)) ?_;refine pV 4 10 ?_;refine pV 5 11 ?_;refine sC (fun _ k c _ _ _ d _ _ _ f=>?_) ?_
   · have a0:_=_:=d 6 12 kR rfl;replace c:(VB m) e k:=bD c;have w:=c.1.bk C.out dC dC;have N:=w.cell 1;go_simp;exact f _ _ vR rfl
   refine sC (fun _ k c _ _ _ d _ _ _ f=>?_) ?_
   · have a4:_=_:=d 3 9 kR rfl;have a1:_=_:=d 7 13 kR rfl;replace c:(VB m) e k:=bD c;go_simp;have y:=K.out k c;unfold eY at y;rw [B.out] at y;refine y.mono ?_;rintro Z a6 ⟨a,b,rfl,r,W⟩;exact f _ _ W ⟨a,b,rfl,r.mono c.1.size⟩
   refine sC (fun o k _ _ _ _ d _ _ _ f=>?_) ?_
   · have A:(fun i j=>∃a b,i=.tuple #[.slice a g b,.int .i64 0]/\Made j e.heap.size 5 1 a g b (n.map bv)) (o (.tmp 14)) k:=d 8 14 kR rfl;obtain ⟨a,b,O,r⟩:=A;go_simp;exact f _ _ vR ⟨a,b,rfl,r⟩
   refine sC (fun o k _ _ _ _ d _ _ _ f=>?_) ?_
   · have A:(fun i j=>∃a b,i=.tuple #[.slice a g b,.int .i64 0]/\Made j e.heap.size 5 1 a g b (n.map bv)) (o (.tmp 14)) k:=d 8 14 kR rfl;obtain ⟨a,b,O,r⟩:=A;go_simp;exact f _ _ vR rfl
   refine sC (fun o k _ _ _ _ d _ _ _ f=>?_) ?_
   · have X:(fun i j=>∃a b,i=.slice a g b/\Made j e.heap.size 5 1 a g b (n.map bv)) (o (.tmp 15)) k:=d 9 15 kR rfl;obtain ⟨a,b,a2,r⟩:=X;go_simp;exact f _ _ vR ⟨a,b,rfl,r⟩
   refine pV 10 16 ?_;exact aH
 · intro o G c d;replace c:(VB m) e G:=bD c;have Y:(fun i j=>∃a b,i=.slice a g b/\Made j e.heap.size 5 1 a g b (n.map bv)) (o (.tmp 2)) G:=d 11 2 rfl;have Q:o (.tmp 3)=.int .i64 0:=d 12 3 rfl;simp only [zqq];rw [Q];clear d;obtain ⟨a,b,P,E⟩:=Y;rw [P];obtain ⟨J,I⟩:=hqq2 E c;clear E c;go_wp2_with fail;go_ret2;exact ⟨a,b,rfl,J.out,I.out⟩
section
open Go
def sR {u:Program} {b:Array Oper} {v:Exit->Act->World->Prop} {k:Region.Mode} (e:Nat) (y:List Nat) (l:Nat->Prop) (g:Nat) (E:List Nat) {s:World->Prop} (r:Value->World->Prop) (q:List (Value->World->Prop)) (p:Act) {m:World} (J:(b.toList.take e).filterMap (·.dst)=y) (M:e<=b.size) (L:jW k b p.tmps.size=true) (S:((List.range b.size).all fun d=>decide (d < e)||(List.range e).all fun a=>upB k b b.size d a)=true) (P:(E.all fun a=>a==g||upB k b b.size g a)=true) (O:s m) (N:∀c i,s c->Keep l m c->Grow c i->s i) (I:Stb r) (Q:∀U∈q,yO l U) (R:∀j D,j < e->b[j]?=some D->dH u b v k (Keep l m) (uH l g) (fun a c=>E.contains a=true->s c) (VsJ g r q) p j D) (K:∀(z:Operand->Value) c f,Keep l m c->(∀a x,a < e->((b[a]?).bind (·.dst))=some x->VsJ g r q a (z (.tmp x)) c)->(∀a,a < e->∃t,VsJ g r q a t c)->wpAny u k b v (b.size - e+f) (bX e b.size) (cX z y p) c):
 wpAny u k b v b.size (Array.replicate b.size false) p m:=by
 refine tM J M L S (Keep.refl _ _) (fun _ _=>O) (fun j c i _ G d=>G.trans (iT d)) (fun a j c i _ w T n H d B=>?_) (fun a j t c i _ w _ o _ d=>?_) R K;by_cases C:j=g;exfalso;subst C;have A:=zBf.1 P a (by simpa using B);simp only [T,Bool.or_false,zCr] at A;exact w A;exact N c i (n B) H (d.2 C);unfold VsJ at o⊢;by_cases n:a=g;rw [zBx n] at o⊢;exact I t c i o (d.2 fun F=>w (n.trans F.symm));rw [zBw n] at o⊢;exact vG Q a t c i o (iT d)
end
def aIN (k:World) (a:Nat) (own:Nat->Nat) (b j d:Nat) (e:List UInt8) (g:Ending) (f:World):Prop:=
 g=.returned (.int .i64 0)/\∃c i,StAt f a c b i j d e (cY d e.length)/\LFS a b k f own c
def aEw {ab:Nat->Prop} {r:Nat} {own:Nat->Nat} {b ae O au d g:Nat} (E:Option Addr) {B:Nat} (t:Nat) {av e:List UInt8} {q:List Nat} {j:World} (k:StAt j r own b ae O au av ab) (ao:IsSuf (aF e) q) (a0:e.length<=127) (a2:1<=g) (a3:g<=64) (Y:e.length<=d) (Z:d<=2147483648) (M:(dN (aD (aF e) q) q d g e.length).length=B) (a1:Rd j j.heap.size 1 E B ((dN (aD (aF e) q) q d g e.length).map bv)) (ak:B<=t) (al:t<=maxLen):
 Calls prog 53 #[b,.slice E B t] j (aIN j r own b d g e):=by
 have z:=aBq E t d j ao a0 a2 a3 Y Z (by rw [M];exact a1) nL (by rw [M];exact ak) al;rw [M] at z;unfold xW at z;obtain ⟨R,G⟩:=hqq2 z k;clear z a1 k;go_enter func53,ntmps53;go_wp2_with fail;refine R.out.mono ?_;rintro aC w1 ⟨n,rfl,⟨a5,a4⟩,A⟩;have aM:=A.1.size;have S:=lhd A;have L:=A.1.bk G.out.blk dC dC;have W:=G.out.blk.lt;obtain ⟨v,an⟩:=eqx w1.heap.size;have w:Below w1.heap.size w1 (w1.alloc (.cells #[(d:Int),(g:Int),(e.length:Int)] 133)):=bR.alloc nL _;have X:Bk (w1.alloc (.cells #[(d:Int),(g:Int),(e.length:Int)] 133)) v 133 #[(d:Int),(g:Int),(e.length:Int)]:=an ▸ Bk.new _ _ _;have V:=L.below w L.lt;obtain ⟨H,s,P,Q,aa⟩:=hqq5 (a4.vis (Vis.of_below w)) w V X (show ¬v=b by omega);clear a4 A R w X L V;unfold rD;go_wp2_with fail;generalize ag:w1.alloc (.cells #[(d:Int),(g:Int),(e.length:Int)] 133)=W1 at H s P Q⊢;clear ag;refine wp_region_any kR ?_;refine sR 10 [18,19,20,21,22,23,24,25,26] (fun a=>a=b) 7 [7] (fun _ C=>Bk C b 47 #[n,.int .i64 (O:Int)]) [is b,is b,is n,is v,is (d:Int),is b,is b,dJ,is b,is (.pointer (some ⟨b,1,none⟩))] _ rfl dC kR kR kR (P.out) (fun w1 C k _ am=>Bk.below k am k.lt) (fun _ _ _ k ap=>Bk.below k ap k.lt) tA1 ?_ ?_
 · refine bH ?_;refine pH3 0 (.pointer (some b)) ?_;refine pH3 0 (.pointer (some b)) ?_;refine pH3 5 (.pointer (some n)) ?_;refine pH3 6 (.pointer (some v)) ?_;refine sC3 (fun _ ax m _ _ _ _ l _ _ _ o=>?_) ?_
   · replace m:Keep (fun a=>a=b) W1 ax:=kD m;have aG:_=_:=l 3 21 kR rfl;have aB:=(Keep.bk m Q.out aa.out).cell 0;go_simp;exact kq o rfl
   refine pV3 0 18 ?_;refine pV3 5 23 ?_;refine sC3 (fun _ _ _ af _ _ _ l _ _ _ o=>?_) ?_
   · have N:=af rfl;have aI:_=_:=l 6 24 kR rfl;have aE:_=_:=l 2 20 kR rfl;have aK:=N.frozen 0;have aA:=N.cell 0;go_simp;exact o (.bool true) _ (bJ (Keep.setCell (F:=fun a=>a=b) (Keep.refl _ _) (p:=b) (.inl rfl) _)) (N.set 0 _)
   refine pV3 1 19 ?_;refine pV3 8 25 ?_;exact aH
 · intro T D c m l U;replace m:Keep (fun a=>a=b) W1 D:=kD m;have ac:T (.tmp 22)=.int .i64 (d:Int):=l 4 22 dC rfl;have ad:T (.tmp 26)=.pointer (some ⟨b,1,none⟩):=l 9 26 dC rfl;simp only [zqq];rw [ac];rw [ad];clear l;obtain ⟨aw,a6⟩:=U 7 dC;have ar:(fun _ C=>Bk C b 47 #[n,.int .i64 (O:Int)]) aw D:=a6;clear a6 U;have x:=ar;have aJ:=x.frozen 1;have az:=x.cell 1;obtain ⟨a7,a9⟩:=hqq2 x m;clear x;change wpAny prog Region.Mode.any _ _ (1+c) (bX 10 11) _ D;rw [zCt 1 c];refine bL (f:=c) (i:=10) kR ?_;refine bY rfl rfl ?_;generalize o:wpAny prog _ _ _ c _=K5;go_simp;subst o;refine bO kR ?_;have y:Keep (fun a=>a=b) W1 (D.setCell ⟨b,1,none⟩ (.int .i64 (d:Int))):=a9.out.setCell (p:=⟨b,1,none⟩) (.inl rfl) _;have ah:=a7.out.set 1 (.int .i64 (d:Int));obtain ⟨ay,a8⟩:=hqq2 y ah;have J:=G.out;go_wp2_with fail;go_ret;have aL:=s.out.size;have aj:=J.size;have ai:=H.out.bnd;have I:∀a,a < j.heap.size->a5 a=0:=fun a K=>Nat.eq_zero_of_not_pos fun c=>by have:=(ai a oM).1;omega
   refine ⟨rfl,a5,n,⟨a8.out,J.low,I _ W,(H.out.far0 y (fun a c=>by have u:a=b:=c;subst u;exact I _ W)).low aj,a0,Y,Z,a2,a3⟩,⟨fun a K c=>absurd (I a K) c,?_,?_⟩⟩;exact ((VisF.of_vis S.out.1).trans' (VisF.of_vis (Vis.of_below s.out)) (fun a _ c=>c)).trans' (VisF.of_keep y) (fun a _ c=>.inr c)
   · have aq:Keep (fun a=>r<=a) j w1:=S.out.2.mono fun a K c=>by have u:j.heap.size<=a:=c;show r<=a;omega
     exact (aq.trans (Keep.of_below s.out)).trans (y.mono fun a _ c=>by have u:a=b:=c;subst u;exact J.low)
def Made.lf {o i:World} {p b:Nat} {own x:Nat->Nat} {a:TypeId} {g d f:Nat} {e:Option Addr} {j:List Value} (c:Made o b a g e d f j) (w:LF p o i own x) (t:a≠266) (u:a≠206) (v:∀k,b<=k->own k=0):Made i b a g e d f j:=by
 have m:i.ownsRow b a g (.slice e d f) d j:=by refine ⟨c.own.1,?_⟩;rcases c.own.2 with y |⟨l,q,r,z,n,A,B⟩;exact .inl y;exact .inr ⟨l,q,r,z,n,w.vis.bk A t u (fun s=>s (v l n)),B⟩
 exact ⟨m,Rd.of_own m,c.cap,c.max⟩
def aHF {b:World} {c:Nat} {i:TypeId} {a:Array Value} {e:Nat} (d:Bk b c i a) (f:a.size=e):Rd b b.heap.size 1 (some ⟨c,0,none⟩) e a.toList:=by
 refine ⟨by simp [f],fun _=>⟨_,0,rfl,d.lt,fun j k g=>?_⟩⟩;rw [zBi,d.cell];simpa using g
def aHk:(prog.info? 89).map (fun a=>(a.zero.map (·.cells.size),a.size,a.bytes))=some (some 4,4,32):=by kernel_rfl
def aFM:∃b c,prog.info? 89=some b/\b.zero=some c/\b.size=4/\b.bytes=32/\c.cells.size=4:=by
 have a:=aHk;cases e:prog.info? 89 with
 | none=>rw [e] at a;cases a
 | some b=>
   rw [e] at a;cases d:b.zero with
   | none=>simp [d] at a
   | some c=>
     simp [d] at a;exact ⟨b,c,rfl,d,a.2.1,a.2.2,a.1⟩
def aJ9 (b:List Nat) (a:Nat):(shA b a).length+1<=2 ^ a:=by
 induction a with
 | zero=>exact zAs _
 | succ a c=>
   have:=aAG b a (2 ^ a);unfold shA;rw [zAi,Nat.pow_succ];omega
def jJ (a:World) (b:List Shp) (e:Ending) (d:World):Prop:=∃c,e=.returned c/\d.ownsRow a.heap.size 89 4 c b.length (bN b)/\Below a.heap.size a d
def xA {aH g:Nat} {own:Nat->Nat} {b:List Nat} {d:World} (r:WaveE d aH own g b):
 Calls prog 130 #[g] d (jJ d (shA b 9)):=by
 obtain ⟨bj,bn,b9,bf,bg,bh,bi⟩:=aFM;obtain ⟨f,bk,r⟩:=r;have aA:=r.rows;have e:=r.blk;obtain ⟨I,ad,ae,af,ag,ah,ai,aj,ak,b2,b1⟩:=bV f (b.length:Int) bk;have bq:d.cell? g=some (f 0):=(e.cell 0).trans I;have br:d.cell? ⟨g,1,none⟩=some (f 1):=(e.cell 1).trans ad;have bs:d.cell? ⟨g,2,none⟩=some (f 2):=(e.cell 2).trans ae;have bt:d.cell? ⟨g,3,none⟩=some (f 3):=(e.cell 3).trans af;have bu:d.cell? ⟨g,4,none⟩=some (f 4):=(e.cell 4).trans ag;have bv:d.cell? ⟨g,5,none⟩=some (f 5):=(e.cell 5).trans ah;have bw:d.cell? ⟨g,6,none⟩=some (f 6):=(e.cell 6).trans ai;have bx:d.cell? ⟨g,7,none⟩=some (f 7):=(e.cell 7).trans aj;have bz:d.cell? ⟨g,8,none⟩=some (f 8):=(e.cell 8).trans ak;have aU:=lhd aA;clear aA e r I ad ae af ag ah ai aj ak b2 b1;unfold jJ;go_enter func130,ntmps130;go_wp2_with fail;go_loopw [3,14] (fun a6 m wr=>∃a:Nat,a<=9/\m=.int .i64 (a:Int)/\wr.ownsRow d.heap.size 89 4 a6 (shA b a).length (bN (shA b a))/\Below d.heap.size d wr) (fun _ m _=>9 -(intOf m).toNat)
 case atStart=>exact ⟨0,by omega,rfl,World.ownsRow_nil _ _ _ _,Below.refl _ _⟩
 case round=>
  obtain ⟨a,bG,rfl,Y,e⟩:=hrel;by_cases aq:a < 9
  · have ba:=ix9 f aq;obtain ⟨a7,t,_,a5⟩:=aU.out a aq;obtain ⟨j,p⟩:=eqx (2 ^ a);have bH:j<=512:=(by rw [<-p];exact zAk (zBp dC (by omega:a<=9)) dC);have bc:0 < j:=(by rw [<-p];exact Nat.pow_pos dC);rw [p] at t a5;obtain ⟨K,bA,am,bI,bF⟩:=World.ownsRow.form t bc;rw [am] at ba t;have a1:=aJ9 b a;rw [p] at a1;obtain ⟨aS,aL,aX,aZ,aR,aV⟩:=hqq6 Y e t a5 p a1;clear Y e t a5 am p a1;go_wp2_with fail;have b8:decide ((a:Int) < 9)=true:=zBz oM;rw [b8];go_loopw [3,19] (fun a6 m aG=>∃c:Nat,c<=j/\m=.int .i64 (c:Int)/\aG.ownsRow d.heap.size 89 4 a6 (shA b a++shL b a c).length (bN (shA b a++shL b a c))/\Below d.heap.size d aG) (fun _ m _=>j -(intOf m).toNat)
    case atStart=>exact ⟨0,zAp _,rfl,by rw [show shA b a++shL b a 0=shA b a from List.append_nil _];exact aS.out,aL.out⟩
    case round=>
        obtain ⟨c,bJ,rfl,B,n⟩:=hrel;have be:=n.size;by_cases az:c < j
        · have bL:(c:Int) < (j:Int):=oM;have C:=aM aX.out n;obtain ⟨aD,aE,aF⟩:=eU a7 a j c az;have b0:wr.cell? ⟨K,c*3,none⟩=_:=(World.ownsRow.cellAt C (c*3) oM).trans aD;have bo:wr.cell? ⟨K,c*3+1,none⟩=_:=(World.ownsRow.cellAt C (c*3+1) oM).trans aE;have bp:wr.cell? ⟨K,c*3+2,none⟩=_:=(World.ownsRow.cellAt C (c*3+2) oM).trans aF;obtain ⟨al,T⟩:=eqx (a7 c);rw [T] at b0;have a3:=aZ.out c az;rw [T] at a3;obtain ⟨ac,y⟩:=eqx (wr.alloc (.cells #[.pointer (some ⟨al,0,none⟩),(a:Int),(c:Int)] 211));obtain ⟨b4,U⟩:=eqx wr.heap.size;have Q:Below wr.heap.size wr ac:=(by rw [<-y];exact bR.alloc nL _);have A:Bk ac b4 211 #[.pointer (some ⟨al,0,none⟩),(a:Int),(c:Int)]:=(by rw [<-y,<-U];exact Bk.new _ _ _);have M:=n.trans (Q.mono be);have D:=a3.vis (Vis.of_below M);have av:=aM B Q;obtain ⟨l,R⟩:=eqx (aI b a c);rw [R] at D;have i:shL b a (c+1)=shL b a c++if l= [] then [] else [shO l]:=(by rw [<-R];rfl);have V:=eG D.at
          have I:=A.cell 0;have b7:=A.lt;obtain ⟨k,W⟩:=eqx l.length;rw [W] at V;obtain ⟨aQ,aY,aT,a8,aK,aP,a9,u,aO⟩:=hqq9 V D av M y U i W A;clear V D a3 B av n M Q y U i W C aD aE aF A T R;go_wp2_with fail;rw [aK.out]
          try rw [aP.out]
          refine aQ.out.mono ?_;rintro J bM ⟨rfl,o⟩;have z:=a8.out.trans (o.mono a8.out.size);have a4:=aY.out.vis (Vis.of_below o);have s:=aM aT.out o;have S:=aO.out.below o b7;have b3:=S.cell 0;by_cases X:k=0
          · subst X;have b6:l= []:=List.length_eq_zero_iff.1 u.out;have i:=a9.out;rw [zBx b6,List.append_nil] at i;obtain ⟨w,q,v⟩:=hqq3 s z i;clear s z i a4 S b3 o;go_wp2_with fail;go_roundw
            case rel=>exact ⟨c+1,by omega,by go_num,by rw [v.out];exact w.out,q.out⟩
            case measure=>first |(simp [intOf];omega)| simp [intOf]
          · have au:l≠ []:=fun J=>X (by rw [<-u.out,J];rfl);have i:=a9.out;rw [zBw au] at i;have bB:decide ((k:Int) > 0)=true:=zBz oM;have bD:decide (0 < k)=true:=zBz oM;have a2:=yN a4 au;have aC:(shO l).val=.agg #[(k:Int),.int .i64 0,.int .i64 1,.int .i64 1]:=(by rw [<-u.out];rfl);have aB:(shO l).cells= [.int .i64 (k:Int),.int .i64 0,.int .i64 1,.int .i64 1]:=(by rw [<-u.out];rfl);rw [aC] at a2;obtain ⟨H,x⟩:=eqx ((shA b a++shL b a c).length);have bE:H<=1024:=(by have:=aAG b a c;have:=aV.out;rw [<-x,zAi];omega);rw [x] at s;obtain ⟨w,q,v,ab,aW,aJ⟩:=hqq6 s z i a2 aB x;clear s z i a4 S o a2 aC aB x X;go_wp2_with fail;refine ab.out.mono ?_;rintro J E ⟨rfl,N⟩;have O:=q.out.trans (N.mono q.out.size);have aw:=aM w.out N;have L:Below E.heap.size E (E.alloc (.cells #[(k:Int),.int .i64 0,.int .i64 1,.int .i64 1] 89)):=bR.alloc nL _;have P:=O.trans (L.mono O.size);have ax:=aM aw L;have a0:=P.size;obtain ⟨aa,aN⟩:=hqq2 ax P;clear N O P aw ax L ab w q;go_wp2_with (at_builtin;refine bK _ rfl (.tmp 27) (.tmp 31) _ rfl d.heap.size 89 bj bn 4 32 underlying91 b9 bf bg bh bi dC u3 H _ rfl aa.out _ _ 1 1 _ rfl (vT (Bk.new E 89 #[(k:Int),.int .i64 0,.int .i64 1,.int .i64 1]) rfl) (by simp [Value.oneCell']) (by unfold maxLen;omega) oM a0 ?_;intro bl bm ay ap b5);have an:=bC aN.out aa.out ap a0;have ar:(shA b a++shL b a (c+1)).length=H+1:=(by rw [v.out,<-zCo,zAi,aJ.out];rfl);have ao:bN (shA b a++shL b a (c+1))=bN (shA b a++shL b a c)++ [.int .i64 (k:Int),.int .i64 0,.int .i64 1,.int .i64 1]:=(by rw [v.out,<-zCo,aAE];rw [<-aW.out];simp [bN]);have F:=lhd an;have G:=lhd (show bm.ownsRow d.heap.size 89 4 bl (shA b a++shL b a (c+1)).length (bN (shA b a++shL b a (c+1))) by rw [ar,ao];exact ay);clear an ay ap b5 ar ao a0;go_roundw
            case rel=>exact ⟨c+1,by omega,by go_num,G.out,F.out⟩
            case measure=>first |(simp [intOf];omega)| simp [intOf]
        · have bd:c=j:=oM;subst bd;have Z:=B;rw [show shA b a++shL b a c=shA b (a+1) by rw [<-aR.out];rfl] at Z;obtain ⟨G,F⟩:=hqq2 Z n;clear B Z n;go_wp2_with fail;go_roundw
          case rel=>exact ⟨a+1,by omega,by go_num,G.out,F.out⟩
          case measure=>first |(simp [intOf];omega)| simp [intOf]
  · have bb:a=9:=oM;subst bb;go_wp2_with fail;go_ret;exact ⟨_,rfl,Y,e⟩
def aAl (a b:Nat) (c:World) (s:a<=2147483648) (l:1<=b) (m:b<=64):
 Calls prog 8 #[(a:Int),(b:Int)] c fun j p=>∃k d own,j=.returned (.tuple #[.pointer (some ⟨k,0,none⟩),.int .i64 0])/\StAt p c.heap.size own k d a b [] (cY b 0)/\Below c.heap.size c p:=by
 have n:=sF (A0:=none) (m0:=0) (B:=c.heap.size) (ss:=[]) (t:=[]) (N:=0) (w:=c) b 0 rfl rfl (Rd.nil _ _ _ _) (fun C u=>by cases u) nL oM oM l m;have z:¬((a:Int) < 0):=oM;have v:¬((a:Int) > 2147483648):=oM;have A:decide ((a:Int) > 2147483648)=false:=zBy v;have i:=lhd n;clear n;go_enter func8,ntmps8;go_wp2_with fail;refine i.out.mono ?_;rintro j w1 ⟨d,own,rfl,y,g,e⟩;have f:Below w1.heap.size w1 (w1.alloc (.cells #[.pointer (some ⟨d,0,none⟩),(a:Int)] 47)):=bR.alloc nL _;have o:StAt (w1.alloc (.cells #[.pointer (some ⟨d,0,none⟩),(a:Int)] 47)) c.heap.size own w1.heap.size d a b [] (cY b 0):=
  ⟨Bk.new _ _ _,e.size,Nat.eq_zero_of_not_pos fun x=>by have:=(g.bnd w1.heap.size oM).2;omega,g.vis (Vis.of_below f),by simp,by simp,s,l,m⟩
 obtain ⟨r,q⟩:=hqq2 o (e.trans (f.mono e.size));clear o f e g i;go_wp2_with fail;go_ret2;exact ⟨_,d,own,rfl,r.out,q.out⟩
def aDb {a:Int} (d:Option Addr) (g e:Nat) (c:World) (k:a < 1∨a > 64):
 Calls prog 15 #[.int .i64 a,.slice d g e] c fun f j=>f=.returned (.tuple #[.pointer none,.int .i64 1])/\c=j:=by
 by_cases b:a < 1
 · have i:decide (a < 1)=true:=zBz b;go_enter func15,ntmps15;go_wp2_with fail;go_ret2;exact ⟨rfl,rfl⟩
 · have i:decide (a < 1)=false:=zBy b;have l:decide (a > 64)=true:=zBz oM;go_enter func15,ntmps15;go_wp2_with fail;go_ret2;exact ⟨rfl,rfl⟩
def yP (a:Nat) {rate:Int} (b:World) (j:a<=2147483648) (e:rate < 1∨rate > 64):
 Calls prog 8 #[(a:Int),.int .i64 rate] b fun c i=>c=.returned (.tuple #[.pointer none,.int .i64 1])/\b=i:=by
 have d:=aDb none 0 0 b e;have k:¬((a:Int) < 0):=oM;have g:¬((a:Int) > 2147483648):=oM;have l:decide ((a:Int) > 2147483648)=false:=zBy g;have f:=lhd d;clear d e;go_enter func8,ntmps8;go_wp2_with fail;refine f.out.mono ?_;rintro c w1 ⟨rfl,rfl⟩;go_wp2_with fail;go_ret2;exact ⟨rfl,rfl⟩
def aIJ {d:World} {a b:Nat} {own:Nat->Nat}:ArgZ d a own b none 0 []:=⟨Rd.nil _ _ _ _,fun c=>absurd c oM⟩
def Kp (e:World) (own:Nat->Nat) (c a:Nat) (d:TypeId) (b:Array Value):Prop:=Bk e a d b/\Ap own c a
def Kp.step {i j:World} {k c e:Nat} {own g:Nat->Nat} {b:TypeId} {d:Array Value} (a:Kp i own c e b d) (f:LFS k c i j own g) (l:b≠266) (m:b≠206):Kp j g c e b d:=⟨f.bk a.1 a.2.col a.2.ne l m,a.2.step f a.1.lt⟩
def Kp.new {g:Nat->Prop} {a:World} {f d i j k:Nat} {own:Nat->Nat} {l:List UInt8} (e:StAt a f own d i j k l g) (c:TypeId) (b:Array Value):Kp (a.alloc (.cells b c)) own d a.heap.size c b:=⟨Bk.new a c b,e.fresh nL,by have:=e.blk.lt;omega⟩
def pY (d:World) (f:Nat) (g:List Nat) (c:Nat) (i:Ending) (e:World):Prop:=∃a b,i=.returned (.slice a c b)/\Made e d.heap.size 3 1 a c b (g.map sv)/\VB f d e
def xN {s:Nat->Prop} {d:Nat} {own:Nat->Nat} {k j w x:Nat} (c:Nat) {a:List UInt8} {i:List Nat} {b:World} (e:StAt b d own k j w x a s) (g:IsSuf (aF a) i) (n:a.length+1=c):
 Calls prog 43 #[k] b (pY b d (aD (aF a) i) c):=by
 have z:=e.blk.cell 0;have f:Calls prog 78 #[j] b (pY b d (aD (aF a) i) c):=by
  obtain ⟨y,gk,B,F,v,u,D,E,C⟩:=e.tp;obtain rfl:=v.unique g;have l:(aD (aF a) y).length=c:=by rw [bF,g.len,aK,n]
  have:=sH u (cL (dM a)) (by rw [l];omega);unfold iH at this;rw [l] at this;exact this
 unfold pY at f⊢;clear e g n;go_enter func43,ntmps43;go_wp2_with fail;refine f.mono ?_;rintro A w1 ⟨p,t,rfl,m,o⟩;obtain ⟨q,r⟩:=hqq2 m o;clear f m o;go_wp2_with fail;go_ret;exact ⟨p,t,rfl,q.out,r.out⟩
def aKu (b:World):∀a:Nat,a < 16->(Instr.index 9 (.string ⟨#[48,49,50,51,52,53,54,55,56,57,97,98,99,100,101,102]⟩) (.int .u8 (a:Int))).run prog b=.ok (.int .u8 ((jN a).toNat:Int)) b
 | 0,_=>by kernel_rfl
 | 1,_=>by kernel_rfl
 | 2,_=>by kernel_rfl
 | 3,_=>by kernel_rfl
 | 4,_=>by kernel_rfl
 | 5,_=>by kernel_rfl
 | 6,_=>by kernel_rfl
 | 7,_=>by kernel_rfl
 | 8,_=>by kernel_rfl
 | 9,_=>by kernel_rfl
 | 10,_=>by kernel_rfl
 | 11,_=>by kernel_rfl
 | 12,_=>by kernel_rfl
 | 13,_=>by kernel_rfl
 | 14,_=>by kernel_rfl
 | 15,_=>by kernel_rfl
 | _+16,h=>absurd h oM
def BldAt (d:World) (a b:Nat) (c:List UInt8):Prop:=Lib.IsBuilder 36 5 a b (Lib.byteCells c) d
def BldAt.new (a:World) {b:Nat} (d:b<=a.heap.size):BldAt (a.alloc (.cells #[.pointer none,.slice none 0 0] 36)) b a.heap.size []:=
 .inl ⟨d,.slice none 0 0,heap_alloc_new a _,World.ownsRow_nil _ _ _ _,by intro c;cases c⟩
def oT {b e:Nat} {a:List UInt8} (c:UInt8) {d:World} (i:BldAt d b e a) (m:a.length<=1000000) (l:b<=d.heap.size):
 Calls prog 56 #[e,.int .u8 (c.toNat:Int)] d fun f g=>f=.returned .nilIface/\BldAt g b e (a++ [c])/\Below b d g:=
 (Any.Builder_WriteByte shWrB shWrX b e (Lib.byteCells a) (c.toNat:Int) d i (by rw [Lib.byteCells_length];omega) l).mono (by
  rintro f g ⟨rfl,j,k⟩;refine ⟨rfl,.inr ?_,k⟩;have f:Lib.byteCells (a++ [c])=Lib.byteCells a++ [Value.int .u8 (c.toNat:Int)]:=by unfold Lib.byteCells;rw [zAz];rfl
  rw [f];exact j)
def qA {b c:Nat} {d:List UInt8} {a:World} (f:BldAt a b c d) (g:b<=a.heap.size):
 Calls prog 13 #[c] a fun e i=>e=.returned (dY d)/\Below b a i:=
 Any.Builder_String_any shBSt shBStX b c d a f g
def aCs {c:Nat} {b a:Int} (e:¬jO c b a=false):0<=b/\0<=a/\b+a<=(c:Int):=by
 cases d:jO c b a with
 | false=>exact absurd d e
 | true=>
   obtain ⟨f,g,rfl,rfl,i⟩:=rE d;omega
def iV {e:List UInt8} (k:List UInt8) {d:Nat} (b m l:Int) (a:e.length<=d):(doM e (d:Int) b m l k).1.length<=d:=by
 unfold doM;by_cases f:b=1
 · rw [zBx f];split;exact a
   · split;exact a
     · rename_i c n
       have:=aCs c;simp only [zAi,zAj,zAw];omega
 rw [zBw f];by_cases g:b=2;rw [zBx g];split;exact a;simp only [zAi,zAj,zAw];omega;rw [zBw g];by_cases j:b=5
 · rw [zBx j];split <;> exact a
 rw [zBw j];by_cases i:b=3
 · rw [zBx i];split;exact a
   · rename_i c
     have:=aCs c;simp only [zAi,zAj,zAw];omega
 rw [zBw i];split;exact a;split;exact a;split;exact a;split;exact a;exact a
def fV (b a:List UInt8) (e d f c:Int):0<=(doM b e d f c a).2.code/\(doM b e d f c a).2.code<=3:=by
 unfold doM
 repeat' split
 all_goals exact ⟨by simp,by simp⟩
def lC (a b:List UInt8):(dD a b).length<=a.length+1:=by
 unfold dD nD;have:=zCv (fun c=>b.isPrefixOf (a.drop c)) (List.range (a.length+1 - b.length));rw [zCi] at this;omega
def pQ (c d:List UInt8):∀b∈dD c d,b<=c.length:=by
 intro b a;unfold dD nD at a;have:=zCj.1 (zCw.1 a).1;omega
def aFa (a b:List UInt8) (d e c:Int):doM a d 6 e c b=(a,⟨0,((dD a b).length:Int), [], []⟩):=by
 unfold doM;simp
def aAd (a b:List UInt8) (d e c:Int):doM a d 7 e c b=(a,⟨0,((dD a b).length:Int), [],dD a b⟩):=by
 unfold doM;simp
def kA {o:Nat->Prop} {a:World} {k f q t u:Nat} {own:Nat->Nat} {v:List UInt8} (n:StAt a k own f q t u v o) (b:List UInt8):∃j p e,b.length=j/\(convert 9 34 (.string ⟨b.toArray⟩)).run prog a=.ok (.slice (some a.heap.size) j p) e/\Below a.heap.size a e/\ArgZ e k own f (some ⟨a.heap.size,0,none⟩) j b:=by
 refine ⟨b.length,_,_,rfl,run_bytes_of_string (P:=prog) a 9 34 5 ⟨b.toArray⟩ underlying9 underlying34 underlying5,?_,?_⟩;exact (bR.drew).alloc nL _
 · refine ⟨?_,fun _ w g=>?_⟩
   · refine ⟨by simp,fun y=>⟨a.heap.size,0,rfl,by simp,fun i z c=>?_⟩⟩;have r:=fun l m=>cell_of_row (a.drew.alloc (.cells (bytesRow ⟨b.toArray⟩ l) 5 m)) a.heap.size i (bytesRow ⟨b.toArray⟩ l) 5 m (heap_alloc_new a.drew _);rw [zBi,r];unfold bytesRow;rw [zAf] at c;cases d:b[i]? with
     | none=>rw [d] at c;cases c
     | some x=>
       rw [d] at c;injection c with c;subst c;have s:i < b.length:=(zAc.1 d).1;rw [Array.getElem?_append_left (by simpa using s)];simp [d,bv]
   · injection g with g;subst g;refine .inr ⟨⟨n.fresh nL,by have:=n.blk.lt;show a.heap.size≠f;omega⟩,_,_,heap_alloc_new a.drew _⟩
end Go.Proofs.YtcoooelofcejbaaGreatDoor
