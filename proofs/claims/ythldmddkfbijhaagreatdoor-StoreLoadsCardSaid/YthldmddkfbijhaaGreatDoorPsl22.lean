/- Lemmas of the walk. Conditions: each its own. -/
import Derived.Test.YthldmddkfbijhaaGreatDoorPsl20
import Derived.Test.YthldmddkfbijhaaGreatDoorPsl21
import Derived.Test.YthldmddkfbijhaaGreatDoorProg
import Derived.Test.YthldmddkfbijhaaGreatDoorSht
import Derived.Test.YthldmddkfbijhaaGreatDoorShl
import Derived.Test.YthldmddkfbijhaaGreatDoorShi
import Derived.Test.YthldmddkfbijhaaGreatDoorShs
set_option linter.all false
set_option maxRecDepth 100000
set_option maxHeartbeats 2000000
open Go.Proofs.Tryz
namespace Go.Proofs.YthldmddkfbijhaaGreatDoor
open Go.RowKit
def StAt.save {w:World} {c gs gl most rate:Nat} {own:Nat->Nat} {t:List UInt8} {d:List Nat} (a:StAt w c own gs gl most rate t) (m:IsSuf (aG t) d):
 Calls prog 10 #[gl,(most:Int)] w (fB w c (eI (aE (aG t) d) d most rate t.length)):=by
 obtain ⟨o,gk,f,n,e,i,l,p,j⟩:=a.tp;obtain rfl:=e.unique m;exact rR c gl gk f rate most t o n w i l e j a.r1 a.r2 a.len a.max
def jU (m:Nat) (own:Nat->Nat) (gs gl most rate:Nat) (t:List UInt8) (p:List Nat) (w:World) (s:StAt w m own gs gl most rate t) (H:IsSuf (aG t) p):
 Calls prog 23 #[gs] w (fB w m (eI (aE (aG t) p) p most rate t.length)):=by
 have z:∀w1,VB m w w1->Calls prog 10 #[gl,(most:Int)] w1 (fB w1 m (eI (aE (aG t) p) p most rate t.length)):=fun w1 k=>(s.vb k.1).save H;obtain ⟨n,F⟩:=eqx (eI (aE (aG t) p) p most rate t.length);rw [F] at z⊢;obtain ⟨i,f⟩:=eqx n.length;obtain ⟨M,D,E⟩:=hqq3 z f s.blk;clear z s H F f;unfold fB;rw [D.out];go_enter func23,ntmps23;go_wp2_with fail;refine wp_region_any kR ?_;refine aV [6,7,8,9,10,11,12,13,14,15,16,2,3] (VB m) (Vs [is gs,is gs,is gs,is gl,is gs,is gs,is (.pointer (some ⟨gs,1,none⟩)),is (most:Int),fun v j=>∃a c,v=.tuple #[.slice a i c,.int .i64 0]/\Made j w.heap.size 5 1 a i c (n.map bv),fun v j=>∃a c,v=.slice a i c/\Made j w.heap.size 5 1 a i c (n.map bv),is (.int .i64 0),fun v j=>∃a c,v=.slice a i c/\Made j w.heap.size 5 1 a i c (n.map bv),is (.int .i64 0)]) _ _ rfl kR vR (fun _ _=>VisK.trans) (cZ (by repeat' (first | exact iG _ _ | exact jM _ | exact fun _ _ _ ⟨J,N,V,W⟩ k=>⟨J,N,V,k.1.made W dC dC⟩|(refine zAe.2 ⟨?_,?_⟩)|(intro a7 X;cases X)))) ?_ ?_
 · refine aO ?_;refine pH 0 (.pointer (some gs)) ?_;refine pV 0 6 ?_;refine pV 1 7 ?_;refine sC (fun _ l d _ _ _ e _ _ _ f=>?_) ?_
   · have a5:_=_:=e 2 8 kR rfl;replace d:(VB m) w l:=bD d;have u:=d.1.bk E.out dC dC;have O:=u.cell 0;go_simp;exact f _ _ vR rfl
   refine pH 0 (.pointer (some gs)) ?_;refine pV 4 10 ?_;refine pV 5 11 ?_;refine sC (fun _ l d _ _ _ e _ _ _ f=>?_) ?_
   · have a2:_=_:=e 6 12 kR rfl;replace d:(VB m) w l:=bD d;have u:=d.1.bk E.out dC dC;have O:=u.cell 1;go_simp;exact f _ _ vR rfl
   refine sC (fun _ l d _ _ _ e _ _ _ f=>?_) ?_
   · have a6:_=_:=e 3 9 kR rfl;have a3:_=_:=e 7 13 kR rfl;replace d:(VB m) w l:=bD d;go_simp;have A:=M.out l d;unfold fB at A;rw [D.out] at A;refine A.mono ?_;rintro a1 a8 ⟨a,c,rfl,q,Y⟩;exact f _ _ Y ⟨a,c,rfl,q.mono d.1.size⟩
   refine sC (fun o l _ _ _ _ e _ _ _ f=>?_) ?_
   · have C:(fun v j=>∃a c,v=.tuple #[.slice a i c,.int .i64 0]/\Made j w.heap.size 5 1 a i c (n.map bv)) (o (.tmp 14)) l:=e 8 14 kR rfl;obtain ⟨a,c,R,q⟩:=C;go_simp;exact f _ _ vR ⟨a,c,rfl,q⟩
   refine sC (fun o l _ _ _ _ e _ _ _ f=>?_) ?_
   · have C:(fun v j=>∃a c,v=.tuple #[.slice a i c,.int .i64 0]/\Made j w.heap.size 5 1 a i c (n.map bv)) (o (.tmp 14)) l:=e 8 14 kR rfl;obtain ⟨a,c,R,q⟩:=C;go_simp;exact f _ _ vR rfl
   refine sC (fun o l _ _ _ _ e _ _ _ f=>?_) ?_
   · have Z:(fun v j=>∃a c,v=.slice a i c/\Made j w.heap.size 5 1 a i c (n.map bv)) (o (.tmp 15)) l:=e 9 15 kR rfl;obtain ⟨a,c,a4,q⟩:=Z;go_simp;exact f _ _ vR ⟨a,c,rfl,q⟩
   refine pV 10 16 ?_;exact aD
 · intro o I d e;replace d:(VB m) w I:=bD d;have a0:(fun v j=>∃a c,v=.slice a i c/\Made j w.heap.size 5 1 a i c (n.map bv)) (o (.tmp 2)) I:=e 11 2 rfl;have U:o (.tmp 3)=.int .i64 0:=e 12 3 rfl;simp only [zqq];rw [U];clear e;obtain ⟨a,c,S,G⟩:=a0;rw [S];obtain ⟨L,K⟩:=hqq2 G d;clear G d;go_wp2_with fail;go_ret2;exact ⟨a,c,rfl,L.out,K.out⟩
section
open Go
def sJ {P:Program} {ops:Array Oper} {Q:Exit->Act->World->Prop} {md:Region.Mode} (d:Nat) (s:List Nat) (e:Nat->Prop) (c:Nat) (z:List Nat) (q:World->Prop) (p:Value->World->Prop) (o:List (Value->World->Prop)) (l:Act) (i:World)
 (L:(ops.toList.take d).filterMap (·.dst)=s) (O:d<=ops.size) (N:gR md ops l.tmps.size=true) (X:((List.range ops.size).all fun k=>decide (k < d)||(List.range d).all fun a=>upB md ops ops.size k a)=true)
 (U:(z.all fun a=>a==c||upB md ops ops.size c a)=true)
 (S:q i) (R:∀w w',q w->Keep e i w->Grow w w'->q w') (K:Stb p) (V:∀Z∈o,uJ e Z)
 (W:∀j G,j < d->ops[j]?=some G->cX P ops Q md (Keep e i) (oW e c) (fun a w=>z.contains a=true->q w) (VsJ c p o) l j G)
 (M:∀(C:Operand->Value) w f,Keep e i w->(∀a A,a < d->((ops[a]?).bind (·.dst))=some A->VsJ c p o a (C (.tmp A)) w)->(∀a,a < d->∃v,VsJ c p o a v w)->wpAny P md ops Q (ops.size - d+f) (bX d ops.size) (dG C s l) w):
 wpAny P md ops Q ops.size (Array.replicate ops.size false) l i:=by
 refine tG d s (Keep e i) (oW e c) (fun a w=>z.contains a=true->q w) (VsJ c p o) l i L O N X (Keep.refl _ _) (fun _ _=>S) (fun j w w' _ I k=>I.trans (jH k)) (fun a j w w' _ u Y m J k E=>?_) (fun a j v w w' _ u _ n _ k=>?_) W M;by_cases F:j=c;exfalso;subst F;have D:=zBf.1 U a (by simpa using E);simp only [Y,Bool.or_false,zCq] at D;exact u D;exact R w w' (m E) J (k.2 F);unfold VsJ at n⊢;by_cases m:a=c;rw [zBx m] at n⊢;exact K v w w' n (k.2 fun H=>u (m.trans H.symm));rw [zBw m] at n⊢;exact vL V a v w w' n (jH k)
end
def aC5 (w:World) (B:Nat) (own:Nat->Nat) (gs most rate:Nat) (t:List UInt8) (a:Ending) (w':World):Prop:=
 a=.returned (.int .i64 0)/\∃own' c,StAt w' B own' gs c most rate t/\LFS B gs w w' own own'
def pX (B:Nat) (own:Nat->Nat) (gs gl G aw most rate:Nat) (J:Option Addr) (H q:Nat) (ax t:List UInt8) (j:List Nat) (w:World) (c:StAt w B own gs gl G aw ax) (ar:IsSuf (aG t) j) (a6:t.length<=127)
 (a8:1<=rate) (a9:rate<=64) (a4:t.length<=most) (a5:most<=2147483648) (S:(eI (aE (aG t) j) j most rate t.length).length=H) (a7:Rd w w.heap.size 1 J H ((eI (aE (aG t) j) j most rate t.length).map bv)) (an:H<=q) (ao:q<=maxLen):
 Calls prog 29 #[gs,.slice J H q] w (aC5 w B own gs most rate t):=by
 have D:=aBv J q w.heap.size most rate t j w ar a6 a8 a9 a4 a5 (by rw [S];exact a7) nL (by rw [S];exact an) ao;rw [S] at D;unfold yH at D;obtain ⟨X,K⟩:=hqq2 D c;clear D a7 c;go_enter func29,ntmps29;go_wp2_with fail;refine X.out.mono ?_;rintro aH w1 ⟨m,rfl,⟨own1,aa⟩,E⟩;have aO:=E.1.size;have Y:=lhd E;have R:=E.1.bk K.out.blk dC dC;have a2:=K.out.blk.lt;obtain ⟨u,aq⟩:=eqx w1.heap.size;have z:Below w1.heap.size w1 (w1.alloc (.cells #[(most:Int),(rate:Int),(t.length:Int)] 30)):=bR.alloc nL _;have a3:Bk (w1.alloc (.cells #[(most:Int),(rate:Int),(t.length:Int)] 30)) u 30 #[(most:Int),(rate:Int),(t.length:Int)]:=aq ▸ Bk.new _ _ _;have a1:=R.below z R.lt;obtain ⟨L,o,V,W,af⟩:=hqq5 (aa.vis (Vis.of_below z)) z a1 a3 (show ¬u=gs by omega);clear aa E X z a3 R a1;unfold rB;go_wp2_with fail;generalize aj:w1.alloc (.cells #[(most:Int),(rate:Int),(t.length:Int)] 30)=W1 at L o V W⊢;clear aj;refine wp_region_any kR ?_;refine sJ 10 [18,19,20,21,22,23,24,25,26] (fun b=>b=gs) 7 [7] (fun l=>Bk l gs 115 #[gl,(G:Int)]) (fun _ l=>Bk l gs 115 #[m,.int .i64 (G:Int)]) [is gs,is gs,is m,is u,is (most:Int),is gs,is gs,dA,is gs,is (.pointer (some ⟨gs,1,none⟩))] _ _ rfl dC kR kR kR (V.out) (fun w1 l c _ ap=>Bk.below c ap c.lt) (fun _ _ _ c k=>Bk.below c k c.lt) tA0 ?_ ?_
 · refine bG ?_;refine pH3 0 (.pointer (some gs)) ?_;refine pH3 0 (.pointer (some gs)) ?_;refine pH3 5 (.pointer (some m)) ?_;refine pH3 6 (.pointer (some u)) ?_;refine sC3 (fun _ az e _ _ _ _ d _ _ _ n=>?_) ?_
   · replace e:Keep (fun b=>b=gs) W1 az:=kD e;have aJ:_=_:=d 3 21 kR rfl;have aF:=(Keep.bk e W.out af.out).cell 0;go_simp;exact kq n rfl
   refine pV3 0 18 ?_;refine pV3 5 23 ?_;refine sC3 (fun _ _ _ ai _ _ _ d _ _ _ n=>?_) ?_
   · have U:=ai rfl;have aK:_=_:=d 6 24 kR rfl;have aI:_=_:=d 2 20 kR rfl;have aM:=U.frozen 0;have aC:=U.cell 0;go_simp;exact n (.bool true) _ (aU (Keep.setCell (F:=fun b=>b=gs) (Keep.refl _ _) (p:=gs) (.inl rfl) _)) (U.set 0 _)
   refine pV3 1 19 ?_;refine pV3 8 25 ?_;exact aD
 · intro Z I a e d a0;replace e:Keep (fun b=>b=gs) W1 I:=kD e;have ag:Z (.tmp 22)=.int .i64 (most:Int):=d 4 22 dC rfl;have ah:Z (.tmp 26)=.pointer (some ⟨gs,1,none⟩):=d 9 26 dC rfl;simp only [zqq];rw [ag];rw [ah];clear d;obtain ⟨ay,ab⟩:=a0 7 dC;have av:(fun _ l=>Bk l gs 115 #[m,.int .i64 (G:Int)]) ay I:=ab;clear ab a0;have A:=av;have aL:=A.frozen 1;have aB:=A.cell 1;obtain ⟨ac,ae⟩:=hqq2 A e;clear A;change wpAny prog Region.Mode.any _ _ (1+a) (bX 10 11) _ I;rw [zCs 1 a];refine bC (f:=a) (i:=10) kR ?_;refine bN rfl rfl ?_;generalize n:wpAny prog _ _ _ a _=K5;go_simp;subst n;refine bT kR ?_;have C:Keep (fun b=>b=gs) W1 (I.setCell ⟨gs,1,none⟩ (.int .i64 (most:Int))):=ae.out.setCell (p:=⟨gs,1,none⟩) (.inl rfl) _;have ak:=ac.out.set 1 (.int .i64 (most:Int));obtain ⟨aA,ad⟩:=hqq2 C ak;have N:=K.out;go_wp2_with fail;go_ret;have aN:=o.out.size;have am:=N.size;have al:=L.out.bnd;have M:∀b,b < w.heap.size->own1 b=0:=fun b O=>Nat.eq_zero_of_not_pos fun a=>by have:=(al b oM).1;omega
   refine ⟨rfl,own1,m,⟨ad.out,N.low,M _ a2,(L.out.far0 C (fun b a=>by have s:b=gs:=a;subst s;exact M _ a2)).low am,a6,a4,a5,a8,a9⟩,⟨fun b O a=>absurd (M b O) a,?_,?_⟩⟩;exact ((VisF.of_vis Y.out.1).trans' (VisF.of_vis (Vis.of_below o.out)) (fun b _ a=>a)).trans' (VisF.of_keep C) (fun b _ a=>.inr a)
   · have au:Keep (fun b=>B<=b) w w1:=Y.out.2.mono fun b O a=>by have s:w.heap.size<=b:=a;show B<=b;omega
     exact (au.trans (Keep.of_below o.out)).trans (C.mono fun b _ a=>by have s:b=gs:=a;subst s;exact N.low)
def Made.lf {w w':World} {n B:Nat} {own own':Nat->Nat} {a:TypeId} {i d f:Nat} {e:Option Addr} {j:List Value} (c:Made w B a i e d f j) (k:LF n w w' own own') (s:a≠202) (u:a≠154) (z:∀b,B<=b->own b=0):Made w' B a i e d f j:=by
 have l:w'.ownsRow B a i (.slice e d f) d j:=by refine ⟨c.own.1,?_⟩;rcases c.own.2 with A |⟨g,o,p,C,m,D,E⟩;exact .inl A;exact .inr ⟨g,o,p,C,m,k.vis.bk D s u (fun q=>q (z g m)),E⟩
 exact ⟨l,Rd.of_own l,c.cap,c.max⟩
def aHG {w:World} {g:Nat} {t:TypeId} {cs:Array Value} {c:Nat} (a:Bk w g t cs) (d:cs.size=c):Rd w w.heap.size 1 (some ⟨g,0,none⟩) c cs.toList:=by
 refine ⟨by simp [d],fun _=>⟨_,0,rfl,a.lt,fun f i e=>?_⟩⟩;rw [zBi,a.cell];simpa using e
def StDone (w:World) (B:Nat) (own:Nat->Nat) (gs most rate:Nat) (T:List UInt8) (r:Told) (c:Ending) (w':World):Prop:=
 ∃A1 c1 A2 c2 own' d,c=.returned (.agg (jN r A1 c1 A2 c2))/\StAt w' B own' gs d most rate T/\LFS B gs w w' own own'/\Made w' w.heap.size 5 1 A1 r.data.length c1 (r.data.map bv)/\Made w' w.heap.size 3 1 A2 r.places.length c2 (r.places.map nv)/\(∀a,A1=some a->own' a.block=0)/\(∀a,A2=some a->own' a.block=0)
section
variable {w w1 w' : World} {B gs gl most rate : Nat} {own own' : Nat -> Nat} {T : List UInt8}
def LFS.put (a:LFS B gs w w1 own own') {p:Addr} (d:w.heap.size<=p.block) (e:B<=p.block) (c:Value):LFS B gs w (w1.setCell p c) own own':=
 ⟨a.old,VisF.put a.vis (.inr d) c,a.keep.setCell (.inr d) c⟩
def StAt.put (e:StAt w B own gs gl most rate T) {p:Addr} (f:Ap own gs p.block) (a:Value):StAt (w.setCell p a) B own gs gl most rate T:=
 e.far (Keep.setCell (F:=fun b=>b=p.block) (Keep.refl _ _) (.inl rfl) a) fun b c=>by have d:b=p.block:=c;rw [d];exact f
def iQ {c i:Nat} {t a:TypeId} {cs n:_} {e l f:Nat} {d:Option Addr} (o:Made w e a 1 d l f n) (q:Bk w c t cs) (s:a≠t) (m:Value):Made (w.setCell ⟨c,i,none⟩ m) e a 1 d l f n:=
 nZ o fun b u j=>j.far (p:=⟨c,i,none⟩) (Bk.ne j q s) m
def kP {z:Array Value} {a:Nat} {I J K L:Value} {A1 A2:Option Addr} {n1 c1 n2 c2:Nat} {e j:Int} {c:List UInt8} {d:List Nat} {s:Exit} (R:s=.ret∨s=.normal) (W:z.getD 4 undef=.pointer (some a)) (u:Bk w1 a 50 #[I,J,K,L])
 (Y:StAt w1 B own' gs gl most rate T) (S:LFS B gs w w1 own own') (Z:B<=w.heap.size) (o:w.heap.size<=a) (n:Ap own' gs a) (O:c.length=n1) (X:d.length=n2) (U:Made w1 w.heap.size 5 1 A1 n1 c1 (c.map bv)) (V:Made w1 w.heap.size 3 1 A2 n2 c2 (d.map nv)) (G:∀l,A1=some l->own' l.block=0) (H:∀l,A2=some l->own' l.block=0):
 bodyPost prog f22 (StDone w B own gs most rate T ⟨e,j,c,d⟩) s ⟨z, []⟩ ((((w1.setCell a (.int .i64 e)).setCell ⟨a,1,none⟩ (.int .i64 j)).setCell ⟨a,2,none⟩ (.slice A1 n1 c1)).setCell ⟨a,3,none⟩ (.slice A2 n2 c2)):=by
 subst O X;have b1:=u.set 0 (.int .i64 e);have b2:=b1.set 1 (.int .i64 j);have q:=b2.set 2 (.slice A1 c.length c1);have M:=q.set 3 (.slice A2 d.length c2);have m:B<=a:=oM;have D:=(((Y.put (p:=a) n (.int .i64 e)).put (p:=⟨a,1,none⟩) n (.int .i64 j)).put (p:=⟨a,2,none⟩) n (.slice A1 c.length c1)).put (p:=⟨a,3,none⟩) n (.slice A2 d.length c2);have A:=(((S.put (p:=a) o m (.int .i64 e)).put (p:=⟨a,1,none⟩) o m (.int .i64 j)).put (p:=⟨a,2,none⟩) o m (.slice A1 c.length c1)).put (p:=⟨a,3,none⟩) o m (.slice A2 d.length c2);have E:=iQ (i:=3) (iQ (i:=2) (iQ (i:=1) (iQ (i:=0) U u dC (.int .i64 e)) b1 dC (.int .i64 j)) b2 dC (.slice A1 c.length c1)) q dC (.slice A2 d.length c2);have F:=iQ (i:=3) (iQ (i:=2) (iQ (i:=1) (iQ (i:=0) V u dC (.int .i64 e)) b1 dC (.int .i64 j)) b2 dC (.slice A1 c.length c1)) q dC (.slice A2 d.length c2);have N:Bk ((((w1.setCell a (.int .i64 e)).setCell ⟨a,1,none⟩ (.int .i64 j)).setCell ⟨a,2,none⟩ (.slice A1 c.length c1)).setCell ⟨a,3,none⟩ (.slice A2 d.length c2)) a 50 (jN ⟨e,j,c,d⟩ A1 c1 A2 c2):=by simpa [jN] using M
 have C:=results_cell_row (P:=prog) (fn:=f22) (p:=4) (ty:=50) rfl z _ a 50 (jN ⟨e,j,c,d⟩ A1 c1 A2 c2) (0,0) _ W N underlying50 rfl kR;rcases R with rfl | rfl;exact bodyPost_ret C rfl ⟨A1,c1,A2,c2,own',gl,rfl,D,A,E,F,G,H⟩;exact bodyPost_end C rfl ⟨A1,c1,A2,c2,own',gl,rfl,D,A,E,F,G,H⟩
end
structure DoW (w W:World) (B:Nat) (own:Nat->Nat) (gs gl most rate:Nat) (t:List UInt8) (kind p n:Int) (A:Option Addr) (m c:Nat):Prop where
 low:Below w.heap.size w W
 box:Bk W w.heap.size 46 #[.int .i64 kind,.int .i64 p,.int .i64 n,.slice A m c]
 res:Bk W (w.heap.size+1) 50 #[.int .i64 0,.int .i64 0,.slice none 0 0,.slice none 0 0]
 st:StAt W B own gs gl most rate t
 ap:Ap own gs (w.heap.size+1)
 sz:W.heap.size=w.heap.size+2
 fr:∀b,w.heap.size<=b->own b=0
 bs:B<=w.heap.size
def DoW.mk' {w:World} {B:Nat} {own:Nat->Nat} {gs gl most rate:Nat} {t:List UInt8} (f l j:Int) (c:Option Addr) (i d:Nat) (a:StAt w B own gs gl most rate t):
 DoW w ((w.alloc (.cells #[.int .i64 f,.int .i64 l,.int .i64 j,.slice c i d] 46)).alloc (.cells #[.int .i64 0,.int .i64 0,.slice none 0 0,.slice none 0 0] 50)) B own gs gl most rate t f l j c i d:=by
 have e:Below w.heap.size w ((w.alloc (.cells #[.int .i64 f,.int .i64 l,.int .i64 j,.slice c i d] 46)).alloc (.cells #[.int .i64 0,.int .i64 0,.slice none 0 0,.slice none 0 0] 50)):=(bR.alloc nL _).alloc (by simp) _;have m:=Bk.new (w.alloc (.cells #[.int .i64 f,.int .i64 l,.int .i64 j,.slice c i d] 46)) 50 #[.int .i64 0,.int .i64 0,.slice none 0 0,.slice none 0 0];rw [World.size_alloc] at m;exact ⟨e,(Bk.new w _ _).alloc _,m,a.vb (Vis.of_below e),⟨a.fresh oM,by have:=a.blk.lt;omega⟩,by rw [World.size_alloc,World.size_alloc],fun b e=>a.fresh e,a.size⟩
def zZ {w:World} {B:Nat} {own:Nat->Nat} {gs gl most rate:Nat} {t:List UInt8} {i:Array Value} (cs:Array Value) (a c:Int) {d:Exit} (q:StAt w B own gs gl most rate t) (s:d=.ret∨d=.normal) (u:i.getD 4 undef=.pointer (some ⟨w.heap.size+1,0,none⟩)):
 bodyPost prog f22 (StDone w B own gs most rate t ⟨a,c, [], []⟩) d ⟨i, []⟩ ((w.alloc (.cells cs 46)).alloc (.cells #[.int .i64 a,.int .i64 c,.slice none 0 0,.slice none 0 0] 50)):=by
 have j:Below w.heap.size w ((w.alloc (.cells cs 46)).alloc (.cells #[.int .i64 a,.int .i64 c,.slice none 0 0,.slice none 0 0] 50)):=(bR.alloc nL _).alloc (by simp) _;have l:=Bk.new (w.alloc (.cells cs 46)) 50 #[.int .i64 a,.int .i64 c,.slice none 0 0,.slice none 0 0];rw [World.size_alloc] at l;have m:=results_cell_row (P:=prog) (fn:=f22) (p:=4) (ty:=50) rfl i _ (w.heap.size+1) 50 (jN ⟨a,c, [], []⟩ none 0 none 0) (0,0) _ u l underlying50 rfl kR;have n:StDone w B own gs most rate t ⟨a,c, [], []⟩ (.returned (.agg (jN ⟨a,c, [], []⟩ none 0 none 0))) ((w.alloc (.cells cs 46)).alloc (.cells #[.int .i64 a,.int .i64 c,.slice none 0 0,.slice none 0 0] 50)):=
  ⟨none,0,none,0,own,gl,rfl,q.vb (Vis.of_below j),LFS.of_below B gs own j,bB _ _ _,bB _ _ _,(fun o e=>by cases e),(fun o e=>by cases e)⟩
 rcases s with rfl | rfl;exact bodyPost_ret m rfl n;exact bodyPost_end m rfl n
def gI (B:Nat) (own:Nat->Nat) (gs gl most rate:Nat) (t T2:List UInt8) (e p o:Int) (j:Option Addr) (n l:Nat) (s:Int) (w:World) (z:StAt w B own gs gl most rate t) (M:e=1∨e=2∨e=3)
 (D:∀f,StAt f B own gs gl most rate t->LFS B gs w f own own->Calls prog 74 #[gs,.agg #[.int .i64 e,.int .i64 p,.int .i64 o,.slice j n l]] f fun u w'=>u=.returned (.int .i64 s)/\∃own',StAt w' B own' gs gl most rate T2/\LFS B gs f w' own own'):
 Calls prog 22 #[gs,aY e p o j n l] w (StDone w B own gs most rate T2 ⟨s,0, [], []⟩):=by
 have d:=DoW.mk' e p o j n l z;have C:=D _ d.st (LFS.of_below B gs own d.low);have N:=d.box.cell 0;have c1:=d.box.cell 1;have c2:=d.box.cell 2;have O:=d.box.cell 3;obtain ⟨c,q⟩:=hqq2 d C;clear d C D z;unfold aY;rcases M with rfl | rfl | rfl
 all_goals
  go_enter func22,ntmps22;go_wp2_with fail;refine q.out.mono ?_;rintro u w1 ⟨rfl,own',F,i⟩;have a:=i.bk c.out.res c.out.ap.col c.out.ap.ne dC dC;have A:=c.out.ap.step i c.out.res.lt;have E:=(LFS.of_below B gs own c.out.low).trans i;have H:=lhd c.out.bs;have W:=a.cell 0;have X:=a.cell 1;have Y:=a.cell 2;have Z:=a.cell 3;have R:=a.frozen 0;have S:=a.frozen 1;have U:=a.frozen 2;have V:=a.frozen 3;obtain ⟨K,J,I,G⟩:=hqq4 a F E A;clear a F E i A q c;go_wp2_with fail;exact kP (.inl rfl) rfl K.out J.out I.out H.out oM G.out rfl rfl (bB _ _ _) (bB _ _ _) (fun L m=>by cases m) (fun L m=>by cases m)
def aC8 (B:Nat) (own:Nat->Nat) (gs gl most rate e:Nat) (t:List UInt8) (m l:Int) (d:Option Addr) (j f:Nat) (w:World) (c:StAt w B own gs gl most rate t) (p:t.length=e):
 Calls prog 22 #[gs,aY 4 m l d j f] w (StDone w B own gs most rate t ⟨0,(e:Int), [], []⟩):=by
 have a:=DoW.mk' 4 m l d j f c;have i:=a.st.llen p;have q:=a.box.cell 0;have H:=a.st.blk.cell 0;have D:=a.res.cell 0;have E:=a.res.cell 1;have F:=a.res.cell 2;have G:=a.res.cell 3;have u:=a.res.frozen 0;have z:=a.res.frozen 1;have A:=a.res.frozen 2;have C:=a.res.frozen 3;obtain ⟨n,o⟩:=hqq2 c i;clear a i c;unfold aY;go_enter func22,ntmps22;go_wp2_with fail;refine o.out.mono ?_;rintro s w1 ⟨rfl,rfl⟩;go_wp2_with fail;exact zZ _ _ _ n.out (.inl rfl) rfl
def aC9 (B:Nat) (own:Nat->Nat) (gs gl most rate:Nat) (t:List UInt8) (a m l:Int) (f:Option Addr) (j i:Nat) (w:World) (e:StAt w B own gs gl most rate t) (d:∀k:Int,1<=k->k<=8->a≠k):
 Calls prog 22 #[gs,aY a m l f j i] w (StDone w B own gs most rate t ⟨1,0, [], []⟩):=by
 have c:=DoW.mk' a m l f j i e;have o:=c.box.cell 0;have z:=c.res.cell 0;have A:=c.res.cell 1;have C:=c.res.cell 2;have D:=c.res.cell 3;have p:=c.res.frozen 0;have q:=c.res.frozen 1;have s:=c.res.frozen 2;have u:=c.res.frozen 3;have E:(a==1)=false:=zCb.2 (d 1 dC dC);have F:(a==2)=false:=zCb.2 (d 2 dC dC);have G:(a==3)=false:=zCb.2 (d 3 dC dC);have H:(a==4)=false:=zCb.2 (d 4 dC dC);have I:(a==5)=false:=zCb.2 (d 5 dC dC);have J:(a==6)=false:=zCb.2 (d 6 dC dC);have K:(a==7)=false:=zCb.2 (d 7 dC dC);have L:(a==8)=false:=zCb.2 (d 8 dC dC);have n:=lhd e;clear c e d;unfold aY;go_enter func22,ntmps22;go_wp2_with fail;exact zZ _ _ _ n.out (.inl rfl) rfl
def aET (B:Nat) (own:Nat->Nat) (gs gl most rate:Nat) (t:List UInt8) (R O:Int) (i:Option Addr) (N j:Nat) (w:World) (s:StAt w B own gs gl most rate t):
 Calls prog 22 #[gs,aY 8 R O i N j] w (StDone w B own gs most rate t ⟨0,0, [], []⟩):=by
 obtain ⟨c,f⟩:∃c,IsSuf (aG t) c:=by obtain ⟨c,gk,a6,ab,f,_⟩:=s.tp;exact ⟨c,f⟩
 have l:=DoW.mk' 8 R O i N j s;have o:=jU B own gs gl most rate t c _ l.st f;unfold fB at o;obtain ⟨Z,z⟩:=eqx ((eI (aE (aG t) c) c most rate t.length).length);rw [z] at o;have G:=fun i j w1 (e:StAt w1 B own gs gl most rate t)=>pX B own gs gl most rate most rate i Z j t t c w1 e f e.n127 e.r1 e.r2 e.len e.max z;have a0:=l.box.cell 0;obtain ⟨d,E,A⟩:=hqq3 l o G;clear l o G s z f;unfold aY;go_enter func22,ntmps22;go_wp2_with fail;refine E.out.mono ?_;rintro Y w1 ⟨A1,c1,rfl,n,p⟩;have L:=d.out.st.vb p.1;have J:=(LFS.of_below B gs own d.out.low).trans (LFS.of_vb gs own p);have K:=p.1.bk d.out.res dC dC;have H:=A.out A1 c1 w1 L n.rd n.cap n.max;obtain ⟨C,D,q⟩:=hqq3 H J K;clear L J K H n p E A;go_wp2_with fail;refine C.out.mono ?_;rintro Y ac ⟨rfl,own',a5,M,m⟩;have a:=m.bk q.out d.out.ap.col d.out.ap.ne dC dC;have F:=d.out.ap.step m q.out.lt;have I:=D.out.trans m;have a7:=a.cell 0;have a8:=a.cell 1;have a9:=a.cell 2;have aa:=a.cell 3;have a1:=a.frozen 0;have a2:=a.frozen 1;have a3:=a.frozen 2;have a4:=a.frozen 3;obtain ⟨W,V,U,S⟩:=hqq4 a M I F;clear a M I m F C D q;go_wp2_with fail;exact kP (.inl rfl) rfl W.out V.out U.out d.out.bs oM S.out rfl rfl (bB _ _ _) (bB _ _ _) (fun X u=>by cases u) (fun X u=>by cases u)
def aBF (B gl rate a:Nat) (t:List UInt8) (c e:Int) (w:World) (i:TpAt w B gl t rate) (D:t.length=a) (j:iE a c e=false):
 Calls prog 75 #[gl,.int .i64 c,.int .i64 e] w fun d w'=>d=.returned (.tuple #[.slice none 0 0,.int .i64 2])/\w=w':=by
 have p:Calls prog 37 #[gl] w fun d w'=>d=.returned (.int .i64 (a:Int))/\w=w':=by obtain ⟨I,gk,C,H,s,o,F,G,q⟩:=i;exact cF B gl _ a w o.lvw (by rw [bZ,s.len,aM,D]) oM
 have q:a<=127:=by obtain ⟨I,gk,C,H,s,o,F,G,q⟩:=i;omega
 unfold iE at j;have E:=of_decide_eq_false j;have f:=lhd p;clear i p j;by_cases l:c < 0
 · have u:decide (c < 0)=true:=zBz l;go_enter func75,ntmps75;go_wp2_with fail;go_ret2;exact ⟨rfl,rfl⟩
 · have u:decide (c < 0)=false:=zBy l;by_cases m:e < 0
   · have z:decide (e < 0)=true:=zBz m;go_enter func75,ntmps75;go_wp2_with fail;go_ret2;exact ⟨rfl,rfl⟩
   · have z:decide (e < 0)=false:=zBy m;by_cases n:c > (a:Int)
     · have A:decide (c > (a:Int))=true:=zBz n;go_enter func75,ntmps75;go_wp2_with fail;refine f.out.mono ?_;rintro d w1 ⟨rfl,rfl⟩;go_wp2_with fail;go_ret2;exact ⟨rfl,rfl⟩
     · have A:decide (c > (a:Int))=false:=zBy n;have K:IntKind.i64.wrap ((a:Int) - c)=(a:Int) - c:=(by rw [IntKind.wrap_i64];omega);have J:decide (e > (a:Int) - c)=true:=zBz oM;clear E;go_enter func75,ntmps75;go_wp2_with fail;refine f.out.mono ?_;rintro d w1 ⟨rfl,rfl⟩;go_wp2_with fail;refine f.out.mono ?_;rintro d w1 ⟨rfl,rfl⟩;go_wp2_with fail;go_ret2;exact ⟨rfl,rfl⟩
def rQ (B:Nat) (own:Nat->Nat) (gs gl most rate:Nat) (t:List UInt8) (A D:Int) (G:Option Addr) (L H:Nat) (w:World) (I:StAt w B own gs gl most rate t) (m:List UInt8) (p:Int) (f:Nat) (aa:m.length=f)
 (W:∀n,StAt n B own gs gl most rate t->LFS B gs w n own own->Calls prog 75 #[gl,.int .i64 A,.int .i64 D] n fun R w'=>∃a c,R=.returned (.tuple #[.slice a f c,.int .i64 p])/\Made w' n.heap.size 5 1 a f c (m.map bv)/\VB B n w'):
 Calls prog 22 #[gs,aY 5 A D G L H] w (StDone w B own gs most rate t ⟨p,0,m, []⟩):=by
 have z:=DoW.mk' 5 A D G L H I;have F:=fun i (k:VB B _ i)=>W i (z.st.vb k.1) ((LFS.of_below B gs own z.low).trans (LFS.of_vb gs own k));have aw:=I.blk.lt;have a5:=z.box.cell 0;have c1:=z.box.cell 1;have c2:=z.box.cell 2;have ag:=z.st.blk.cell 0;obtain ⟨o,N⟩:=hqq2 z F;clear z F I W;unfold aY;go_enter func22,ntmps22;go_wp2_with fail;generalize (w.alloc (.cells #[.int .i64 5,.int .i64 A,.int .i64 D,.slice G L H] 46)).alloc (.cells #[.int .i64 0,.int .i64 0,.slice none 0 0,.slice none 0 0] 50)=n at*
 clear a5 c1 c2 ag;refine wp_region_any kR ?_;refine aV [34,35,36,37,38,39,40,41,42,33,43,44,5,6] (VB B) (Vs [is gs,is gs,is gs,is gl,is (.pointer (some ⟨w.heap.size,1,none⟩)),is (.int .i64 A),is (.pointer (some ⟨w.heap.size,2,none⟩)),is (.int .i64 D),fun v j=>∃a c,v=.tuple #[.slice a f c,.int .i64 p]/\Made j w.heap.size 5 1 a f c (m.map bv),fun v j=>∃a c,v=.tuple #[.slice a f c,.int .i64 p]/\Made j w.heap.size 5 1 a f c (m.map bv),fun v j=>∃a c,v=.slice a f c/\Made j w.heap.size 5 1 a f c (m.map bv),is (.int .i64 p),fun v j=>∃a c,v=.slice a f c/\Made j w.heap.size 5 1 a f c (m.map bv),is (.int .i64 p)]) _ _ rfl kR vR (fun _ _=>VisK.trans) (cZ (by repeat' (first | exact iG _ _ | exact jM _ | exact fun _ _ _ ⟨a,c,a7,a8⟩ k=>⟨a,c,a7,k.1.made a8 dC dC⟩|(refine zAe.2 ⟨?_,?_⟩)|(intro A F;cases F)))) ?_ ?_
 · refine aO ?_;refine pH 0 (.pointer (some gs)) ?_;refine pV 0 34 ?_;refine pV 1 35 ?_;refine sC (fun _ i d _ _ _ e _ _ _ l=>?_) ?_
   · have ah:_=_:=e 2 36 kR rfl;replace d:(VB B) n i:=bD d;have a9:=d.1.bk o.out.st.blk dC dC;have O:=a9.cell 0;go_simp;exact l _ _ vR rfl
   refine pH 3 (.pointer (some w.heap.size)) ?_;refine sC (fun _ i d _ _ _ e _ _ _ l=>?_) ?_
   · have aj:_=_:=e 4 38 kR rfl;replace d:(VB B) n i:=bD d;have K:=d.1.bk o.out.box dC dC;have O:=K.cell 1;go_simp;exact l _ _ vR rfl
   refine pH 3 (.pointer (some w.heap.size)) ?_;refine sC (fun _ i d _ _ _ e _ _ _ l=>?_) ?_
   · have al:_=_:=e 6 40 kR rfl;replace d:(VB B) n i:=bD d;have K:=d.1.bk o.out.box dC dC;have O:=K.cell 2;go_simp;exact l _ _ vR rfl
   refine sC (fun _ i d _ _ _ e _ _ _ l=>?_) ?_
   · have ai:_=_:=e 3 37 kR rfl;have ak:_=_:=e 5 39 kR rfl;have am:_=_:=e 7 41 kR rfl;replace d:(VB B) n i:=bD d;have ac:=d.1.size;go_simp;refine (N.out i d).mono ?_;rintro R aB ⟨a,c,rfl,E,ab⟩;exact l _ _ ab ⟨a,c,rfl,⟨cB E.own (zAk o.out.low.size ac),E.rd,E.cap,E.max⟩⟩
   refine sC (fun q i _ _ _ _ e _ _ _ l=>?_) ?_
   · have ad:(fun v j=>∃a c,v=.tuple #[.slice a f c,.int .i64 p]/\Made j w.heap.size 5 1 a f c (m.map bv)) (q (.tmp 42)) i:=e 8 42 kR rfl;obtain ⟨a,c,an,s⟩:=ad;go_simp;exact l _ _ vR ⟨a,c,rfl,s⟩
   refine sC (fun q i _ _ _ _ e _ _ _ l=>?_) ?_
   · have M:(fun v j=>∃a c,v=.tuple #[.slice a f c,.int .i64 p]/\Made j w.heap.size 5 1 a f c (m.map bv)) (q (.tmp 33)) i:=e 9 33 kR rfl;obtain ⟨a,c,a6,s⟩:=M;go_simp;exact l _ _ vR ⟨a,c,rfl,s⟩
   refine sC (fun q i _ _ _ _ e _ _ _ l=>?_) ?_
   · have M:(fun v j=>∃a c,v=.tuple #[.slice a f c,.int .i64 p]/\Made j w.heap.size 5 1 a f c (m.map bv)) (q (.tmp 33)) i:=e 9 33 kR rfl;obtain ⟨a,c,a6,s⟩:=M;go_simp;exact l _ _ vR rfl
   refine sC (fun q i _ _ _ _ e _ _ _ l=>?_) ?_
   · have ae:(fun v j=>∃a c,v=.slice a f c/\Made j w.heap.size 5 1 a f c (m.map bv)) (q (.tmp 43)) i:=e 10 43 kR rfl;obtain ⟨a,c,ao,s⟩:=ae;go_simp;exact l _ _ vR ⟨a,c,rfl,s⟩
   refine pV 11 44 ?_;exact aD
 · intro q Z d e;replace d:(VB B) n Z:=bD d;have af:(fun v j=>∃a c,v=.slice a f c/\Made j w.heap.size 5 1 a f c (m.map bv)) (q (.tmp 5)) Z:=e 12 5 rfl;have U:q (.tmp 6)=.int .i64 p:=e 13 6 rfl;simp only [zqq];rw [U];clear e;obtain ⟨a,c,S,s⟩:=af;rw [S];clear S U;have u:=d.1.bk o.out.res dC dC;have V:=(LFS.of_below B gs own o.out.low).trans (LFS.of_vb gs own d);have X:=o.out.st.vb d.1;have Y:∀C,a=some C->own C.block=0:=fun C J=>by subst J;exact o.out.fr _ (s.own.lt (k:=C.block) rfl).1
   have ax:=u.cell 0;have ay:=u.cell 1;have az:=u.cell 2;have aA:=u.cell 3;have aq:=u.frozen 0;have ar:=u.frozen 1;have au:=u.frozen 2;have av:=u.frozen 3;obtain ⟨a4,a2,a0,a3,a1⟩:=hqq5 u X V Y s;clear u X V d Y s N;go_wp2_with fail;exact kP (.inl rfl) rfl a4.out a2.out a0.out o.out.bs oM o.out.ap aa rfl a1.out (bB _ _ _) a3.out (fun C J=>by cases J)
def zB (B:Nat) (own:Nat->Nat) (gs gl most rate:Nat) (t p:List UInt8) (A D:Int) (m:Option Addr) (j o:Nat) (w:World) (s:StAt w B own gs gl most rate t) (H:ArgZ w B own gs m j p) (aG:j<=1000000):
 Calls prog 22 #[gs,aY 6 A D m j o] w (StDone w B own gs most rate t ⟨0,((fH t p).length:Int), [], []⟩):=by
 have u:=DoW.mk' 6 A D m j o s;have ab:p.length=j:=by simpa using H.1.1
 have N:=H.vis u.low;have aF:=s.blk.lt;have J:∀c g,VB B ((w.alloc (.cells #[.int .i64 6,.int .i64 A,.int .i64 D,.slice m j o] 46)).alloc (.cells #[.int .i64 0,.int .i64 0,.slice none 0 0,.slice none 0 0] 50)) c->Bk c g 26 #[.slice m j o]->Calls prog 76 #[gl,.slice (some ⟨g,0,none⟩) 1 1] c fun L w'=>L=.returned (.int .i64 ((fH t p).length:Int))/\VB B c w':=fun c g V ac=>by
  have ah:TxtAt c B gl t:=by obtain ⟨al,gk,aE,aM,an,ao,aP,aQ,aq⟩:=(u.st.vb V.1).tp;exact ⟨al,an,ao.lvw,aq⟩
  have aa:=(N.step (LFS.of_vb gs own V)).1;have:=aBq B gl t (some ⟨g,0,none⟩) 1 1 c.heap.size [(⟨m,j,o,p⟩:Sl)] p (by simp [gX]) c ah (aHG ac rfl) (fun aN S=>by simp at S;subst S;exact aa) nL oM oM;rw [<-aEg,qP] at this;exact this
 obtain ⟨F,X⟩:=eqx ((fH t p).length);rw [X] at J⊢;have a5:=u.box.cell 0;obtain ⟨q,a0⟩:=hqq2 u J;clear u J s H N ab X;unfold aY;go_enter func22,ntmps22;go_wp2_with fail;generalize (w.alloc (.cells #[.int .i64 6,.int .i64 A,.int .i64 D,.slice m j o] 46)).alloc (.cells #[.int .i64 0,.int .i64 0,.slice none 0 0,.slice none 0 0] 50)=W at*
 clear a5;refine wp_region_any kR ?_;refine cD B 9 [50,51,52,53,54,55,56,57,58] (fun _=>False) 8 [] (fun _=>True) (fun v _=>v=.agg #[.int .i64 0,(F:Int),.slice none 0 0,.slice none 0 0]) [is gs,is gs,is gs,is gl,is (.pointer (some ⟨w.heap.size,3,none⟩)),is (.slice m j o),fun x K=>∃g,x=.slice (some ⟨g,0,none⟩) 1 1/\Bk K g 26 #[.slice m j o],is (F:Int),dA] _ _ rfl dC kR kR kR (trivial) (fun _ _ _ _ _=>trivial) (fun _ _ _ s _=>s) (by repeat' (first | exact iG _ _ | exact jM _ | exact fun _ _ _ ⟨g,a8,a9⟩ k=>⟨g,a8,k.1.bk a9 dC dC (fun d=>d)⟩|(refine zAe.2 ⟨?_,?_⟩)|(intro A ag;cases ag))) ?_ ?_
 · refine bG ?_;refine pH3 0 (.pointer (some gs)) ?_;refine pV3 0 50 ?_;refine pV3 1 51 ?_;refine sC3 (fun _ c a _ _ _ _ e _ _ _ l=>?_) ?_
   · replace a:VFB B (fun _=>False) W c:=fD a;have ar:_=_:=e 2 52 kR rfl;have z:=a.to_vb (fun _ _ d=>d);have ae:=z.1.bk q.out.st.blk dC dC;have a6:=ae.cell 0;go_simp;exact l _ _ (aH vR) rfl
   refine pH3 3 (.pointer (some w.heap.size)) ?_;refine sC3 (fun _ c a _ _ _ _ e _ _ _ l=>?_) ?_
   · replace a:VFB B (fun _=>False) W c:=fD a;have av:_=_:=e 4 54 kR rfl;have z:=a.to_vb (fun _ _ d=>d);have af:=z.1.bk q.out.box dC dC;have a6:=af.cell 3;go_simp;exact l _ _ (aH vR) rfl
   refine sC3 (fun _ _ _ _ _ _ _ e _ _ _ l=>?_) ?_
   · have aw:_=_:=e 5 55 kR rfl;go_simp;exact l _ _ (aH (vR.alloc _)) ⟨_,rfl,Bk.new _ _ _⟩
   refine sC3 (fun G c a _ _ _ _ e _ _ _ l=>?_) ?_
   · replace a:VFB B (fun _=>False) W c:=fD a;have au:_=_:=e 3 53 kR rfl;have aj:(fun x K=>∃g,x=.slice (some ⟨g,0,none⟩) 1 1/\Bk K g 26 #[.slice m j o]) (G (.tmp 56)) c:=e 6 56 kR rfl;have z:=a.to_vb (fun _ _ d=>d);obtain ⟨a7,ax,ad⟩:=aj;go_simp;refine (a0.out c a7 z ad).mono ?_;rintro L aO ⟨rfl,ai⟩;exact l _ _ (aH ai) rfl
   refine sC3 (fun _ _ _ _ _ _ _ e _ _ _ l=>?_) ?_
   · have ay:_=_:=e 7 57 kR rfl;go_simp;exact l _ _ (jK (VFB.of_vb vR)) rfl
   exact aD
 · intro G E d a e O;replace a:VFB B (fun _=>False) W E:=fD a;have Y:(fun v _=>v=.agg #[.int .i64 0,(F:Int),.slice none 0 0,.slice none 0 0]) (G (.tmp 58)) E:=e 8 58 dC rfl;obtain ⟨am,Z⟩:=O 8 dC;have ak:(fun v _=>v=.agg #[.int .i64 0,(F:Int),.slice none 0 0,.slice none 0 0]) am E:=Z;clear Z O;simp only [zqq];clear e;have M:=Y;rw [M];have C:=a.to_vb (fun _ _ d=>d);clear ak Y M a;have n:=C.1.bk q.out.res dC dC;have U:=q.out.st.vb C.1;have R:=(LFS.of_below B gs own q.out.low).trans (LFS.of_vb gs own C);have aI:=n.cell 0;have aJ:=n.cell 1;have aK:=n.cell 2;have aL:=n.cell 3;have az:=n.frozen 0;have aA:=n.frozen 1;have aB:=n.frozen 2;have aC:=n.frozen 3;obtain ⟨a3,a2,a1⟩:=hqq3 n U R;clear n U R C;change wpAny prog Region.Mode.any _ _ (1+d) (bX 9 10) _ E;rw [zCs 1 d];refine bC (f:=d) (i:=9) kR ?_;refine bN rfl rfl ?_;generalize l:wpAny prog _ _ _ d _=K5;go_simp;subst l;refine bT kR ?_;go_wp2_with fail;exact kP (.inl rfl) rfl a3.out a2.out a1.out q.out.bs oM q.out.ap rfl rfl (bB _ _ _) (bB _ _ _) (fun a4 I=>by cases I) (fun a4 I=>by cases I)
def xZ (B:Nat) (own:Nat->Nat) (gs gl most rate:Nat) (t m:List UInt8) (F I:Int) (l:Option Addr) (i p:Nat) (w:World) (J:StAt w B own gs gl most rate t) (M:ArgZ w B own gs l i m) (aC:i<=1000000):
 Calls prog 22 #[gs,aY 7 F I l i p] w (StDone w B own gs most rate t ⟨0,((fH t m).length:Int), [],fH t m⟩):=by
 have D:=DoW.mk' 7 F I l i p J;have ad:m.length=i:=by simpa using M.1.1
 have V:=M.vis D.low;have aB:=J.blk.lt;have G:∀e g,VB B ((w.alloc (.cells #[.int .i64 7,.int .i64 F,.int .i64 I,.slice l i p] 46)).alloc (.cells #[.int .i64 0,.int .i64 0,.slice none 0 0,.slice none 0 0] 50)) e->Bk e g 26 #[.slice l i p]->Calls prog 77 #[gl,.slice (some ⟨g,0,none⟩) 1 1] e fun S w'=>∃a c,S=.returned (.slice a (fH t m).length c)/\Made w' e.heap.size 3 1 a (fH t m).length c ((fH t m).map nv)/\VB B e w':=fun e g a1 ae=>by have ac:=(V.step (LFS.of_vb gs own a1)).1;have:=aJH B gl rate t (some ⟨g,0,none⟩) 1 1 e.heap.size [(⟨l,i,p,m⟩:Sl)] m (by simp [gX]) e (D.st.vb a1.1).tp (aHG ae rfl) (fun aI Z=>by simp at Z;subst Z;exact ac) nL oM oM;unfold aBX at this;rw [qP] at this;exact this
 obtain ⟨A,X⟩:=eqx (fH t m);rw [X] at G⊢;obtain ⟨s,z⟩:=eqx A.length;rw [z] at G⊢;have a9:=D.box.cell 0;obtain ⟨o,O,a6⟩:=hqq3 D G z;clear D G J M V ad X z;unfold aY;go_enter func22,ntmps22;go_wp2_with fail;generalize (w.alloc (.cells #[.int .i64 7,.int .i64 F,.int .i64 I,.slice l i p] 46)).alloc (.cells #[.int .i64 0,.int .i64 0,.slice none 0 0,.slice none 0 0] 50)=W at*
 clear a9;refine wp_region_any kR ?_;refine aV [61,62,63,64,65,66,67,68,7] (VB B) (Vs [is gs,is gs,is gs,is gl,is (.pointer (some ⟨w.heap.size,3,none⟩)),is (.slice l i p),fun x j=>∃g,x=.slice (some ⟨g,0,none⟩) 1 1/\Bk j g 26 #[.slice l i p],fun v j=>∃a c,v=.slice a s c/\Made j w.heap.size 3 1 a s c (A.map nv),fun v j=>∃a c,v=.slice a s c/\Made j w.heap.size 3 1 a s c (A.map nv)]) _ _ rfl kR vR (fun _ _=>VisK.trans) (cZ (by repeat' (first | exact iG _ _ | exact jM _ | exact fun _ _ _ ⟨g,K,L⟩ k=>⟨g,K,k.1.bk L dC dC⟩| exact fun _ _ _ ⟨a,c,K,L⟩ k=>⟨a,c,K,k.1.made L dC dC⟩|(refine zAe.2 ⟨?_,?_⟩)|(intro F ai;cases ai)))) ?_ ?_
 · refine aO ?_;refine pH 0 (.pointer (some gs)) ?_;refine pV 0 61 ?_;refine pV 1 62 ?_;refine sC (fun _ e d _ _ _ f _ _ _ q=>?_) ?_
   · have ao:_=_:=f 2 63 kR rfl;replace d:(VB B) W e:=bD d;have ag:=d.1.bk o.out.st.blk dC dC;have aa:=ag.cell 0;go_simp;exact q _ _ vR rfl
   refine pH 3 (.pointer (some w.heap.size)) ?_;refine sC (fun _ e d _ _ _ f _ _ _ q=>?_) ?_
   · have ar:_=_:=f 4 65 kR rfl;replace d:(VB B) W e:=bD d;have ah:=d.1.bk o.out.box dC dC;have aa:=ah.cell 3;go_simp;exact q _ _ vR rfl
   refine sC (fun _ _ _ _ _ _ f _ _ _ q=>?_) ?_
   · have au:_=_:=f 5 66 kR rfl;go_simp;exact q _ _ (vR.alloc _) ⟨_,rfl,Bk.new _ _ _⟩
   refine sC (fun C e d _ _ _ f _ _ _ q=>?_) ?_
   · have aq:_=_:=f 3 64 kR rfl;have al:(fun x j=>∃g,x=.slice (some ⟨g,0,none⟩) 1 1/\Bk j g 26 #[.slice l i p]) (C (.tmp 67)) e:=f 6 67 kR rfl;replace d:(VB B) W e:=bD d;obtain ⟨ab,av,af⟩:=al;have ak:=d.1.size;go_simp;refine (O.out e ab d af).mono ?_;rintro S aJ ⟨a,c,rfl,H,aj⟩;exact q _ _ aj ⟨a,c,rfl,⟨cB H.own (zAk o.out.low.size ak),H.rd,H.cap,H.max⟩⟩
   refine sC (fun C e _ _ _ _ f _ _ _ q=>?_) ?_
   · have am:(fun v j=>∃a c,v=.slice a s c/\Made j w.heap.size 3 1 a s c (A.map nv)) (C (.tmp 68)) e:=f 7 68 kR rfl;obtain ⟨a,c,aw,E⟩:=am;go_simp;exact q _ _ vR ⟨a,c,rfl,E⟩
   exact aD
 · intro C a2 d f;replace d:(VB B) W a2:=bD d;have an:(fun v j=>∃a c,v=.slice a s c/\Made j w.heap.size 3 1 a s c (A.map nv)) (C (.tmp 7)) a2:=f 8 7 rfl;simp only [zqq];clear f;obtain ⟨a,c,U,E⟩:=an;rw [U];clear U;have n:=d.1.bk o.out.res dC dC;have Y:=(LFS.of_below B gs own o.out.low).trans (LFS.of_vb gs own d);have a0:=o.out.st.vb d.1;have z:∀u,a=some u->own u.block=0:=fun u N=>by subst N;have:=(E.own.lt (k:=u.block) rfl).1;by_cases R:own u.block=0;exact R;exact absurd (o.out.fr u.block this) R
   have aE:=n.cell 0;have aF:=n.cell 1;have aG:=n.cell 2;have aH:=n.cell 3;have ax:=n.frozen 0;have ay:=n.frozen 1;have az:=n.frozen 2;have aA:=n.frozen 3;obtain ⟨a8,a5,a3,a7,a4⟩:=hqq5 n a0 Y z E;clear n a0 Y d z E O;go_wp2_with fail;exact kP (.inl rfl) rfl a8.out a5.out a3.out o.out.bs oM o.out.ap rfl a6.out (bB _ _ _) a4.out (fun u N=>by cases N) a7.out
def aAy (B:Nat) (own:Nat->Nat) (gs gl most rate:Nat) (t l T2:List UInt8) (r:Told) (m f:Int) (e:Option Addr) (a i:Nat) (w:World) (d:doM t (most:Int) 1 m f l=(T2,r)) (o:StAt w B own gs gl most rate t) (z:ArgZ w B own gs e a l) (J:a<=1000000) (F:TabW w) (D:1 < B) (u:T2.length<=127):
 Calls prog 22 #[gs,aY 1 m f e a i] w (StDone w B own gs most rate T2 r):=by
 have E:l.length=a:=by simpa using z.1.1
 have K:∀c,LFS B gs w c own own->TabW c:=fun c k=>F.below (k.below o.size) D;unfold doM at d;rw [zBx rfl] at d;cases p:iE t.length m 0 with
 | false=>
   rw [zBx p] at d;cases d;exact gI B own gs gl most rate t t 1 m f e a i 2 w o (.inl rfl) fun c j k=>(mE B own gs gl most rate _ t 1 m f e a i c j rfl (by simpa [qG] using p)).mono fun C w' ⟨s,n⟩=>⟨s,own,j.vb (Vis.of_below n),LFS.of_below B gs own n⟩
 | true=>
   rw [zBw (by rw [p];decide)] at d;obtain ⟨q,b,rfl,I,H⟩:=iH p;by_cases A:(most:Int) -(t.length:Int) < (l.length:Int);rw [zBx A] at d;cases d;exact gI B own gs gl most rate t t 1 _ f e a i 3 w o (.inl rfl) fun c j k=>(xX B own gs gl most rate _ t q f e a i c j rfl oM oM).mono fun C w' ⟨s,n⟩=>⟨s,own,j.vb n.1,LFS.of_vb gs own n⟩;rw [zBw A] at d;cases d;rw [zBr] at u⊢;have G:=wL t l (k:=q) oM;exact gI B own gs gl most rate t _ 1 _ f e a i 0 w o (.inl rfl) fun c j k=>yZ B own gs gl most rate _ t l q f e a i c j rfl (z.step k) oM oM (by rw [<-E,<-G];exact u)
def aGM (B:Nat) (own:Nat->Nat) (gs gl most rate:Nat) (t n T2:List UInt8) (r:Told) (j i:Int) (e:Option Addr) (c f:Nat) (w:World) (d:doM t (most:Int) 2 j i n=(T2,r)) (o:StAt w B own gs gl most rate t) (u:ArgZ w B own gs e c n) (H:c<=1000000) (z:TabW w) (p:1 < B) (F:T2.length<=127):
 Calls prog 22 #[gs,aY 2 j i e c f] w (StDone w B own gs most rate T2 r):=by
 have G:n.length=c:=by simpa using u.1.1
 have C:∀a,LFS B gs w a own own->TabW a:=fun a k=>z.below (k.below o.size) p;unfold doM at d;rw [zBw dC] at d;rw [zBx rfl] at d;cases l:iE t.length j i with
 | false=>
   rw [zBx l] at d;cases d;exact gI B own gs gl most rate t t 2 j i e c f 2 w o (.inr (.inl rfl)) fun a m k=>(mE B own gs gl most rate _ t 2 j i e c f a m rfl (by simpa [qG] using l)).mono fun E w' ⟨D,q⟩=>⟨D,own,m.vb (Vis.of_below q),LFS.of_below B gs own q⟩
 | true=>
   rw [zBw (by rw [l];decide)] at d;cases d;obtain ⟨s,b,rfl,rfl,A⟩:=iH l;rw [zBr,zBr];exact gI B own gs gl most rate t _ 2 _ _ e c f 0 w o (.inr (.inl rfl)) fun a m k=>zA B own gs gl most rate _ t s b e c f a m (C a k) p rfl A
def aGL (B:Nat) (own:Nat->Nat) (gs gl most rate:Nat) (t i T2:List UInt8) (r:Told) (l f:Int) (e:Option Addr) (d j:Nat) (w:World) (a:doM t (most:Int) 3 l f i=(T2,r)) (o:StAt w B own gs gl most rate t) (q:ArgZ w B own gs e d i) (I:d<=1000000) (A:TabW w) (p:1 < B) (F:T2.length<=127):
 Calls prog 22 #[gs,aY 3 l f e d j] w (StDone w B own gs most rate T2 r):=by
 have z:i.length=d:=by simpa using q.1.1
 have C:∀c,LFS B gs w c own own->TabW c:=fun c k=>A.below (k.below o.size) p;unfold doM at a;rw [zBw dC] at a;rw [zBw dC] at a;rw [zBw dC] at a;rw [zBx rfl] at a;cases m:iE t.length l (i.length:Int) with
 | false=>
   rw [zBx m] at a;cases a;exact gI B own gs gl most rate t t 3 l f e d j 2 w o (.inr (.inr rfl)) fun c n k=>(mE B own gs gl most rate _ t 3 l f e d j c n rfl (by simpa [qG,z] using m)).mono fun E w' ⟨D,s⟩=>⟨D,own,n.vb (Vis.of_below s),LFS.of_below B gs own s⟩
 | true=>
   rw [zBw (by rw [m];decide)] at a;cases a;obtain ⟨u,b,rfl,H,G⟩:=iH m;rw [zBr];exact gI B own gs gl most rate t _ 3 _ f e d j 0 w o (.inr (.inr rfl)) fun c n k=>yY B own gs gl most rate _ t i u f e d j c n (C c k) p rfl (q.step k) oM
def aGK (B:Nat) (own:Nat->Nat) (gs gl most rate:Nat) (t l T2:List UInt8) (r:Told) (f e:Int) (i:Option Addr) (d m:Nat) (w:World) (c:doM t (most:Int) 5 f e l=(T2,r)) (n:StAt w B own gs gl most rate t) (s:ArgZ w B own gs i d l) (H:d<=1000000) (u:TabW w) (q:1 < B) (F:T2.length<=127):
 Calls prog 22 #[gs,aY 5 f e i d m] w (StDone w B own gs most rate T2 r):=by
 have G:l.length=d:=by simpa using s.1.1
 have A:∀a,LFS B gs w a own own->TabW a:=fun a k=>u.below (k.below n.size) q;unfold doM at c;rw [zBw dC] at c;rw [zBw dC] at c;rw [zBx rfl] at c;cases j:iE t.length f e with
 | false=>
   rw [zBx j] at c;cases c;exact rQ B own gs gl most rate t f e i d m w n [] 2 0 rfl fun a o k=>(aBF B gl rate _ t f e a o.tp rfl j).mono fun E w' ⟨C,D⟩=>by subst D;exact ⟨none,0,C,bB _ _ _,VisK.refl _ _⟩
 | true=>
   rw [zBw (by rw [j];decide)] at c;cases c;obtain ⟨p,b,rfl,rfl,z⟩:=iH j;rw [zBr,zBr];exact rQ B own gs gl most rate t _ _ i d m w n ((t.drop p).take b) 0 b (by rw [zAj,zAw];omega) fun a o k=>aGR B gl rate t p b a o.tp (A a k) q z
def aAx (B:Nat) (own:Nat->Nat) (gs gl most rate:Nat) (t d T2:List UInt8) (r:Told) (j i:Int) (e:Option Addr) (c l:Nat) (w:World) (a:doM t (most:Int) 7 j i d=(T2,r)) (m:StAt w B own gs gl most rate t) (n:ArgZ w B own gs e c d) (q:c<=1000000) (p:TabW w) (o:1 < B) (s:T2.length<=127):
 Calls prog 22 #[gs,aY 7 j i e c l] w (StDone w B own gs most rate T2 r):=by
 have u:d.length=c:=by simpa using n.1.1
 have z:∀f,LFS B gs w f own own->TabW f:=fun f k=>p.below (k.below m.size) o;unfold doM at a;rw [zBw dC] at a;rw [zBw dC] at a;rw [zBw dC] at a;rw [zBw dC] at a;rw [zBw dC] at a;rw [zBw dC] at a;rw [zBx rfl] at a;cases a;exact xZ B own gs gl most rate t d j i e c l w m n q
def aAw (B:Nat) (own:Nat->Nat) (gs gl most rate:Nat) (t e T2:List UInt8) (r:Told) (j i:Int) (d:Option Addr) (c l:Nat) (w:World) (a:doM t (most:Int) 8 j i e=(T2,r)) (m:StAt w B own gs gl most rate t) (o:ArgZ w B own gs d c e) (u:c<=1000000) (p:TabW w) (n:1 < B) (q:T2.length<=127):
 Calls prog 22 #[gs,aY 8 j i d c l] w (StDone w B own gs most rate T2 r):=by
 have s:e.length=c:=by simpa using o.1.1
 have z:∀f,LFS B gs w f own own->TabW f:=fun f k=>p.below (k.below m.size) n;unfold doM at a;rw [zBw dC] at a;rw [zBw dC] at a;rw [zBw dC] at a;rw [zBw dC] at a;rw [zBw dC] at a;rw [zBw dC] at a;rw [zBw dC] at a;rw [zBx rfl] at a;cases a;exact aET B own gs gl most rate t j i d c l w m
def aC6 (B:Nat) (own:Nat->Nat) (gs gl most rate:Nat) (t l T2:List UInt8) (r:Told) (e i f:Int) (d:Option Addr) (c j:Nat) (w:World) (n:doM t (most:Int) e i f l=(T2,r)) (m:StAt w B own gs gl most rate t) (o:ArgZ w B own gs d c l) (p:c<=1000000) (u:TabW w) (s:1 < B) (q:T2.length<=127):
 Calls prog 22 #[gs,aY e i f d c j] w (StDone w B own gs most rate T2 r):=by
 have a:=n;unfold doM at a;by_cases z:e=1;subst z;exact aAy B own gs gl most rate t l T2 r i f d c j w n m o p u s q;rw [zBw z] at a;by_cases A:e=2;subst A;exact aGM B own gs gl most rate t l T2 r i f d c j w n m o p u s q;rw [zBw A] at a;by_cases E:e=5;subst E;exact aGK B own gs gl most rate t l T2 r i f d c j w n m o p u s q;rw [zBw E] at a;by_cases C:e=3;subst C;exact aGL B own gs gl most rate t l T2 r i f d c j w n m o p u s q;rw [zBw C] at a;by_cases D:e=4;subst D;rw [zBx rfl] at a;cases a;exact aC8 B own gs gl most rate _ t i f d c j w m rfl;rw [zBw D] at a;by_cases F:e=6;subst F;rw [zBx rfl] at a;cases a;exact zB B own gs gl most rate t l i f d c j w m o p;rw [zBw F] at a;by_cases G:e=7;subst G;exact aAx B own gs gl most rate t l T2 r i f d c j w n m o p u s q;rw [zBw G] at a;by_cases H:e=8;subst H;exact aAw B own gs gl most rate t l T2 r i f d c j w n m o p u s q;rw [zBw H] at a;cases a;exact aC9 B own gs gl most rate t e i f d c j w m fun k I b=>by omega
def aC7 (e a i:Int) (c:Option Addr) (f d:Nat) (w:World):
 Calls prog 22 #[.pointer none,aY e a i c f d] w fun j w'=>j=.returned (.agg #[.int .i64 6,.int .i64 0,.slice none 0 0,.slice none 0 0])/\Below w.heap.size w w':=by
 unfold aY;go_enter func22,ntmps22;go_wp2;have l:=((Below.refl w.heap.size w).alloc nL (.cells #[.int .i64 e,.int .i64 a,.int .i64 i,.slice c f d] 46)).alloc (by simp) (.cells #[.int .i64 6,.int .i64 0,.slice none 0 0,.slice none 0 0] 50);have m:Bk ((w.alloc (.cells #[.int .i64 e,.int .i64 a,.int .i64 i,.slice c f d] 46)).alloc (.cells #[.int .i64 6,.int .i64 0,.slice none 0 0,.slice none 0 0] 50)) (w.heap.size+1) 50 #[.int .i64 6,.int .i64 0,.slice none 0 0,.slice none 0 0]:=by simpa using Bk.new (w.alloc (.cells #[.int .i64 e,.int .i64 a,.int .i64 i,.slice c f d] 46)) 50 #[.int .i64 6,.int .i64 0,.slice none 0 0,.slice none 0 0]
 exact bodyPost_ret (results_cell_row (p:=4) (ty:=50) rfl _ _ (w.heap.size+1) 50 #[.int .i64 6,.int .i64 0,.slice none 0 0,.slice none 0 0] (0,0) _ rfl m underlying50 rfl kR) rfl ⟨rfl,l⟩
section
variable {w w' : World} {B g : Nat} {own : Nat -> Nat} {cs0 : Array Value}
def WaveE.farT {f:Nat} {e:List Nat} (a:WaveE w B own f e) (k:Keep (fun b=>b=g) w w') (c:Bk w g 50 cs0):WaveE w' B own f e:=by
 obtain ⟨l,v,a⟩:=a;refine ⟨l,v,k.bk a.blk (Bk.ne a.blk c dC),a.base,fun z s=>?_,fun b c=>⟨(a.bnd b c).1,zAl (a.bnd b c).2 k.size⟩⟩;obtain ⟨j,o,p,q⟩:=a.rows z s;exact ⟨j,aA o fun b cs _ d=>k.bk d (Bk.ne d c dC),p,fun A u=>(q A u).keep k fun b t cs i d _ m=>by
  have n:b=g:=m;subst n;rw [(aL d c).1] at i;exact absurd i dC⟩
def WalkE.farT {gk:Nat} {c T:List Nat} (i:WalkE w B own gk c T) (k:Keep (fun b=>b=g) w w') (a:Bk w g 50 cs0):WalkE w' B own gk c T:=by
 obtain ⟨f,gt,d,j,l,e,m⟩:=i;exact ⟨f,gt,k.bk d (Bk.ne d a dC),j,l.farT k a,k.bk e (Bk.ne e a dC),m⟩
def PermE.farT {e:Nat->Prop} {i f P:Nat} {j:List (Nat×Nat)} (p:PermE w e i f P j) (k:Keep (fun b=>b=g) w w') (d:Bk w g 50 cs0):PermE w' e i f P j:=by
 obtain ⟨⟨o,C,D,E,A,u,l,z,n,hx,m⟩,q,s⟩:=p;have a:=hx.at_;exact ⟨⟨o,C,D,E,A,u,l,z,n,⟨⟨k.bk a.blk (Bk.ne a.blk d dC),aA a.lrow fun b cs _ c=>k.bk c (Bk.ne c d dC),aA a.orow fun b cs _ c=>k.bk c (Bk.ne c d dC),k.bk a.ar (Bk.ne a.ar d dC),aA a.trow fun b cs _ c=>k.bk c (Bk.ne c d dC),aA a.frow fun b cs _ c=>k.bk c (Bk.ne c d dC),a.apart,a.lt,a.lo⟩,hx.fp,hx.fa,hx.fl,hx.fo,hx.ft,hx.ff,hx.nd,hx.tkl,hx.tkk,hx.frn,hx.frk,hx.sz⟩,m⟩,q,s⟩
def LiveE.farT {gl rate:Nat} {t:List UInt8} (e:LiveE w B own gl t rate) (k:Keep (fun b=>b=g) w w') (c:Bk w g 50 cs0):LiveE w' B own gl t rate:=by
 obtain ⟨gk,d,m,T,o,n,⟨f,a,i,j⟩,l⟩:=e;exact ⟨gk,d,m,T,o,n,⟨f,⟨k.bk a.blk (Bk.ne a.blk c dC),a.col,a.walk.farT k c,a.perm.farT k c⟩,i,j⟩,l⟩
def StAt.farT {gs gl most rate:Nat} {t:List UInt8} (a:StAt w B own gs gl most rate t) (k:Keep (fun b=>b=g) w w') (c:Bk w g 50 cs0):StAt w' B own gs gl most rate t:=
 ⟨k.bk a.blk (Bk.ne a.blk c dC),a.low,a.col,a.live.farT k c,a.n127,a.len,a.max,a.r1,a.r2⟩
end
section
variable {P : Program} {ops : Array Oper} {Q : Exit -> Act -> World -> Prop} {md : Region.Mode}
end
section
variable {w w' : World} {B gs gs1 gs2 gl1 gl2 most rate : Nat} {own own' own1 own2 own2' : Nat -> Nat} {T T2 : List UInt8} {r : Told} {v : Value}
def DoS (B gs:Nat) (own:Nat->Nat) (most rate:Nat) (T2:List UInt8) (w w':World):Prop:=∃own' a,StAt w' B own' gs a most rate T2/\LFS B gs w w' own own'
def ResD (w:World) (own:Nat->Nat) (gs:Nat) (r:Told) (v:Value):Prop:=∃A1 c1 A2 c2,v=.agg (jN r A1 c1 A2 c2)/\MadeZ w own gs 5 A1 r.data.length c1 (r.data.map bv)/\MadeZ w own gs 3 A2 r.places.length c2 (r.places.map nv)
def MadeZ.stepC {a:TypeId} {d:Option Addr} {j f:Nat} {l:List Value} (c:MadeZ w own gs a d j f l) (k:LFS B gs w w' own own') (m:a≠202) (n:a≠154):MadeZ w' own gs a d j f l:=⟨(c.step k m n).1,fun e i=>⟨zAl (c.2 e i).1 k.size,(c.2 e i).2⟩⟩
def ResD.step (a:ResD w own gs r v) (k:LFS B gs w w' own own'):ResD w' own gs r v:=by
 obtain ⟨A1,c1,A2,c2,rfl,c,d⟩:=a;exact ⟨A1,c1,A2,c2,rfl,c.stepC k dC dC,d.stepC k dC dC⟩
def ResD.below (a:ResD w own gs r v) (k:Below w.heap.size w w'):ResD w' own gs r v:=a.step (LFS.of_below 0 gs own k)
def OneDone (w:World) (B gs1 gs2:Nat) (own2:Nat->Nat) (most rate:Nat) (T2:List UInt8) (r:Told) (v:Value):Prop:=∃a c,StAt w B a gs1 c most rate T2/\Two a gs1 own2 gs2/\ResD w own2 gs2 r v
def BothDone (w:World) (B gs1 gs2 most rate:Nat) (T2:List UInt8) (r:Told) (v:Value):Prop:=∃a c own2' d,StAt w B a gs1 c most rate T2/\StAt w B own2' gs2 d most rate T2/\Two a gs1 own2' gs2/\∃A1 c1 A2 c2,v=.agg (jN r A1 c1 A2 c2)/\Made w 0 5 1 A1 r.data.length c1 (r.data.map bv)/\Made w 0 3 1 A2 r.places.length c2 (r.places.map nv)
def OneDone.below (c:OneDone w B gs1 gs2 own2 most rate T2 r v) (k:Below w.heap.size w w'):OneDone w' B gs1 gs2 own2 most rate T2 r v:=by
 obtain ⟨i,a,d,e,f⟩:=c;exact ⟨i,a,d.vb (Vis.of_below k),e,f.below k⟩
def BothDone.below (d:BothDone w B gs1 gs2 most rate T2 r v) (k:Below w.heap.size w w'):BothDone w' B gs1 gs2 most rate T2 r v:=by
 obtain ⟨m,a,own2',c,e,f,i,A1,c1,A2,c2,rfl,j,l⟩:=d;exact ⟨m,a,own2',c,e.vb (Vis.of_below k),f.vb (Vis.of_below k),i,A1,c1,A2,c2,rfl,j.below k,l.below k⟩
def aKE (c d B gs1 gs2:Nat) (own1 own2:Nat->Nat) (most rate:Nat) (T2:List UInt8) (a:Nat) (w w':World):Prop:=(a=c->DoS B gs1 own1 most rate T2 w w')/\(a=d->DoS B gs2 own2 most rate T2 w w')/\(a≠c->a≠d->Below w.heap.size w w')
def DuoC (a:World) (B gt:Nat) (cs:Array Value) (w:World):Prop:=Bk w gt 46 cs/\Below B a w/\B<=w.heap.size
def DuoU (c d B gs1 gl1 gs2 gl2:Nat) (own1 own2:Nat->Nat) (most rate:Nat) (T:List UInt8) (a:Nat) (w:World):Prop:=(a=c->StAt w B own1 gs1 gl1 most rate T/\StAt w B own2 gs2 gl2 most rate T)/\(a=d->StAt w B own2 gs2 gl2 most rate T)
def DuoC.step {i:World} {gt j j1 j2:Nat} {cs:Array Value} (o:DuoC i B gt cs w) (k:aKE j1 j2 B gs1 gs2 own1 own2 most rate T2 j w w') (l:Ap own1 gs1 gt) (m:Ap own2 gs2 gt):DuoC i B gt cs w':=by
 obtain ⟨d,e,c⟩:=o;by_cases c1:j=j1;obtain ⟨own',n,_,a⟩:=k.1 c1;exact ⟨a.bk d l.col l.ne dC dC,e.trans (a.below c),zAk c a.size⟩;by_cases c2:j=j2;obtain ⟨own',n,_,a⟩:=k.2.1 c2;exact ⟨a.bk d m.col m.ne dC dC,e.trans (a.below c),zAk c a.size⟩;have f:=k.2.2 c1 c2;exact ⟨d.below f d.lt,e.trans (f.mono c),zAk c f.size⟩
def eX (w:World) (B:Nat):Below B w w.drew:=⟨rfl,rfl,rfl,zAs _,fun _ _=>rfl⟩
def DuoC.drew {c:World} {gt:Nat} {cs:Array Value} (a:DuoC c B gt cs w):DuoC c B gt cs w.drew:=⟨a.1,a.2.1.trans (eX w B),a.2.2⟩
def DuoU.drew {d e f:Nat} (c:DuoU e f B gs1 gl1 gs2 gl2 own1 own2 most rate T d w):DuoU e f B gs1 gl1 gs2 gl2 own1 own2 most rate T d w.drew:=⟨fun a=>⟨(c.1 a).1.vb (Vis.of_below (eX _ _)),(c.1 a).2.vb (Vis.of_below (eX _ _))⟩,fun a=>(c.2 a).vb (Vis.of_below (eX _ _))⟩
def DuoU.step {d j j1 j2:Nat} (e:DuoU j1 j2 B gs1 gl1 gs2 gl2 own1 own2 most rate T d w) (k:aKE j1 j2 B gs1 gs2 own1 own2 most rate T2 j w w') (p:Two own1 gs1 own2 gs2) (n:d≠j) (i:j≠j2):DuoU j1 j2 B gs1 gl1 gs2 gl2 own1 own2 most rate T d w':=by
 refine ⟨fun a=>?_,fun a=>?_⟩;have f:=k.2.2 (fun l=>n (a.trans l.symm)) i;obtain ⟨m,c⟩:=e.1 a;exact ⟨m.vb (Vis.of_below f),c.vb (Vis.of_below f)⟩;have c:=e.2 a;by_cases c1:j=j1;obtain ⟨own',q,_,o⟩:=k.1 c1;exact (c.other o p).1;exact c.vb (Vis.of_below (k.2.2 c1 i))
end
def aFu {c:Nat} {a k:Int} (e:¬iE c a k=false):0<=a/\0<=k/\a+k<=(c:Int):=by
 cases d:iE c a k with
 | false=>exact absurd d e
 | true=>
   obtain ⟨f,b,rfl,rfl,i⟩:=iH d;omega
def aCL (T p:List UInt8) (most:Nat) (c q k:Int) (a:T.length<=most):(doM T (most:Int) c q k p).1.length<=most:=by
 unfold doM;by_cases e:c=1
 · rw [zBx e];split;exact a
   · split;exact a
     · rename_i d s
       have:=aFu d;simp only [zAi,zAj,zAw];omega
 rw [zBw e];by_cases f:c=2;rw [zBx f];split;exact a;simp only [zAi,zAj,zAw];omega;rw [zBw f];by_cases l:c=5
 · rw [zBx l];split <;> exact a
 rw [zBw l];by_cases i:c=3
 · rw [zBx i];split;exact a
   · rename_i d
     have:=aFu d;simp only [zAi,zAj,zAw];omega
 rw [zBw i];by_cases j:c=4;rw [zBx j];exact a;rw [zBw j];by_cases m:c=6;rw [zBx m];exact a;rw [zBw m];by_cases n:c=7;rw [zBx n];exact a;rw [zBw n];by_cases o:c=8;rw [zBx o];exact a;rw [zBw o];exact a
section
variable {P : Program} {ops : Array Oper} {Q : Exit -> Act -> World -> Prop} {md : Region.Mode}
def tI (a:Nat) (j:List Nat) (i:List (Value->World->Prop)) (e:Act) (d:World) (q:(ops.toList.take a).filterMap (·.dst)=j) (z:a<=ops.size) (u:gR md ops e.tmps.size=true) (D:((List.range ops.size).all fun k=>decide (k < a)||(List.range a).all fun c=>upB md ops ops.size k c)=true)
 (A:∀E∈i,Stb E) (C:∀m p,m < a->ops[m]?=some p->cX P ops Q md (Grow d) (fun _=>Grow) (fun _ _=>True) (Vs i) e m p)
 (s:∀(o:Operand->Value) w f,Grow d w->(∀c n,c < a->((ops[c]?).bind (·.dst))=some n->Vs i c (o (.tmp n)) w)->wpAny P md ops Q (ops.size - a+f) (bX a ops.size) (dG o j e) w):
 wpAny P md ops Q ops.size (Array.replicate ops.size false) e d:=
 tH a j (Grow d) (fun _=>Grow) (fun _ _=>True) (Vs i) e d q z u D bR (fun _=>trivial) (fun _ _ _ _ l k=>l.trans k) (fun _ _ _ _ _ _ _ _ _ _=>trivial) (fun c _ v w w' _ _ _ l _ k=>nP A c v w w' l k) C s
end
section
variable {w w' : World} {v : Value}
def fresh (N0:Nat) (t:TypeId) (cs:Array Value):Value->World->Prop:=fun v w=>∃g,v=.pointer (some ⟨g,0,none⟩)/\N0<=g/\Bk w g t cs
def aAc (N0:Nat) (t:TypeId) (cs:Array Value):Stb (fresh N0 t cs):=fun _ _ _ ⟨g,c,d,a⟩ k=>⟨g,c,d,a.below k a.lt⟩
def mZ {N0:Nat} {t:TypeId} {cs:Array Value} (a:N0<=w.heap.size):fresh N0 t cs (.pointer (some w.heap.size)) (w.alloc (.cells cs t)):=⟨_,rfl,a,Bk.new _ _ _⟩
def aD6:Array Value:=#[.int .i64 0,.int .i64 0,.slice none 0 0,.slice none 0 0]
variable {B gs gl gx gt N0 most rate : Nat} {own own' : Nat -> Nat} {T T2 : List UInt8} {r : Told}
def MdX (w:World) (gx most:Nat) (T:List UInt8):Prop:=Bk w gx 56 #[.string ⟨T.toArray⟩,(most:Int)]
def PyA (B gs gx N0 most rate:Nat) (T2:List UInt8) (r:Told) (v:Value) (w:World):Prop:=∃own1 gl1,StAt w B own1 gs gl1 most rate T2/\Ap own1 gs gx/\∃A1 c1 A2 c2,v=.agg (jN r A1 c1 A2 c2)/\Made w N0 5 1 A1 r.data.length c1 (r.data.map bv)/\Made w N0 3 1 A2 r.places.length c2 (r.places.map nv)
def PyA.below (a:PyA B gs gx N0 most rate T2 r v w) (k:Below w.heap.size w w'):PyA B gs gx N0 most rate T2 r v w':=by
 obtain ⟨own1,gl1,c,d,A1,c1,A2,c2,e,f,i⟩:=a;exact ⟨own1,gl1,c.vb (Vis.of_below k),d,A1,c1,A2,c2,e,f.below k,i.below k⟩
def PyA.keep (e:PyA B gs gx N0 most rate T2 r v w) (k:Keep (fun b=>b=gx) w w') (hx:gx < N0):PyA B gs gx N0 most rate T2 r v w':=by
 obtain ⟨own1,gl1,f,d,A1,c1,A2,c2,i,j,l⟩:=e;exact ⟨own1,gl1,f.far k (fun b a=>by have c:b=gx:=a;rw [c];exact d),d,A1,c1,A2,c2,i,j.keepF k (fun b a=>by have c:b=gx:=a;omega),l.keepF k (fun b a=>by have c:b=gx:=a;omega)⟩
def PyB (gx N0 most:Nat) (T2:List UInt8) (r:Told) (v:Value) (w:World):Prop:=∃A1 c1 A2 c2,v=.agg (jN r A1 c1 A2 c2)/\RdN w N0 1 A1 r.data.length (r.data.map bv)/\Made w N0 3 1 A2 r.places.length c2 (r.places.map nv)/\MdX w gx most T2
def PyB.below (c:PyB gx N0 most T2 r v w) (k:Below w.heap.size w w'):PyB gx N0 most T2 r v w':=by
 obtain ⟨A1,c1,A2,c2,d,e,f,a⟩:=c;exact ⟨A1,c1,A2,c2,d,e.below k,f.below k,Bk.below a k (Bk.lt a)⟩
def PyS (c d B gs gx:Nat) (own:Nat->Nat) (most rate:Nat) (T2:List UInt8) (a:Nat) (w w':World):Prop:=(a=c->DoS B gs own most rate T2 w w')/\(a=d->Keep (fun b=>b=gx) w w'/\MdX w' gx most T2)/\(a≠c->a≠d->Below w.heap.size w w')
def PyC (a:World) (B gx gt N0 most:Nat) (cs:Array Value) (w:World):Prop:=Bk w gt 46 cs/\Below B a w/\B<=w.heap.size/\N0<=w.heap.size/\∃c,MdX w gx most c
def PyU (c d B gs gl gx:Nat) (own:Nat->Nat) (most rate:Nat) (T:List UInt8) (a:Nat) (w:World):Prop:=(a=c->StAt w B own gs gl most rate T)/\(a=d->MdX w gx most T)
def PyC.step {o:World} {j j1 j2:Nat} {cs:Array Value} (u:PyC o B gx gt N0 most cs w) (k:PyS j1 j2 B gs gx own most rate T2 j w w') (q:Ap own gs gt) (s:Ap own gs gx) (A:gt≠gx) (E:B<=gx):PyC o B gx gt N0 most cs w':=by
 obtain ⟨e,l,a,m,p,n⟩:=u;by_cases c1:j=j1;obtain ⟨own',D,_,d⟩:=k.1 c1;exact ⟨d.bk e q.col q.ne dC dC,l.trans (d.below a),zAk a d.size,zAk m d.size,p,d.bk n s.col s.ne dC dC⟩;by_cases c2:j=j2;obtain ⟨f,z⟩:=k.2.1 c2;exact ⟨f.bk e (fun i=>A i),l.trans (f.to_below a fun b c i=>by have C:b=gx:=i;omega),zAk a f.size,zAk m f.size,T2,z⟩;have c:=k.2.2 c1 c2;exact ⟨e.below c e.lt,l.trans (c.mono a),zAk a c.size,zAk m c.size,p,Bk.below n c (Bk.lt n)⟩
def PyC.drew {c:World} {cs:Array Value} (a:PyC c B gx gt N0 most cs w):PyC c B gx gt N0 most cs w.drew:=⟨a.1,a.2.1.trans (eX w B),a.2.2.1,a.2.2.2.1,a.2.2.2.2⟩
def PyU.drew {d e f:Nat} (c:PyU e f B gs gl gx own most rate T d w):PyU e f B gs gl gx own most rate T d w.drew:=⟨fun a=>(c.1 a).vb (Vis.of_below (eX _ _)),fun a=>c.2 a⟩
def PyU.step {d j j1 j2:Nat} (c:PyU j1 j2 B gs gl gx own most rate T d w) (k:PyS j1 j2 B gs gx own most rate T2 j w w') (f:Ap own gs gx) (i:d≠j) (l:d=j1->j≠j2):PyU j1 j2 B gs gl gx own most rate T d w':=by
 refine ⟨fun a=>?_,fun a=>?_⟩;exact (c.1 a).vb (Vis.of_below (k.2.2 (fun e=>i (a.trans e.symm)) (l a)));by_cases c1:j=j1;obtain ⟨own',o,_,n⟩:=k.1 c1;exact n.bk (c.2 a) f.col f.ne dC dC;have m:=k.2.2 c1 (fun e=>i (a.trans e.symm));exact Bk.below (c.2 a) m (Bk.lt (c.2 a))
def pO {j j1 j2:Nat} {cs:Array Value} (e:fresh N0 50 cs v w) (k:PyS j1 j2 B gs gx own most rate T2 j w w') (f:∀b,N0<=b->own b=0) (o:gs < N0) (hx:gx < N0):fresh N0 50 cs v w':=by
 obtain ⟨g,i,c,a⟩:=e;refine ⟨g,i,c,?_⟩;by_cases c1:j=j1;obtain ⟨own',n,_,l⟩:=k.1 c1;exact l.bk a (f g c) oM dC dC;by_cases c2:j=j2;exact (k.2.1 c2).1.bk a (fun d=>by have m:g=gx:=d;omega);exact a.below (k.2.2 c1 c2) a.lt
end
def aKD (cs:Array Value):Prop:=∀(c:Nat) (a:UInt8),cs[c]?≠some (bv a)
def aHW (x y:Int) (A1 A2:Option Addr) (n1 c1 n2 c2:Nat):aKD #[.int .i64 x,.int .i64 y,.slice A1 n1 c1,.slice A2 n2 c2]:=by
 intro a c;rcases a with _ | _ | _ | _ | a <;> simp [bv]
section
variable {w w' : World} {g : Nat} {t : TypeId} {cs : Array Value} (hx : Bk w g t cs) (k : Keep (fun b => b = g) w w')
include hx k
def aKy {B d:Nat} {e:Option Addr} {T:List UInt8} (o:aKD cs) (c:Rd w B 1 e d (T.map bv)) (m:B<=w.heap.size):Rd w' w'.heap.size 1 e d (T.map bv):=Rd.keepF c k m fun q u n a=>by
 obtain ⟨b,s,f,z,l⟩:=c.2 q;rw [n] at f;cases f;have a:b=g:=a;subst a;have p:(T.map bv).length=d:=by have:=c.1;omega
 have j:0 < T.length:=by simp at p;omega
 have i:=l 0 (bv (T[0]'j)) (by rw [zAf,zAa j];rfl);rw [zBq,hx.cell s] at i;exact o _ _ i
def aJl {B i c e:Nat} {a:TypeId} {d:Option Addr} {j:List Value} (n:a≠t) (f:Made w B a i d c e j):Made w' B a i d c e j:=by
 have m:w'.ownsRow B a i (.slice d c e) c j:=aA f.own fun b o _ l=>k.bk l (Bk.ne l hx n);exact ⟨m,Rd.of_own m,f.cap,f.max⟩
end
def fS (w:World) (g:Nat) (a c:Int) (d e:Value):World:=(((w.setCell g (.int .i64 a)).setCell ⟨g,1,none⟩ (.int .i64 c)).setCell ⟨g,2,none⟩ d).setCell ⟨g,3,none⟩ e
def fK (w:World) (g:Nat) (a c:Int) (d e:Value):Keep (fun b=>b=g) w (fS w g a c d e):=
 ((((Keep.refl (fun b=>b=g) w).setCell (p:=g) (.inl rfl) _).setCell (p:=⟨g,1,none⟩) (.inl rfl) _).setCell (p:=⟨g,2,none⟩) (.inl rfl) _).setCell (p:=⟨g,3,none⟩) (.inl rfl) _
def aAf {w:World} {g:Nat} {i j l m:Value} (f:Bk w g 50 #[i,j,l,m]) (a c:Int) (d e:Value):Bk (fS w g a c d e) g 50 #[.int .i64 a,.int .i64 c,d,e]:=by
 have:=(((f.set 0 (.int .i64 a)).set 1 (.int .i64 c)).set 2 d).set 3 e;simpa [fS] using this
def ResC (w:World) (g:Nat):Prop:=∃(x y:Int) (A1:Option Addr) (n1 c1:Nat) (A2:Option Addr) (n2 c2:Nat),Bk w g 50 #[.int .i64 x,.int .i64 y,.slice A1 n1 c1,.slice A2 n2 c2]
def ResX (w:World) (g:Nat) (r:Told):Prop:=∃A1 c1 A2 c2,Bk w g 50 (jN r A1 c1 A2 c2)/\Rd w w.heap.size 1 A1 r.data.length (r.data.map bv)/\Made w 0 3 1 A2 r.places.length c2 (r.places.map nv)
section
variable {w : World} {g g' : Nat} {r : Told} {A1 A2 : Option Addr} {x y : Int} {n1 c1 n2 c2 : Nat}
def ResC.of (a:Bk w g 50 aD6):ResC w g:=⟨_,_,_,_,_,_,_,_,a⟩
def ResC.setR {d:World} (a:ResC w g) (c:ResC w g') (i:fS w g' x y (.slice A1 n1 c1) (.slice A2 n2 c2)=d):ResC d g:=by
 subst i;obtain ⟨_,_,_,_,_,_,_,_,c⟩:=c;by_cases e:g=g';subst e;exact ⟨_,_,_,_,_,_,_,_,aAf c _ _ _ _⟩;obtain ⟨_,_,_,_,_,_,_,_,a⟩:=a;exact ⟨_,_,_,_,_,_,_,_,(fK w g' _ _ _ _).bk a (fun f=>e f)⟩
def StAt.setR {c:World} {B gs gl most rate:Nat} {own:Nat->Nat} {T:List UInt8} (d:StAt w B own gs gl most rate T) (a:ResC w g') (e:fS w g' x y (.slice A1 n1 c1) (.slice A2 n2 c2)=c):StAt c B own gs gl most rate T:=by
 subst e;obtain ⟨_,_,_,_,_,_,_,_,a⟩:=a;exact d.farT (fK w g' _ _ _ _) a
def MdX.setR {c:World} {gx most:Nat} {T:List UInt8} (d:MdX w gx most T) (a:ResC w g') (e:fS w g' x y (.slice A1 n1 c1) (.slice A2 n2 c2)=c):MdX c gx most T:=by
 subst e;obtain ⟨_,_,_,_,_,_,_,_,a⟩:=a;exact (fK w g' _ _ _ _).bk d (Bk.ne d a dC)
def RowR (w:World) (A1 A2:Option Addr) (c2:Nat) (r:Told):Prop:=Rd w w.heap.size 1 A1 r.data.length (r.data.map bv)/\Made w 0 3 1 A2 r.places.length c2 (r.places.map nv)
def RowR.setR {c:World} {A3 A4:Option Addr} {c4:Nat} {q:Told} (d:RowR w A3 A4 c4 q) (a:ResC w g') (e:fS w g' x y (.slice A1 n1 c1) (.slice A2 n2 c2)=c):RowR c A3 A4 c4 q:=by
 subst e;obtain ⟨_,_,_,_,_,_,_,_,a⟩:=a;exact ⟨aKy a (fK w g' _ _ _ _) (aHW _ _ _ _ _ _ _ _) d.1 nL,aJl a (fK w g' _ _ _ _) dC d.2⟩
def ResX.new {a:World} (c:ResC w g) (f:RowR w A1 A2 c2 r) (e:fS w g r.code r.num (.slice A1 r.data.length c1) (.slice A2 r.places.length c2)=a):ResX a g r:=by
 have d:=f.setR c e;subst e;obtain ⟨_,_,_,_,_,_,_,_,i⟩:=c;exact ⟨A1,c1,A2,c2,aAf i _ _ _ _,d.1,d.2⟩
def ResX.setR {f:World} (o:ResX w g r) (j:ResC w g') (p:RowR w A1 A2 c2 r) (e:fS w g' r.code r.num (.slice A1 r.data.length c1) (.slice A2 r.places.length c2)=f):ResX f g r:=by
 by_cases i:g=g';subst i;exact ResX.new j p e;obtain ⟨a,m,c,d,s,u,z⟩:=o;have l:=RowR.setR (A3:=a) (A4:=c) (c4:=d) (q:=r) ⟨u,z⟩ j e;subst e;exact ⟨a,m,c,d,(fK w g' _ _ _ _).bk s (fun n=>i n),l.1,l.2⟩
def iD {B:Nat} {c d:Value} {a:World} (f:B<=w.heap.size) (m:B<=g) (i:fS w g x y c d=a):Below B w a:=by
 subst i;exact (fK w g x y c d).to_below f fun b l e=>by have j:b=g:=e;omega
end
def pC (w:World) (g:Nat) (k c a:Int) (d:Value):World:=(((w.setCell g (.int .i64 k)).setCell ⟨g,1,none⟩ (.int .i64 c)).setCell ⟨g,2,none⟩ (.int .i64 a)).setCell ⟨g,3,none⟩ d
def qI {B:Nat} {w:World} {g:Nat} (f:B<=w.heap.size) (l:B<=g) (k a c:Int) (d:Value):Below B w (pC w g k a c d):=
 (((((Keep.refl (fun b=>b=g) w).setCell (p:=g) (.inl rfl) (.int .i64 k)).setCell (p:=⟨g,1,none⟩) (.inl rfl) (.int .i64 a)).setCell (p:=⟨g,2,none⟩) (.inl rfl) (.int .i64 c)).setCell (p:=⟨g,3,none⟩) (.inl rfl) d).to_below f fun b j e=>by have i:b=g:=e;omega
def aAe {w:World} {g:Nat} {f i j l:Value} (e:Bk w g 46 #[f,i,j,l]) (k c a:Int) (d:Value):Bk (pC w g k c a d) g 46 #[.int .i64 k,.int .i64 c,.int .i64 a,d]:=by
 have:=(((e.set 0 (.int .i64 k)).set 1 (.int .i64 c)).set 2 (.int .i64 a)).set 3 d;simpa [pC] using this
end Go.Proofs.YthldmddkfbijhaaGreatDoor
