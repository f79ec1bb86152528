/- Lemmas of the walk. Conditions: each its own. -/
import Derived.Test.YtnmapianpjamnaaGreatDoorPc11
import Derived.Test.YtnmapianpjamnaaGreatDoorPc17
import Derived.Test.YtnmapianpjamnaaGreatDoorProg
import Derived.Test.YtnmapianpjamnaaGreatDoorShl
import Derived.Test.YtnmapianpjamnaaGreatDoorSht
set_option linter.all false
set_option maxRecDepth 100000
set_option maxHeartbeats 4000000
open Go.Proofs.Tryz
namespace Go.Proofs.YtnmapianpjamnaaGreatDoor
open Go.RowKit
def aAN:(prog.info? 138).map (fun a=>(a.zero,a.size,a.bytes))=some (some (.slice none 0 0),1,24):=by kernel_rfl
def aAf:(prog.info? 143).map (fun a=>(a.zero,a.size,a.bytes))=some (some (.agg #[.pointer none,.int .i64 0,.int .i64 0]),3,24):=by kernel_rfl
def aCL (a:Nat) (j:a<=1000000) (b:World):(Instr.makeSlice 137 (.int .i64 (a:Int)) (.int .i64 (a:Int))).run prog b=.ok (.slice (some b.heap.size) a a) (b.alloc (.cells (rowC (fun _=>.slice none 0 0) a) 138)):=by
 obtain ⟨i,d,e,f,g⟩:=info_parts aAN;have:=run_make (P:=prog) b 137 138 i (.slice none 0 0) underlying137 d e .i64 .i64 a a oM (Int.le_refl _) (by rw [g];omega) oM;rw [this,f,aAj];have c:madeCells #[.slice none 0 0] a=Array.replicate a (.slice none 0 0):=by apply Array.ext';rw [toList_madeCells_one];simp
 simp only [Value.cells,zBr,zBl];rw [c]
def uG:(prog.info? 5).map (fun a=>(a.zero,a.size,a.bytes))=some (some (.int .u8 0),1,1):=by kernel_rfl
def aDJ (a:Nat) (b:World) (s:a<=1099511627776):
 Calls prog 146 #[.slice none 0 0,(a:Int)] b fun k g=>∃f,k=.returned f/\g.ownsRow b.heap.size 5 1 f 0 []/\Below b.heap.size b g:=by
 obtain ⟨p,l,n,t,o⟩:=info_parts uG;rcases zBa a with c | c
 · subst c;go_enter func146,ntmps146;go_wp2;go_ret;exact ⟨_,rfl,World.ownsRow_nil _ _ _ _,Below.refl _ _⟩
 · have d:=Lib.run_append_nil_zeros (P:=prog) b 22 3 22 5 p (.int .u8 0) .i64 .i64 underlying22 underlying3 l n a c oM oM (by rw [o];omega);have r:=grownCap_ge b a 0 5;have m:=grownCap_le_maxLen b a 0 5 (by unfold maxLen;omega);generalize grownCap b a 0 5=cp at*
   have e:(Builtin.zeroCells (Value.int .u8 0).cells a++Builtin.zeroCells (Value.int .u8 0).cells (cp - a)).size=cp*1:=(by simp [Builtin.zeroCells,Value.cells];omega);obtain ⟨j,i⟩:=hqq2 e d;clear e d;have q:¬((a:Int) < 0):=oM;go_enter func146,ntmps146;go_wp2_with (at_builtin;refine Lib.wpList_append_run _ rfl (.tmp 20) (.tmp 21) _ _ rfl _ _ rfl rfl _ _ i.out ?_);go_ret;exact ⟨_,rfl,World.ownsRow_made _ _ _ nL m j.out,bR.drew.alloc nL _⟩
structure Sl where
 A:Option Addr
 n:Nat
 c:Nat
 l:List UInt8
def slV (a:Sl):Value:=.slice a.A a.n a.c
def iC (a:List Sl):List UInt8:=a.flatMap (·.l)
def tT (b:List Sl) (a:Nat) (c:Sl) (d:b[a]?=some c):iC (b.take (a+1))=iC (b.take a)++c.l:=by
 rw [zAv,d];simp [iC]
def vO (a:List Sl) (b:Nat):(iC (a.take b)).length<=(iC a).length:=by
 have:iC a=iC (a.take b)++iC (a.drop b):=by unfold iC;rw [<-List.flatMap_append,zAu]
 rw [this,zAi];omega
def aA1 (I:Option Addr) (f Z v:Nat) (d:List Sl) (x:List UInt8) (o:Nat) (z:iC d=x) (Q:x.length=o) (g:World) (E:Rd g v 1 I f (d.map slV)) (F:∀b∈d,Rd g v 1 b.A b.n (b.l.map bv)) (hB:v<=g.heap.size) (ak:f<=1099511627776) (a8:o<=1099511627776):
 Calls prog 69 #[.slice I f Z] g fun P W=>∃t u,P=.returned (.slice t o u)/\Made W g.heap.size 5 1 t o u (x.map bv)/\Below g.heap.size g W:=by
 obtain ⟨ag,a5,ad,ae,af⟩:=info_parts uG;have R:d.length=f:=by simpa using E.1
 have S:∀a,(iC (d.take a)).length<=1099511627776:=fun a=>by have:=vO d a;rw [z] at this;omega
 have U:∀a b,d[a]?=some b->b.l.length=b.n/\(iC (d.take (a+1))).length=(iC (d.take a)).length+b.n:=fun a b e=>by
  have p:=(F b (zAd e)).1;have i:b.l.length=b.n:=by simpa using p
  rw [tT d a b e,zAi,i];exact ⟨rfl,rfl⟩
 obtain ⟨m,M,O,N,X,K,J⟩:=hqq7 R S U (E.mono hB) (fun b e=>(F b e).mono hB) z Q;clear R S U E F z Q;go_enter func69,ntmps69;go_wp2;go_loopw [3,11] (fun H k wr=>∃a:Nat,a<=f/\k=.int .i64 a/\H=.int .i64 ((iC (d.take a)).length:Int)/\g=wr) (fun _ k _=>f -(intOf k).toNat)
 case atStart=>exact ⟨0,zAp _,rfl,by simp [iC],rfl⟩
 case round=>
  obtain ⟨a,a6,rfl,rfl,rfl⟩:=hrel;by_cases D:a < f
  · obtain ⟨b,e⟩:∃b,d[a]?=some b:=⟨d[a]'(by have:=m.out;omega),zAa (by have:=m.out;omega)⟩;obtain ⟨Y,ah,ai,rfl,a2,j,B⟩:=N.out.get D;rw [zAf,e] at j;simp at j;subst j;unfold slV at B;obtain ⟨p,i⟩:=O.out a b e;have y:=M.out (a+1);generalize T:(iC (d.take a)).length=G at*
    have w:=lhd i;rw [i] at y;clear p i e T;have al:¬((G:Int)+(b.n:Int) < 0):=oM;go_wp2;go_roundw
    case rel=>exact ⟨a+1,by omega,by go_num,by rw [w.out];go_num,trivial⟩
    case measure=>simp [intOf];omega
  · have C:a=f:=oM;have a4:f<=a:=oM;have s:d.take a=d:=zAg (by have:=m.out;omega);rw [s,K.out,J.out];clear C s;go_wp2_with fail;refine (aDJ o _ a8).mono ?_;rintro P w1 ⟨am,rfl,a9,a1⟩;go_wp2_with fail;go_loopw [6,27] (fun H k wr=>∃a:Nat,a<=f/\k=.int .i64 a/\wr.ownsRow g.heap.size 5 1 H (iC (d.take a)).length ((iC (d.take a)).map bv)/\Below g.heap.size g wr) (fun _ k _=>f -(intOf k).toNat)
    case atStart=>exact ⟨0,zAp _,rfl,a9,a1⟩
    case round=>
        obtain ⟨a,a6,rfl,r,q⟩:=hrel;have V:=q.size;by_cases D:a < f
        · obtain ⟨b,e⟩:∃b,d[a]?=some b:=⟨d[a]'(by have:=m.out;omega),zAa (by have:=m.out;omega)⟩;obtain ⟨Y,ah,ai,rfl,a2,j,B⟩:=(N.out.below q).get D;rw [zAf,e] at j;simp at j;subst j;unfold slV at B;have ab:=lhd ((X.out b (zAd e)).below q);obtain ⟨p,i⟩:=O.out a b e;have y:=M.out (a+1);obtain ⟨ac,w⟩:=hqq2 (tT d a b e) i;generalize T:(iC (d.take a)).length=G at*
          rw [i] at y;have L:=lhd r;clear p i e r;go_wp2_with (at_builtin;refine bG _ rfl (.tmp 31) (.tmp 32) _ rfl g.heap.size 5 ag (.int .u8 0) 1 1 underlying22 a5 ad ae af rfl dC _ G _ rfl L.out g.heap.size b.A b.n b.c _ rfl ab.out (aAs _) (by unfold maxLen;omega) oM V ?_;intro an ao aa a3 aj);have a0:=cL q L.out a3 V;go_roundw
          case rel=>refine ⟨a+1,by omega,by go_num,?_,a0⟩;rw [w.out,ac.out,zAz];exact aa
          case measure=>simp [intOf];omega
        · have C:a=f:=oM;have a4:f<=a:=oM;have s:d.take a=d:=zAg (by have:=m.out;omega);rw [s,K.out,J.out] at r;obtain ⟨t,u,rfl,a7⟩:=bE r;clear C s r;go_wp2;go_ret;exact ⟨t,u,rfl,a7,q⟩
def TabW.vb {a:Nat} {b d:World} (e:TabW b) (i:VB a b d) (hB:0 < a) (g:0 < b.heap.size):TabW d:=
 fun c f=>(i.2.cell (p:=⟨0,c,none⟩) g (by show ¬(a<=0);omega)).trans (e c f)
def yX (e l p A B:Nat) (lv:Nat) (T:Int) (z:List Bool) (r q m:Nat) (c:World) (ht:TreeAt c l z) (J:Bk c p 3 #[(q:Int)]) (N:Bk c A 3 #[(m:Int)]) (Q:Bk c B 3 #[(lv:Int)]) (ag:lv < 9) (ah:m < 257) (M:z[r]?=some (eH m lv)) (I:(z.take r).count (eH m lv)=q) (E:TabW c) (hB:0 < e) (ad:e<=l):
 Calls prog 222 #[.agg #[l,(lv:Int),.int .i64 T],p,A,B] c fun D ar=>D=.returned (.tuple #[])/\
  ∃w1,VB e c w1/\Bk w1 p 3 #[(q:Int)]/\ar=w1.setCell p (.int .i64 (r:Int)):=by
 have al:=J.lt;have am:=N.lt;have an:=Q.lt;have W:0 < c.heap.size:=E.pos;obtain ⟨n,v⟩:=eqx (eH m lv);rw [v] at M I;obtain ⟨Y,L⟩:=eqx (Obj.cells #[l,(lv:Int),.int .i64 T] 143);have k:=(Below.refl c.heap.size c).alloc nL Y;have x:=Bk.new c 143 #[l,(lv:Int),.int .i64 T];rw [L] at x;have ao:=x.lt;obtain ⟨s,H⟩:=eqx (c.alloc Y);have P:=ht.below k;have K:=J.below k al;have O:=N.below k am;have R:=Q.below k an;have G:=E.below k W;rw [H] at k x P K O R G ao;have X:=k.size;obtain ⟨a3,a7,a4,aa,U,a8,ab,a1,a0⟩:=hqq9 v M I P K O R G k;obtain ⟨a9,a6,a2,a5⟩:=hqq4 x L H X;clear v M I ht J N Q E k x L P K O R G H X;go_enter func222,ntmps222;go_wp2_with fail;rw [a6.out,a2.out];refine wp_region_any kR ?_;refine dT e 7 [5,6,7,8,9,10,11] (fun _=>False) 6 [] (fun _=>True) (is (r:Int)) [is c.heap.size,is l,is (q:Int),is (m:Int),is (lv:Int),is (.bool n),cR] _ _ rfl dC kR kR kR (trivial) (fun _ _ _ _ _=>trivial) (mF _ _) tA1 ?_ ?_
 · refine bM ?_;refine pH3 4 (.pointer (some c.heap.size)) ?_;refine sC3 (fun _ b a _ _ _ _ j _ _ _ d=>?_) ?_
   · replace a:VFB e (fun _=>False) s b:=fD a;have aA:_=_:=j 0 5 kR rfl;have S:b.cell? c.heap.size=some (.pointer (some l)):=((a.1.bk a9.out dC dC (fun g=>g)).cell 0).trans rfl;go_simp;exact d _ _ (aL vR) rfl
   refine sC3 (fun o b a _ _ _ w _ _ _ _ d=>?_) ?_
   · replace a:VFB e (fun _=>False) s b:=fD a;have aw:o (.tmp 1)=.pointer (some p):=w 1 kR;have S:b.cell? p=some (.int .i64 (q:Int)):=((a.1.bk U.out dC dC (fun g=>g)).cell 0).trans rfl;go_simp;exact d _ _ (aL vR) rfl
   refine sC3 (fun o b a _ _ _ w _ _ _ _ d=>?_) ?_
   · replace a:VFB e (fun _=>False) s b:=fD a;have ay:o (.tmp 2)=.pointer (some A):=w 2 kR;have S:b.cell? A=some (.int .i64 (m:Int)):=((a.1.bk a8.out dC dC (fun g=>g)).cell 0).trans rfl;go_simp;exact d _ _ (aL vR) rfl
   refine sC3 (fun o b a _ _ _ w _ _ _ _ d=>?_) ?_
   · replace a:VFB e (fun _=>False) s b:=fD a;have az:o (.tmp 3)=.pointer (some B):=w 3 kR;have S:b.cell? B=some (.int .i64 (lv:Int)):=((a.1.bk ab.out dC dC (fun g=>g)).cell 0).trans rfl;go_simp;exact d _ _ (aL vR) rfl
   refine sC3 (fun _ b _ _ _ _ _ j _ _ _ d=>?_) ?_
   · have aD:_=_:=j 3 8 kR rfl;have aE:_=_:=j 4 9 kR rfl;go_simp;refine (jH m lv b ah ag).mono ?_;rintro D au ⟨rfl,af⟩;rw [a3.out];exact d _ _ (aL (VisK.of_below af)) rfl
   refine sC3 (fun _ b a _ _ _ _ j _ _ _ d=>?_) ?_
   · replace a:VFB e (fun _=>False) s b:=fD a;have aB:_=_:=j 1 6 kR rfl;have aC:_=_:=j 2 7 kR rfl;have ax:_=_:=j 5 10 kR rfl;go_simp;have t:=VFB.to_vb a (fun n _ g=>g);have ai:=aa.out.vis t.1;have ae:=a1.out.vb t hB (zAl W a5.out);refine (rG l z r q n b ai a7.out a4.out ae oM).mono ?_;rintro D au ⟨rfl,aj⟩;exact d _ _ (aL (aj.mono fun n v=>by rcases v with rfl;exact ad)) rfl
   exact aH
 · intro o y u a j V;replace a:VFB e (fun _=>False) s y:=fD a;have ac:o (.tmp 11)=.int .i64 (r:Int):=j 6 11 dC rfl;obtain ⟨aq,Z⟩:=V 6 dC;have ap:(is (r:Int)) aq y:=Z;clear Z V;simp only [zqq];rw [ac];clear j;have t:=VFB.to_vb a (fun n _ g=>g);have C:=t.1.bk U.out dC dC;have av:y.cell? p=some (.int .i64 (q:Int)):=(C.cell 0).trans rfl;have aF:=C.frozen 0;have ak:=(VisK.of_below (F:=fun n=>e<=n) a0.out).trans t;have aG:=C.lt;clear t a ap;change wpAny prog Region.Mode.any _ _ (1+u) (bS 7 8) _ y;rw [zCp 1 u];refine bH (f:=u) (i:=7) kR ?_;refine bU rfl rfl ?_;generalize d:wpAny prog _ _ _ u _=K5;go_simp;subst d;refine bW kR ?_;go_wp2_with fail;go_end0;exact ⟨rfl,y,ak,C,rfl⟩
def aCh (l a f d L M:Nat) (u:Nat->Value) (A aS j:Int) (lv:Nat) (v:List Bool) (i Y B:Nat) (w0 c:World) (I:Bk c a 135 (wcells u A aS)) (V:TreeAt w0 f v) (W:Vis w0 c) (aC:w0.heap.size<=d) (G:Bk c d 3 #[(Y:Int)]) (U:Bk c L 3 #[(B:Int)]) (Q:Bk c M 3 #[(lv:Int)]) (aI:lv < 9) (aK:B < 257) (aa:v[i]?=some (eH B lv)) (a8:(v.take i).count (eH B lv)=Y) (N:TabW c) (hB:0 < l) (az:l<=a) (ay:l<=f) (ax:l<=d):
 Calls prog 115 #[a,.agg #[f,(lv:Int),.int .i64 j],.func (.func 222) #[] #[d,L,M]] c fun q Z=>q=.returned (.tuple #[])/\
  VisF (fun b=>b=d) c Z/\Keep (fun b=>l<=b) c Z/\Bk Z d 3 #[(i:Int)]:=by
 have ht:=V.vis W;obtain ⟨au,am,ap,an,al,ar⟩:=hqq6 V W aa a8 N U;have b9:=U.lt;have aO:0 < c.heap.size:=N.pos;clear V W aa a8 N U;obtain ⟨aQ,S⟩:=eqx (Obj.cells #[f,(lv:Int),.int .i64 j] 143);have a6:=(Below.refl c.heap.size c).alloc nL aQ;have T:=Bk.new c 143 #[f,(lv:Int),.int .i64 j];rw [S] at T;have b6:=Q.lt;have b7:=G.lt;have b8:=I.lt;have aP:=Bk.ne G I dC;obtain ⟨J,Hn,a0,a2,m,a1,ao⟩:=hqq7 ht G Q I a6 T S;clear ht Q G I a6 T S;go_enter func115,ntmps115;go_wp2_with fail;rw [ao.out];refine (yX l f d L M lv j v i Y B _ (J.out.below m.out) (Hn.out.alloc _) (ar.out.alloc _) (a0.out.alloc _) aI aK ap.out an.out (al.out.below m.out aO) hB ay).mono ?_;rintro q s ⟨rfl,w1,r,a9,rfl⟩;obtain ⟨o,ac⟩:=((Vis.of_below m.out).trans r.1).waveC a2.out;have z:=ac.far (p:=d) (fun g=>aP g.symm) (.int .i64 (i:Int));have aL:=J.out.vis ((Vis.of_below m.out).trans r.1);have y:TreeAt (w1.setCell d (.int .i64 (i:Int))) f v:=au.out.vis (((am.out.trans (Vis.of_below m.out)).trans r.1).fresh (p:=d) aC _);obtain ⟨C,X⟩:=y.visits;have t:=(r.1.bk a1.out dC dC).far (p:=d) (fun g=>absurd (show c.heap.size=d from g) oM) (.int .i64 (i:Int));have H:=a9.set 0 (.int .i64 (i:Int));have P:VisF (fun b=>b=d) c (w1.setCell d (.int .i64 (i:Int))):=VisF.put (F:=fun b=>b=d) (VisF.of_vis ((Vis.of_below m.out).trans r.1)) (p:=d) (.inl rfl) _;have R:Keep (fun b=>l<=b) c (w1.setCell d (.int .i64 (i:Int))):=Keep.setCell (F:=fun b=>l<=b) ((Keep.of_below m.out).trans r.2) (p:=d) (.inl ax) _;obtain ⟨D,a5⟩:=eqx (w1.setCell d (.int .i64 (i:Int)));rw [a5] at z y X t H P R⊢;have aR:D.cell? c.heap.size=some (.pointer (some f)):=(t.cell 0).trans rfl;obtain ⟨K,aq,ak,ai,aj,av,aw⟩:=hqq7 z t H P R y X;have aM:=y.lt;have b5:=t.lt;have aE:=Bk.ne z t dC;have aD:=Bk.ne z H dC;have aF:f≠a:=by rintro rfl;obtain ⟨_,E⟩:=av.out.blk;exact absurd (aJ E K.out).1 dC
 clear z t H P R y X a5 ac aL a9 r m J Hn a0 a2 a1 aR;go_wp2_with fail;refine wp_region_any kR ?_;refine bL [9,10,11,12,13,14,15,16,17,18] (fun b=>b=a) 10 [3,10] (fun s=>Bk s a 135 (wcells u A o)) (fun _ s=>Bk s a 135 (wcells u A (IntKind.i64.wrap (o+C)))) [is a,is a,is (.pointer (some ⟨a,10,none⟩)),is (.int .i64 o),is c.heap.size,is f,is (.int .i64 C),is (.int .i64 (IntKind.i64.wrap (o+C))),is a,is (.pointer (some ⟨a,10,none⟩)),cR] _ _ rfl kR kR (K.out) (fun s bb g _ aB=>Bk.below g aB g.lt) (fun _ _ _ g aN=>Bk.below g aN g.lt) tA0 ?_ ?_
 · refine aZ ?_;refine pH3 0 (.pointer (some a)) ?_;refine pV3 0 9 ?_;refine pV3 1 10 ?_;refine sC3 (fun _ k _ O _ _ _ n _ _ _ w=>?_) ?_
   · have x:=O rfl;have aY:_=_:=n 2 11 kR rfl;have aV:k.cell? ⟨a,10,none⟩=some (.int .i64 o):=(x.cell 10).trans (aT _ _ _).2.2.2.2.2.2.2.2.2.2;go_simp;exact kq w rfl
   refine pH3 4 (.pointer (some c.heap.size)) ?_;refine pL3 4 13 (fun k e=>have e:Keep (fun b=>b=a) D k:=kD e;(((e.bk aq.out (fun g=>aE (show c.heap.size=a from g).symm)).cell 0).trans rfl:k.cell? c.heap.size=some (.pointer (some f)))) ?_;refine sC3 (fun _ k e _ _ _ _ n _ _ _ w=>?_) ?_
   · replace e:Keep (fun b=>b=a) D k:=kD e;have b0:_=_:=n 5 14 kR rfl;go_simp;refine (dX f C k ((e.cell aM aF).trans aw.out)).mono ?_;rintro q bc ⟨rfl,aA⟩;exact w _ _ (aG aA) rfl
   refine pW3 3 12 6 15 ?_;refine pV3 0 9 ?_;refine pV3 8 17 ?_;refine sC3 (fun _ k _ O _ _ _ n _ _ _ w=>?_) ?_
   · have x:=O rfl;have b2:_=_:=n 9 18 kR rfl;have b1:_=_:=n 7 16 kR rfl;have aX:k.cell? ⟨a,10,none⟩=some (.int .i64 o):=(x.cell 10).trans (aT _ _ _).2.2.2.2.2.2.2.2.2.2;have b4:=x.frozen 10;go_simp;refine w (.bool true) _ (aW (Keep.setCell (F:=fun b=>b=a) (Keep.refl _ _) (p:=⟨a,10,none⟩) (.inl rfl) _)) ?_;rw [<-bN u A o];exact x.set 10 _
   exact aH
 · intro b3 ae e n a7;replace e:Keep (fun b=>b=a) D ae:=kD e;obtain ⟨ba,ad⟩:∃aU,(fun _ s=>Bk s a 135 (wcells u A (IntKind.i64.wrap (o+C)))) aU ae:=a7 10 dC;simp only [zqq];clear n a7;have ab:=Vis.of_wave e K.out ad;have a3:=VisF.trans ai.out (VisF.of_vis ab);have E:=aj.out.trans (e.mono fun b _ (q:b=a)=>by rw [q];exact az);have a4:=e.bk ak.out (fun q=>aD (show d=a from q).symm);obtain ⟨af,ag,ah⟩:=hqq3 a3 E a4;clear ab a3 E a4 ad e;go_wp2_with fail;go_end0;exact ⟨rfl,af.out,ag.out,ah.out⟩
def VisF.waveC {d:Nat->Prop} {i j:World} {b:Nat} {e:Nat->Value} {f g:Int} (k:VisF d i j) (l:Bk i b 135 (wcells e f g)) (m:¬d b):∃c,Bk j b 135 (wcells e f c):=by
 rcases VisF.wave k l m with a |⟨c,a⟩;exact ⟨g,a⟩;rw [bN] at a;exact ⟨c,a⟩
def aEC (d:Value) (c:World):Nat:=match d with
 | .pointer (some a)=>match c.cell? a with
   | some b=>(intOf b+1).toNat
   | none=>0
 | _=>0
def xW {b:World} {a:Addr} {c:Int} (d:b.cell? a=some (.int .i64 c)):aEC (.pointer (some a)) b=(c+1).toNat:=by
 show (match b.cell? a with | some e=>(intOf e+1).toNat | none=>0)=_;rw [d];rfl
def qZ (k l:Nat) (i:List Nat) (r s c:Nat) (t:World) (e:WaveAt t k l i) (a3:i[r]?=some c) (a0:(i.take r).count c=s) (Y:∀v∈i,v < 257) (aO:i.length<=1000) (aE:TabW t) (aD:0 < k):
 Calls prog 171 #[l,(s:Int),(c:Int)] t fun D c4=>D=.returned (.int .i64 (r:Int))/\VB k t c4:=by
 have S:=(zAc.1 a3).1;have al:=(zAc.1 a3).2;have T:c < 257:=by rw [<-al];exact Y _ (zBj S)
 have ag:(i.take r).count c < i.count c:=by
  have cr:i.count c=(i.take (r+1)).count c+(i.drop (r+1)).count c:=by rw [<-zCc,zAu]
  have cs:(i.take (r+1)).count c=(i.take r).count c+1:=by rw [zAv,a3,zCc];simp
  omega
 have aC:=iP i r c (zCk S) Y T;have ab:=tW i r c;rw [a0] at ab ag;have aJ:∀lv,(aF i lv (aP c lv))[dZ i r c lv]?=some (eH c lv):=fun lv=>by have:=vS i r lv S;rw [al] at this;exact this
 have aY:=e;obtain ⟨bG,O,cH,A,aU⟩:=e;obtain ⟨B,a2⟩:=eqx i.length;have aj:(i.take B).count c=i.count c:=by rw [<-a2,List.take_length]
 obtain ⟨ar,aS⟩:=eqx (i.count c);rw [aS] at aj ag;rw [a2] at A S;have bQ:=A.lt;have bN:decide ((s:Int) < 0)=false:=by simp
 have P:=((Below.refl t.heap.size t).alloc nL (.cells #[(s:Int)] 3)).alloc (by simp) (.cells #[(c:Int)] 3);have F:=(Bk.new t 3 #[(s:Int)]).alloc (.cells #[(c:Int)] 3);have n:=Bk.new (t.alloc (.cells #[(s:Int)] 3)) 3 #[(c:Int)];rw [World.size_alloc] at n;obtain ⟨J,ad⟩:=eqx ((t.alloc (.cells #[(s:Int)] 3)).alloc (.cells #[(c:Int)] 3));obtain ⟨d,Z⟩:=eqx t.heap.size;obtain ⟨w,aM⟩:=eqx (d+1);rw [ad] at P F n;rw [Z] at F;rw [Z,aM] at n;have cE:=F.lt;have cF:=n.lt;obtain ⟨bn,b6,bw,a8,av,bt,be,b8,b9⟩:=hqq9 ab aC (aY.vis (Vis.of_below P)) (A.below P bQ) A aU aJ Y a2;obtain ⟨bp,bs,bo,bb,W,H,bd,bf,c5⟩:=hqq9 aO aj (show ¬ar<=s by omega) aE F n ad P Z;have c6:=lhd aM;clear ab aC aY A aU aJ Y a2 aj aS ag a0 a3 al aE F n ad P aO S;go_enter func171,ntmps171;go_wp2_with fail;rw [bd.out];refine wp_region_any kR ?_;refine cJ [8,9,10,11,12,13,14,15,16,17,18,19,20,21,22,23,24] (VB k) (Vs [is l,is (.bool false),is (.bool false),is (s:Int),is (.bool false),is (.bool false),is (.bool false),is (s:Int),is l,is l,is l,is (.pointer (some ⟨l,9,none⟩)),is (B:Int),is (c:Int),is (ar:Int),is (.bool false),is (.bool false)]) _ _ rfl kR vR (fun _ _=>VisK.trans) (eE tA1) ?_ ?_
 · refine aZ ?_;refine pH 0 (.pointer (some l)) ?_;refine pV 0 8 ?_;refine pV 1 9 ?_;refine sG 10 false (fun m b a _ _ u _ _ _ _ g=>?_) ?_
   · have ax:m (.tmp 4)=.pointer (some d):=u 4 kR;replace a:(VB k) J b:=bD a;have V:b.cell? d=some (.int .i64 (s:Int)):=((a.1.bk W.out dC dC).cell 0).trans rfl;go_simp;exact g _ _ vR rfl
   refine gV 10 false 3 11 ?_;refine pW 2 10 4 12 ?_;refine pV 5 13 ?_;refine sG 14 false (fun m b a _ _ u _ _ _ _ g=>?_) ?_
   · have ax:m (.tmp 4)=.pointer (some d):=u 4 kR;replace a:(VB k) J b:=bD a;have V:b.cell? d=some (.int .i64 (s:Int)):=((a.1.bk W.out dC dC).cell 0).trans rfl;go_simp;exact g _ _ vR rfl
   refine gH 14 false 0 (.pointer (some l)) ?_;refine gH 14 false 0 (.pointer (some l)) ?_;refine gV 14 false 9 17 ?_;refine gV 14 false 10 18 ?_;refine sG 14 false (fun _ b a _ _ _ j _ _ _ g=>?_) ?_
   · have ce:_=_:=j 11 19 kR rfl;replace a:(VB k) J b:=bD a;obtain ⟨I,U⟩:=a.1.waveC a8.out;have bC:b.cell? ⟨l,9,none⟩=some (.int .i64 (B:Int)):=(U.cell 9).trans (aT O B I).2.2.2.2.2.2.2.2.2.1;go_simp;exact g _ _ vR rfl
   refine sG 14 false (fun m b a _ _ u _ _ _ _ g=>?_) ?_
   · have ay:m (.tmp 5)=.pointer (some w):=u 5 kR;replace a:(VB k) J b:=bD a;have V:b.cell? w=some (.int .i64 (c:Int)):=((a.1.bk H.out dC dC).cell 0).trans rfl;go_simp;exact g _ _ vR rfl
   refine sG 14 false (fun _ b a _ _ _ j _ _ _ g=>?_) ?_
   · have cd:_=_:=j 8 16 kR rfl;have cf:_=_:=j 12 20 kR rfl;have cg:_=_:=j 13 21 kR rfl;replace a:(VB k) J b:=bD a;go_simp;refine (jF k l i B c b (bw.out.vis a.1) T (zCr b9.out.symm) b8.out bp.out).mono ?_;rintro D b3 ⟨rfl,bU⟩;rw [bs.out];exact g _ _ bU rfl
   refine sG 14 false (fun _ _ _ _ _ _ j _ _ _ g=>?_) ?_
   · have cc:_=_:=j 7 15 kR rfl;have ch:_=_:=j 14 22 kR rfl;have bO:=bo.out;have cy:decide (ar<=s)=false:=zBy bO;go_simp;exact g _ _ vR rfl
   refine pW 6 14 15 23 ?_;exact aH
 · intro m x a j;replace a:(VB k) J x:=bD a;have bE:m (.tmp 24)=.bool false:=j 16 24 rfl;simp only [zqq];rw [bE];clear j;have an:VB k t x:=(VisK.of_below (Z ▸ bf.out)).trans a;have F:=a.1.bk W.out dC dC;have n:=a.1.bk H.out dC dC;have bT:=a.1.size;obtain ⟨a9,bJ⟩:∃v,v=x:=⟨_,rfl⟩;subst bJ;have aB:=Bk.new a9 3 #[.int .i64 8];have aK:=F.alloc (.cells #[.int .i64 8] 3);have ah:=n.alloc (.cells #[.int .i64 8] 3);have aV:=an.alloc (.cells #[.int .i64 8] 3);obtain ⟨b7,bg,bi,bu⟩:=hqq4 aB aK ah aV;have ct:k<=d:=oM;have cw:t.heap.size<=a9.heap.size:=an.1.size;clear aB aK ah aV F n a an W H bN;go_wp2_with fail;go_loopw [7] (fun v wr=>∃(q z:Nat) (M:Int),z<=9/\M=(z:Int) - 1/\v=.pointer (some q)/\Bk wr q 3 #[.int .i64 M]/\Bk wr d 3 #[.int .i64 ((dZ i r c z:Nat):Int)]/\Bk wr w 3 #[(c:Int)]/\VB k t wr/\w < q) (fun v wr=>aEC v wr)
   case atStart=>exact ⟨a9.heap.size,9,8,by omega,by omega,rfl,b7.out,by rw [bn.out];exact bg.out,bi.out,bu.out,by omega⟩
   case round=>
    obtain ⟨q,bY,M,cA,bV,rfl,y,Q,n,G,ah⟩:=hrel;have aw:wr.cell? q=some (.int .i64 M):=(y.cell 0).trans rfl;rcases bY with _ | lv
    · have bX:decide (M>=0)=false:=(by simp;omega);have bB:wr.cell? d=some (.int .i64 ((dZ i r c 0:Nat):Int)):=(Q.cell 0).trans rfl;rw [b6.out] at bB;have N:=lhd G;clear Q n y G;go_wp2_with fail;go_ret;exact ⟨rfl,N.out⟩
    · obtain rfl:M=(lv:Int):=oM;have a1:lv < 9:=oM;have bX:decide ((lv:Int)>=0)=true:=(by simp);obtain ⟨a7,K,am⟩:=bt.out lv a1;obtain ⟨z,ai⟩:=eqx (2 ^ lv);obtain ⟨o,R⟩:=eqx (aP c lv);have aR:o < z:=(by rw [<-ai,<-R];exact iY c lv T oM);rw [ai] at K am;obtain ⟨E,aa,ac,cB,cv⟩:=World.ownsRow.form K oM;rw [ac] at K;obtain ⟨v,a5⟩:=eqx (dZ i r c lv);obtain ⟨b4,a6⟩:=eqx (dZ i r c (lv+1));have ap:=iQ i r c lv a1;have ao:=be.out lv;rw [R,a5,a6] at ap;rw [R,a5] at ao;rw [a6] at Q;have cC:(o:Int) < (z:Int):=oM;have aQ:=G.1.own K dC dC;have cx:=K.lt;have aN:∀f,(Value.slice (some E) z aa).ownBlock=some f->f≠d:=fun f af=>by have cu:E=f:=(by simpa [Value.ownBlock] using af);omega
      have bm:=lhd aN;clear aN;have a4:∃b2,Bk wr l 135 (wcells O B b2):=G.1.waveC av.out;obtain ⟨b2,a4⟩:=a4;have aG:=bb.out.vb G aD oM;have cD:=G.1.size;obtain ⟨bA,bz,bq,au,br,bx,c7,N,ba⟩:=hqq9 ap ao aQ (am o aR) R a5 a6 G ac;obtain ⟨a8,bc,X,H,bl,b5⟩:=hqq6 a4 aG y n Q aw;obtain ⟨C,bK⟩:∃v,v=wr:=⟨_,rfl⟩;subst bK;clear K am ac ai R a5 a6 ap ao G aQ a4 aG y n Q bV;go_wp2_with fail;refine wp_region_any kR ?_;refine dT k 14 [29,30,31,32,33,34,35,36,37,38,39,40,41,42] (fun f=>f=d) 13 [13] (fun L=>Bk L d 3 #[(b4:Int)]) (fun _ L=>Bk L d 3 #[(v:Int)]) [is l,is l,is (lv:Int),is l,is l,is (.pointer (some ⟨l,lv,none⟩)),is (.slice (some E) z aa),is (c:Int),is (lv:Int),is (o:Int),is (.pointer (some ⟨E,o*3,none⟩)),is (.agg #[.pointer (some ⟨a7 o,0,none⟩),(lv:Int),(o:Int)]),is (.func (.func 222) #[] #[d,w,q]),cR] _ _ rfl dC kR kR kR (bl.out) (fun w1 L e _ aq=>aq.1.bk e dC dC) (fun _ _ _ e aq=>aq.1.bk e dC dC) tA1 ?_ ?_
      · refine bM ?_;refine pH3 0 (.pointer (some l)) ?_;refine pH3 0 (.pointer (some l)) ?_;refine sC3 (fun m b a _ _ _ u _ _ _ _ g=>?_) ?_
        · replace a:VFB k (fun f=>f=d) C b:=fD a;have az:m (.tmp 7)=.pointer (some q):=u 7 kR;have V:b.cell? q=some (.int .i64 (lv:Int)):=((a.1.bk X.out dC dC (fun e=>absurd (show q=d from e) oM)).cell 0).trans rfl;go_simp;exact g _ _ (aL vR) rfl
        refine pV3 1 30 ?_;refine pV3 3 32 ?_;refine sC3 (fun _ _ _ _ _ _ _ j _ _ _ g=>?_) ?_
        · have ck:_=_:=j 4 33 kR rfl;have cj:_=_:=j 2 31 kR rfl;have cz:(lv:Int) < 9:=oM;go_simp;exact g _ _ (aL vR) rfl
        refine sC3 (fun _ b a _ _ _ _ j _ _ _ g=>?_) ?_
        · replace a:VFB k (fun f=>f=d) C b:=fD a;have cl:_=_:=j 5 34 kR rfl;obtain ⟨I,U⟩:=a.1.waveC a8.out (fun e=>absurd (show l=d from e) oM);have bC:b.cell? ⟨l,lv,none⟩=some (.slice (some E) z aa):=(U.cell lv).trans ((nR O B I lv a1).trans (congrArg some ba.out));go_simp;exact g _ _ (aL vR) rfl
        refine sC3 (fun m b a _ _ _ u _ _ _ _ g=>?_) ?_
        · replace a:VFB k (fun f=>f=d) C b:=fD a;have ay:m (.tmp 5)=.pointer (some w):=u 5 kR;have V:b.cell? w=some (.int .i64 (c:Int)):=((a.1.bk H.out dC dC (fun e=>absurd (show w=d from e) oM)).cell 0).trans rfl;go_simp;exact g _ _ (aL vR) rfl
        refine sC3 (fun m b a _ _ _ u _ _ _ _ g=>?_) ?_
        · replace a:VFB k (fun f=>f=d) C b:=fD a;have az:m (.tmp 7)=.pointer (some q):=u 7 kR;have V:b.cell? q=some (.int .i64 (lv:Int)):=((a.1.bk X.out dC dC (fun e=>absurd (show q=d from e) oM)).cell 0).trans rfl;go_simp;exact g _ _ (aL vR) rfl
        refine sC3 (fun _ b _ _ _ _ _ j _ _ _ g=>?_) ?_
        · have cm:_=_:=j 7 36 kR rfl;have cn:_=_:=j 8 37 kR rfl;go_simp;refine (hQ c lv b T oM).mono ?_;rintro D b3 ⟨rfl,ae⟩;rw [br.out];exact g _ _ (aL (VisK.of_below ae)) rfl
        refine pW3 6 35 9 38 ?_;refine sC3 (fun _ b a _ _ _ _ j _ _ _ g=>?_) ?_
        · replace a:VFB k (fun f=>f=d) C b:=fD a;have co:_=_:=j 10 39 kR rfl;have ak:=aA bq.out fun f cb af A=>a.1.bk A dC dC (fun e=>absurd (show f=d from e) (bm.out f af));obtain ⟨c0,c1,c2⟩:=dV a7 lv z o aR;have c8:b.cell? ⟨E,o*3,none⟩=_:=(World.ownsRow.cellAt ak (o*3) oM).trans c0;have c9:b.cell? ⟨E,o*3+1,none⟩=_:=(World.ownsRow.cellAt ak (o*3+1) oM).trans c1;have ca:b.cell? ⟨E,o*3+2,none⟩=_:=(World.ownsRow.cellAt ak (o*3+2) oM).trans c2;go_simp;exact g _ _ (aL vR) rfl
        refine sC3 (fun m _ _ _ _ _ u _ _ _ _ g=>?_) ?_
        · have ax:m (.tmp 4)=.pointer (some d):=u 4 kR;have ay:m (.tmp 5)=.pointer (some w):=u 5 kR;have az:m (.tmp 7)=.pointer (some q):=u 7 kR;go_simp;exact g _ _ (aL vR) rfl
        refine sC3 (fun _ b a bI _ _ _ j _ _ _ g=>?_) ?_
        · replace a:VFB k (fun f=>f=d) C b:=fD a;have bR:=bI rfl;have ci:_=_:=j 0 29 kR rfl;have cp:_=_:=j 11 40 kR rfl;have cq:_=_:=j 12 41 kR rfl;go_simp;have aX:Vis t b:=(VisF.trans (VisF.of_vis N.out.1) a.1).to_vis (fun f A D=>by have:f=d:=D;omega);obtain ⟨I,U⟩:∃I,Bk b l 135 (wcells O B I):=aX.waveC av.out;have n:=a.1.bk H.out dC dC (fun e=>absurd (show w=d from e) oM);have y:=a.1.bk X.out dC dC (fun e=>absurd (show q=d from e) oM);have bH:TabW b:=fun s a0=>(a.2.cell (p:=⟨0,s,none⟩) (by show 0 < C.heap.size;omega) (by show ¬(0=d∨k<=0);omega)).trans (bc.out s a0);refine (aCh k l (a7 o) d w q O B I o lv (aF i lv o) v b4 c t b U au.out.2 aX oM bR n y a1 T bz.out bA.out bH aD bG au.out.1 oM).mono ?_;rintro D b3 ⟨rfl,bL,bP,ae⟩;exact g _ _ (aCs ⟨bL,bP.mono fun f _ e=>.inr e⟩) ae
        exact aH
      · intro m x bF a j aI;replace a:VFB k (fun f=>f=d) C x:=fD a;obtain ⟨c3,b1⟩:=aI 13 dC;have b0:(fun _ L=>Bk L d 3 #[(v:Int)]) c3 x:=b1;clear b1 aI;simp only [zqq];clear j;change wpAny prog Region.Mode.any _ _ (0+bF) (bS 14 14) _ x;refine bW kR ?_;have n:=a.1.bk H.out dC dC (fun e=>absurd (show w=d from e) oM);have y:=a.1.bk X.out dC dC (fun e=>absurd (show q=d from e) oM);have aW:VB k t x:=⟨(VisF.trans (VisF.of_vis N.out.1) a.1).to_vis (fun f A D=>by have:f=d:=D;omega),N.out.2.trans (a.2.mono fun f _ e=>by rcases e with e | e;(have:f=d:=e;omega);exact e)⟩;have bT:=a.1.size;have aw:x.cell? q=some (.int .i64 (lv:Int)):=(y.cell 0).trans rfl;have cG:=y.lt;obtain ⟨bj,bh,bv⟩:=hqq3 n b0 aW;clear n y aW a b0;go_wp2_with fail;refine ⟨⟨x.heap.size,lv,(lv:Int) - 1,by omega,rfl,rfl,Bk.new _ _ _,by rw [bx.out];exact bh.out.alloc _,bj.out.alloc _,bv.out.alloc _,by omega⟩,?_⟩;have bZ:=((Bk.new x 3 #[.int .i64 ((lv:Int) - 1)]).cell 0);rw [xW (bZ.trans rfl),xW b5.out];omega
def aBq (a:Int) (c:0<=a) (d:a<=255):∃b:UInt8,(b.toNat:Int)=a:=⟨UInt8.ofNat a.toNat,by
 rw [UInt8.toNat_ofNat'];omega⟩
def aED (c:Bool) (b:List UInt8):Prop:=c=true->∀a∈b,97<=a.toNat/\a.toNat<=99
def aDF (b:World) (gA:Nat) (g:Bool) (f:Ending) (e:World):Prop:=∃a c d,a.length<=gA/\aED g a/\f=.returned (.slice c a.length d)/\Made e b.heap.size 5 1 c a.length d (a.map bv)/\Below b.heap.size b e
def aDE (D:Option Addr) (d i F:Nat) (U:List Int) (gA:Nat) (p:Bool) (e:World) (z:Rd e F 1 D d (U.map iv)) (hB:F<=e.heap.size) (a2:d<=maxLen) (ag:gA<=1000):
 Calls prog 23 #[.slice D d i,(gA:Int),.bool p] e (aDF e gA p):=by
 obtain ⟨T,N,Q,R,S⟩:=info_parts uG;unfold maxLen at a2;have W:=lhd (z.mono hB);have P:U.length=d:=by simpa using z.1
 have a8:=lhd P;clear z P;go_enter func23,ntmps23;go_wp2_with fail;go_loopw [7,8] (fun a5 C wr=>∃(a:Nat) (b:List UInt8),a<=d/\a<=gA/\b.length=a/\aED p b/\C=.int .i64 a/\wr.ownsRow e.heap.size 5 1 a5 a (b.map bv)/\Below e.heap.size e wr) (fun _ C _=>d -(intOf C).toNat)
 case atStart=>exact ⟨0, [],by omega,by omega,rfl,fun _ i c=>(by cases c),rfl,World.ownsRow_nil _ _ _ _,Below.refl _ _⟩
 case round=>
  obtain ⟨a,b,ac,O,v,q,rfl,s,f⟩:=hrel;have t:=f.size;by_cases r:a < d/\a < gA
  · obtain ⟨a0,af⟩:=r;obtain ⟨a9,aj,ak,rfl,Y,A,c⟩:=(W.out.below f).get a0;rw [zAf] at A;obtain ⟨m,a4,rfl⟩:=Option.map_eq_some_iff.1 A;unfold iv at c;obtain ⟨o,K,V,J⟩:=hqq4 s f q v;clear s f q v A a4 Y;have ad:(a:Int) < (d:Int):=oM;have a1:(a:Int) < (gA:Int):=oM;cases p with
    | true=>
      obtain ⟨g,ah,ai⟩:=aA4 m 3 oM;obtain ⟨j,l⟩:=aBq (97+(g:Int)) oM oM;have aa:IntKind.u64.wrap (97+(g:Int))=97+(g:Int):=(by rw [IntKind.wrap_u64];omega);have ab:IntKind.u8.wrap (97+(g:Int))=97+(g:Int):=(by rw [IntKind.wrap_u8];omega);have n:=lhd l;clear l;go_wp2_with (at_builtin;refine cW _ rfl (.tmp 21) (.tmp 30) _ rfl e.heap.size 5 T (.int .u8 0) 1 1 underlying22 N Q R S rfl dC _ a _ rfl o.out rfl rfl (by simp [Value.oneCell']) (by unfold maxLen;omega) oM t ?_;intro a6 a7 y x a3 X);have w:=cL K.out o.out x t;go_roundw
      case rel=>refine ⟨a+1,b++ [j],by omega,by omega,by simp [J.out],fun k i c=>?_,by go_num,?_,w⟩;rcases zCm.1 c with c | c;exact V.out k i c;simp at c;subst c;have:=n.out;omega;rw [zAz];have u:bv j=.int .u8 (97+(g:Int)):=(by unfold bv;rw [n.out]);rw [List.map_cons,List.map_nil,u];exact y
      case measure=>simp [intOf];omega
    | false=>
      have B:0<=IntKind.u8.wrap m/\IntKind.u8.wrap m<=255:=(by rw [IntKind.wrap_u8];omega);obtain ⟨j,l⟩:=aBq (IntKind.u8.wrap m) B.1 B.2;have n:=lhd l;clear l B;go_wp2_with (at_builtin;refine cW _ rfl (.tmp 32) (.tmp 38) _ rfl e.heap.size 5 T (.int .u8 0) 1 1 underlying22 N Q R S rfl dC _ a _ rfl o.out rfl rfl (by simp [Value.oneCell']) (by unfold maxLen;omega) oM t ?_;intro a6 a7 y x a3 X);have w:=cL K.out o.out x t;go_roundw
      case rel=>refine ⟨a+1,b++ [j],by omega,by omega,by simp [J.out],fun k i c=>(by cases k),by go_num,?_,w⟩;rw [zAz];have u:bv j=.int .u8 (IntKind.u8.wrap m):=(by unfold bv;rw [n.out]);rw [List.map_cons,List.map_nil,u];exact y
      case measure=>simp [intOf];omega
  · subst v;obtain ⟨E,L,rfl,M⟩:=bE s;obtain ⟨H,I,G⟩:=hqq3 M f q;clear s f q M;by_cases Z:b.length < d
    · have ae:¬b.length < gA:=fun k=>r ⟨Z,k⟩;have a1:¬(b.length:Int) < (gA:Int):=oM;clear r;go_wp2_with fail;go_ret;exact ⟨b,E,L,O,G.out,rfl,H.out,I.out⟩
    · clear r;go_wp2_with fail;go_ret;exact ⟨b,E,L,O,G.out,rfl,H.out,I.out⟩
end Go.Proofs.YtnmapianpjamnaaGreatDoor
