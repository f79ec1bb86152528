/- Lemmas of the walk. Conditions: each its own. -/
import Derived.Test.YtlghmcogeipojaaGreatDoorPm12
set_option linter.all false
set_option maxRecDepth 100000
set_option maxHeartbeats 8000000
open Go.Proofs.Tryz
namespace Go.Proofs.YtlghmcogeipojaaGreatDoor
open Go.RowKit
def aLl {d} {e i g o k n b:Nat} {own f D} (a:Bk d g 32 #[(7:Int),o0,o0,.slice f b k,(2:Int),(n:Int),(b:Int),(),(8:Int),o0,o0,(),(6:Int),o0,o0,.slice f b k,(5:Int),o0,.int .i64 (o - b:Nat),()]) (p:Ap own i g) (q:Rd d e 1 f b (D.map bv)) (hB:e<=d.heap.size):StpZ d e own i (some ⟨g,0,none⟩) 5 [⟨7,0,0,D⟩,⟨2,n,b, []⟩,⟨8,0,0, []⟩,⟨6,0,0,D⟩,⟨5,0,((o - b:Nat):Int), []⟩]:=by
 have l:ArgZ d e own i f b D:=ArgZ.H q nL hB;have j:ArgZ d e own i none 0 []:=ArgZ.H (Rd.nil _ _ _ _) nL hB;refine ⟨rfl,λ_=>⟨g,0,rfl,a.lt,.inr ⟨p,_,_,a⟩,λm r c=>?_⟩⟩;rcases m with _ | _ | _ | _ | _ | m;cases c;exact ⟨_,_,_,a.cell 0,a.cell 1,a.cell 2,a.cell 3,l⟩;cases c;exact ⟨_,_,_,a.cell 4,a.cell 5,a.cell 6,a.cell 7,j⟩;cases c;exact ⟨_,_,_,a.cell 8,a.cell 9,a.cell 10,a.cell 11,j⟩;cases c;exact ⟨_,_,_,a.cell 12,a.cell 13,a.cell 14,a.cell 15,l⟩;cases c;exact ⟨_,_,_,a.cell 16,a.cell 17,a.cell 18,a.cell 19,j⟩
 .simp at c
def TL (a:List UInt8) (b d c:Nat):List UInt8:=if c < 2 then a else a.take b++a.drop (b+d)
def aM8 {c g:List UInt8} {b a f e:Nat} {d:Sp} {i:List Sp} (aA:Int) (ht:c.length=f) (o:b+a<=f) (m: [⟨7,0,0,g⟩,⟨2,b,a, []⟩,⟨8,0,0, []⟩,⟨6,0,0,g⟩,⟨5,0,((f - a:Nat):Int), []⟩]=i) (k:i[e]?=some d):
 Good (TL c b a e).length aA d.kind d.p d.k d.D.length/\d.kind≠1/\(doM (TL c b a e) aA d.kind d.p d.k d.D).1=TL c b a (e+1):=by
 subst m;have n:(c.take b++c.drop (b+a)).length=f - a:=by rw [zAi,zAj,zAw];omega
 have j:dK c.length (b:Int) (a:Int)=true:=zBz oM;have l:dK (f - a) 0 ((f - a:Nat):Int)=true:=zBz oM;rcases e with _ | _ | _ | _ | _ | e <;> simp only [List.getElem?_cons_zero,zCf,List.getElem?_nil] at k <;> cases k;exact ⟨.inr (.inr (.inr (.inr (.inl rfl)))),by simp,rfl⟩;exact ⟨.inr (.inl ⟨rfl,j⟩),by simp,by simp [doM,TL,j]⟩;exact ⟨.inr (.inr (.inr (.inr (.inr rfl)))),by simp,rfl⟩;exact ⟨.inr (.inr (.inr (.inl rfl))),by simp,rfl⟩
 .exact ⟨.inr (.inr (.inl ⟨rfl,by rw [show TL c b a (0+1+1+1+1)=c.take b++c.drop (b+a) from rfl,n];exact l⟩)),by simp,by
   rw [show TL c b a (0+1+1+1+1)=c.take b++c.drop (b+a) from rfl];unfold doM;dsimp only;rw [if_neg (by decide),if_neg (by decide),if_pos rfl];split <;> rfl⟩
def aDG (S:Option Addr) (d J:Nat) (G:List UInt8) (cb cH:Int) (F:World) (aI:Rd F F.heap.size 1 S d (G.map bv)) (cA:d<=J) (dg:J<=maxLen) (ay:TabW F):
 Calls prog 3 #[.slice S d J,(cb:Int),(cH:Int)] F λq ar=>q=.returned (.bool true)/\Below F.heap.size F ar:=by
 have dw:=ay.pos;have b7:G.length=d:=by simpa using aI.1
 obtain ⟨o,hB⟩:=eqx F.heap.size;have ax:0 < o:=oM;rw [hB] at aI;have es:d<=maxLen:=zAk cA dg;have et:maxLen=9223372036854775807:=rfl;have c1:=lhd hB;clear dw hB;by_cases d6:d > 300
 .have ci:=zy ((d:Int) > 300);go_enter func3,ntmps3;go_wp2_with fail;refine (kC (w:=F) ay).mono ?_;rintro q eC ⟨rfl,aD⟩;go_wp2_with fail;go_ret;exact ⟨rfl,aD⟩
 have ci:=zn ((d:Int) > 300);have er:d<=300:=oM;clear d6;obtain ⟨j,b0,dh⟩:=nQ cb (d+1) oM;obtain ⟨ap,b1,dt⟩:=nQ cH 4 oM;have di:j<=d:=oM;obtain ⟨b,dq⟩:=eqx (min ap (d - j));have dr:j+b<=d:=oM;have eu:b<=3:=oM;have bb:IntKind.i64.wrap (d+1)=((d+1:Nat):Int):=zu
 have bc:IntKind.u64.wrap (d+1)=((d+1:Nat):Int):=zv
 have bd:IntKind.u64.wrap (d+1:Nat)=((d+1:Nat):Int):=zv
 have be:IntKind.i64.wrap j=(j:Int):=zu
 have bf:IntKind.i64.wrap ap=(ap:Int):=zu
 have bg:IntKind.i64.wrap (d -j)=((d - j:Nat):Int):=zu
 have bh:min (ap:Int) ((d - j:Nat):Int)=(b:Int):=oM;have bi:(if ((d - j:Nat):Int) < (ap:Int) then ((d - j:Nat):Int) else (ap:Int))=(b:Int):=by split <;> omega
 obtain ⟨a0,bM⟩:=eqx (j+b);have bj:IntKind.i64.wrap (j+b)=(a0:Int):=zu
 have bZ:IntKind.i64.wrap (d -b)=((d - b:Nat):Int):=zu
 have hcut:=kN (P:=prog) 22 5 1 underlying22 Tryz.sizeOf5 S d J j a0 oM oM;rw [show a0 - j=b by omega] at hcut;obtain ⟨y,bx⟩:=eqx (dH S J j 1);obtain ⟨C,cw⟩:=eqx (J - j);rw [bx,cw] at hcut;obtain ⟨a4,d7⟩:=eqx ((G.drop j).take b);have cm:Rd F o 1 y b (a4.map bv):=by have K:=(aI.cut (k:=j) (cap:=J) di cA).cut_hi (k:=b) oM;rw [bx,zBl,zBl] at K;rw [<-d7,zDw,zEb];exact K
 have el:a4.length=b:=by simpa using cm.1
 obtain ⟨a5,aP⟩:∃a5:List Sp, [⟨7,0,0,a4⟩,⟨2,j,b, []⟩,⟨8,0,0, []⟩,⟨6,0,0,a4⟩,⟨5,0,((d - b:Nat):Int), []⟩]=a5:=⟨_,rfl⟩;have cn:a5.length=5:=by rw [<-aP];rfl
 have d8:∀R∈a5,(-9223372036854775808<=R.p/\R.p<=9223372036854775807)/\(-9223372036854775808<=R.k/\R.k<=9223372036854775807)/\R.D.length<=60:=λR bU=>by rw [<-aP] at bU;simp only [zDf,zDh,or_false] at bU;rcases bU with rfl | rfl | rfl | rfl | rfl <;> simp only [zDM] <;> omega
 obtain ⟨c3,cQ⟩:=hqq2 aP cn;have c7:=hcut;have cV:=(And.intro bb (And.intro bc bd));have cW:=(And.intro be (And.intro bf (And.intro bg (And.intro bh bi))));have bn:=(And.intro bj bZ);have cT:=b0;have cU:=b1;clear aP cn hcut bb bc bd be bf bg bh bi bj bZ b0 b1 dh dt dq bx cw bM;go_enter func3,ntmps3;go_wp2_with fail;refine (nM 400 20 F oM oM oM).mono ?_;rintro q w1 ⟨s,d4,dE,rfl,aK,aC⟩;rw [c1.out] at aK aC;go_wp2_with fail
 refine (aHn (B:=o) (own:=dE) (gs:=s) (gl:=d4) (aA:=400) (rate:=20) (t:=[]) (D:=G) (T2:=G) (kind:=1) (p:=0) (n:=0) (A:=S) (m:=d) (code:=0) (num:=0) (data:=[]) (places:=[]) (w:=w1) J 0 0 (by
  have K:=aNh (T:=[]) (p:=0) G 400 0 nL (by have:=b7;simp;omega);simpa using K) (.inl ⟨rfl,by decide,by have:=b7;simp;omega⟩) rfl rfl aK (ArgZ.H (aI.below aC) nL aK.size) oM ((show TabW F from ay).below aC ax) ax (zj b7)).mono ?_
 unfold sE;rintro q W ⟨_,_,_,_,ah,aw,rfl,an,cy,dk,dl⟩;have bF:=aC.trans (cy.below aK.size);have cC:=aI.below bF;have dK:=fR cC;clear cy cC aK aC dk dl;obtain ⟨bb,bc,bd⟩:=cV;obtain ⟨be,bf,bg,bh,bi⟩:=cW;have b0:=cT;have b1:=cU;have df:∀(cM cN:Nat) (a3 c0:Option Addr) (a6 bo:Nat) bm,(Instr.field 29 (.agg #[o0,o0,.slice a3 cM a6,.slice c0 cN bo]) 0).run prog bm=.ok (.int .i64 0) bm:=λ_ _ _ _ _ _ bm=>by kernel_rfl
 go_wp2_with fail;clear dK bb bc bd be bf bg bh bi b0 b1 df ci;have ak:MdX (W.alloc (.cells #[.string ⟨G.toArray⟩,(400:Int)] 35)) W.heap.size 400 G:=kd W 35 #[.string ⟨G.toArray⟩,(400:Int)];have aV:Below W.heap.size W (W.alloc (.cells #[.string ⟨G.toArray⟩,(400:Int)] 35)):=bR.alloc nL _;obtain ⟨v,aX⟩:=eqx W.heap.size;have cj:o<=v:=by rw [<-aX];exact an.size
 have ep:s < v:=by rw [<-aX];exact an.a.lt
 have ab:Ap ah s v:=⟨an.fresh oM,by omega⟩;have ao:=an.G (kb aV);have aD:=bF.trans (aV.mono an.size);generalize W.alloc (.cells #[.string ⟨G.toArray⟩,(400:Int)] 35)=W3 at ak aV ao aD⊢;rw [aX] at ak⊢;obtain ⟨u,bN⟩:∃u:Nat,400=u:=⟨_,rfl⟩;obtain ⟨L,bS⟩:∃L:Nat,20=L:=⟨_,rfl⟩;rw [bN] at ao ak;rw [bS] at ao;have c5:=ab;have bl:=lhd (And.intro bN bS);clear aV ab bN bS aX an bF;refine wp_region_any kR<|xN 23 [61,62,63,64,65,66,67,68,69,70,71,72,73,74,75,76,77,78,79,80,81,82,83] [is (.slice S d J),is (j:Int),is (j:Int),is (b:Int),is (a0:Int),is (.slice y b C),is (.agg #[(7:Int),o0,o0,.slice y b C]),is (j:Int),is (b:Int),is (.agg #[(2:Int),(j:Int),(b:Int),()]),is (.agg #[(8:Int),o0,o0,()]),is (.slice S d J),is (j:Int),is (j:Int),is (b:Int),is (a0:Int),is (.slice y b C),is (.agg #[(6:Int),o0,o0,.slice y b C]),is (.slice S d J),is (d:Int),is (b:Int),is (.int .i64 (d - b:Nat)),is (.agg #[(5:Int),o0,.int .i64 (d - b:Nat),()])] _ _ rfl dC kR kR (by repeat' (first | exact aGg _ |(refine zAe.2 ⟨?_,?_⟩)|(intro ba ds;cases ds))) ?_ ?_
 .refine bB<|pH3 0 (.slice S d J)<|pH3 10 (.int .i64 j)<|pH3 10 (.int .i64 j)<|pH3 11 (.int .i64 b)<|sC3 (λ_ _ _ _ _ _ _ c _ _ _ e=>?_) ?_
  .have dZ:_=_:=c 2 63 kR rfl;have e0:_=_:=c 3 64 kR rfl;have bj:=bn.1;go_simp;exact e _ _ bR rfl
  refine sC3 (λ_ a _ _ _ _ _ c _ _ _ e=>?_) ?_
  .have dX:_=_:=c 0 61 kR rfl;have dY:_=_:=c 1 62 kR rfl;have e1:_=_:=c 4 65 kR rfl;have hcut:=c7 a;go_simp;exact e _ _ bR rfl
  refine pV3 5 66<|pH3 10 (.int .i64 j)<|pH3 11 (.int .i64 b)<|pW3 7 68 8 69<|sC3 (λ_ _ _ _ _ _ _ _ _ _ _ e=>?_) ?_
  .go_simp;exact e _ _ bR rfl
  refine pH3 0 (.slice S d J)<|pH3 10 (.int .i64 j)<|pH3 10 (.int .i64 j)<|pH3 11 (.int .i64 b)<|sC3 (λ_ _ _ _ _ _ _ c _ _ _ e=>?_) ?_
  .have e5:_=_:=c 13 74 kR rfl;have e6:_=_:=c 14 75 kR rfl;have bj:=bn.1;go_simp;exact e _ _ bR rfl
  refine sC3 (λ_ a _ _ _ _ _ c _ _ _ e=>?_) ?_
  .have e3:_=_:=c 11 72 kR rfl;have e4:_=_:=c 12 73 kR rfl;have e7:_=_:=c 15 76 kR rfl;have hcut:=c7 a;go_simp;exact e _ _ bR rfl
  refine pV3 16 77<|pH3 0 (.slice S d J)<|pV3 18 79<|pH3 11 (.int .i64 b)<|sC3 (λ_ _ _ _ _ _ _ c _ _ _ e=>?_) ?_
  .have e8:_=_:=c 19 80 kR rfl;have e9:_=_:=c 20 81 kR rfl;have bZ:=bn.2;go_simp;exact e _ _ bR rfl
  refine pV3 21 82 ?_;exact aB
 .intro E M aa f c;have cd:E (.tmp 67)=.agg #[(7:Int),o0,o0,.slice y b C]:=c 6 67 dC rfl;have ce:E (.tmp 70)=.agg #[(2:Int),(j:Int),(b:Int),()]:=c 9 70 dC rfl;have cf:E (.tmp 71)=.agg #[(8:Int),o0,o0,()]:=c 10 71 dC rfl;have cg:E (.tmp 78)=.agg #[(6:Int),o0,o0,.slice y b C]:=c 17 78 dC rfl;have ch:E (.tmp 83)=.agg #[(5:Int),o0,.int .i64 (d - b:Nat),()]:=c 22 83 dC rfl;simp only [zqq];rw [cd,ce,cf,cg,ch];clear c cd ce cf cg ch;replace f:Below W3.heap.size W3 M:=gD f;change wpAny prog Region.Mode.any _ _ (2+aa) (bT 23 25) _ M;rw [show 2+aa=aa+1+1 by omega];refine aY (i:=23) kR ?_;refine bJ rfl rfl ?_;generalize e:wpAny prog _ _ _ _ _=K5;go_simp;subst e;refine aY (i:=24) kR ?_;refine bJ rfl rfl ?_;generalize e:wpAny prog _ _ _ _ _=K5;go_simp;subst e;refine bG kR ?_;have bL:W3.heap.size<=M.heap.size:=f.size;have ag:=ao.G (kb f);have bA:MdX M v u G:=kf ak f (Bk.lt ak);have aR:=aD.trans (f.mono ao.size);have aE:Below M.heap.size M (M.alloc (.cells #[(7:Int),o0,o0,.slice y b C,(2:Int),(j:Int),(b:Int),(),(8:Int),o0,o0,(),(6:Int),o0,o0,.slice y b C,(5:Int),o0,.int .i64 (d - b:Nat),()] 32)):=bR.alloc nL _;have aW:Bk (M.alloc (.cells #[(7:Int),o0,o0,.slice y b C,(2:Int),(j:Int),(b:Int),(),(8:Int),o0,o0,(),(6:Int),o0,o0,.slice y b C,(5:Int),o0,.int .i64 (d - b:Nat),()] 32)) M.heap.size 32 #[(7:Int),o0,o0,.slice y b C,(2:Int),(j:Int),(b:Int),(),(8:Int),o0,o0,(),(6:Int),o0,o0,.slice y b C,(5:Int),o0,.int .i64 (d - b:Nat),()]:=kd _ _ _;have bD:Ap ah s M.heap.size:=⟨ag.fresh nL,by have:=ag.a.lt;omega⟩;have b4:=ag.G (kb aE);have bC:MdX (M.alloc (.cells #[(7:Int),o0,o0,.slice y b C,(2:Int),(j:Int),(b:Int),(),(8:Int),o0,o0,(),(6:Int),o0,o0,.slice y b C,(5:Int),o0,.int .i64 (d - b:Nat),()] 32)) v u G:=kf bA aE (Bk.lt bA);have aS:=aR.trans (aE.mono ag.size);obtain ⟨I,bL⟩:=eqx M.heap.size;generalize M.alloc (.cells #[(7:Int),o0,o0,.slice y b C,(2:Int),(j:Int),(b:Int),(),(8:Int),o0,o0,(),(6:Int),o0,o0,.slice y b C,(5:Int),o0,.int .i64 (d - b:Nat),()] 32)=W7 at aE aW b4 bC aS⊢;rw [bL] at aW bD⊢;have bX:=aLl (D:=a4) aW bD (cm.below aS) b4.size;rw [c3.out] at bX;clear ag bA aR aE aW bD f bL ao ak aD;go_wp2_with fail;go_loopw [13] (λO wr=>∃(l:Nat) (z:List UInt8) (own:Nat->Nat) (Y:Nat),l<=5/\O=.int .i64 l/\StAt wr o own s Y u L z/\MdX wr v u z/\Ap own s v/\StpZ wr o own s (some ⟨I,0,none⟩) 5 a5/\Below o F wr/\z=TL G j b l) (λO _=>5 -(intOf O).toNat)
  case atStart=>exact ⟨0,G,ah,aw,by omega,rfl,b4,bC,c5,bX,aS,rfl⟩
  case round=>
   clear b4 bC c5 bX aS aw ah W7;obtain ⟨l,z,own,Y,eq,rfl,Q,ae,ab,b9,az,cp⟩:=hrel;have cR:=lhd cp;clear cp;have db:=Q.len;have dn:=bl.1;have b6:=Q.size;by_cases dj:l < 5
   .have ex:=zy ((l:Int) < 5);obtain ⟨dP,ey,bu,cu,ct,cv⟩:=b9.2 oM;injection bu with bu;injection bu with eg eo;subst eg;subst eo;obtain ⟨R,b2⟩:∃R,a5[l]?=some R:=⟨_,zAa (by rw [cQ.out];exact dj)⟩;obtain ⟨a8,a7,ad,bp,bq,br,bs,al⟩:=cv l R b2;obtain ⟨bP,bO,cD⟩:=d8 R (zAd b2);obtain ⟨a1,a2,nd,au⟩:=R;simp only [zBi] at bp bq br bs al bP bO cD;have dm:a7<=60:=(by have:=al.1.1;simp at this;omega);obtain ⟨H,g,Z⟩:∃H g,doM z (u:Int) a1 a2 nd au=(H,g):=⟨_,_,rfl⟩;obtain ⟨aO,cB,bz⟩:=aM8 (u:Int) b7 dr c3 b2;rw [<-cR.out] at aO bz;rw [Z] at bz;have co:H.length<=895:=(by have:=aH6 z au (u:Int) a1 a2 nd;rw [Z] at this;simp only at this;omega);have bQ:g.places.length<=1099511627776:=(by have:=tJ z au (u:Int) a1 a2 nd;rw [Z] at this;simp only at this;omega);have aJ:∀a,FrT wr a o own s->a.heap[I]?=wr.heap[I]?:=λa U=>by rcases ct with q |⟨q,cY,d3,aN⟩;exact U.H _ q;exact U.same _ _ _ _ q (.inl rfl) aN
    have bI:∀a,FrT wr a o own s->a.cell? ⟨I,l*4,none⟩=some (.int .i64 a1)/\a.cell? ⟨I,l*4+1,none⟩=some (.int .i64 a2)/\a.cell? ⟨I,l*4+2,none⟩=some (.int .i64 nd)/\a.cell? ⟨I,l*4+3,none⟩=some (.slice a8 a7 ad):=λa U=>
     ⟨(zDd (aJ a U)).trans bp,(zDd (aJ a U)).trans bq,(zDd (aJ a U)).trans br,(zDd (aJ a U)).trans bs⟩
    have cx:0 < a7->∀aM,a8=some aM->aM.block≠v:=λd5 aM dd q=>by rcases al.2 d5 aM dd with dT |⟨_,cY,d3,aN⟩;omega;rw [q] at aN;have K:=ae;unfold MdX Bk at K;rw [aN] at K;injection K with K;injection K with _ K;revert K;decide
    have am:∀a,StAt a o own s Y u L z->FrT wr a o own s->Below o wr a->Calls prog 7 #[s,.agg #[(a1:Int),(a2:Int),(nd:Int),.slice a8 a7 ad]] a (StDone a o own s u L H g):=λa U bY cX=>
     xF (B:=o) (own:=own) (gs:=s) (gl:=Y) (aA:=u) (rate:=L) (t:=z) (D:=au) (T2:=H) (r:=g) (kind:=a1) (p:=a2) (n:=nd) (A:=a8) (m:=a7) (w:=a) ad Z aO U (al.a7 bY) oM ((show TabW F from ay).below (az.trans cX) ax) ax co
    have af:∀a,MdX a v u z->FrT wr a o own s->Calls prog 9 #[.pointer (some ⟨v,0,none⟩),.agg #[(a1:Int),(a2:Int),(nd:Int),.slice a8 a7 ad]] a λq ar=>fP v (u:Int) H g a ar q:=λa U bY=>
     aMf (gx:=v) (AD:=a8) (nd:=a7) (B:=a.heap.size) (kind:=a1) (p:=a2) (k:=nd) (aA:=(u:Int)) (T:=z) (D:=au) (T2:=H) (r:=g) (w:=a) ad Z (aO.resolve_left λdL=>cB dL.1) U (al.a7 bY).1 nL cx oM oM bP bO oM
    have b3:∀a (y a3 ac aj:Option Addr) (C a6 av a9:Nat),Rd a a.heap.size 1 y g.data.length (g.data.map bv)->Rd a a.heap.size 1 ac g.data.length (g.data.map bv)->Rd a a.heap.size 1 a3 g.places.length (g.places.map nv)->Rd a a.heap.size 1 aj g.places.length (g.places.map nv)->Calls prog 8 #[.agg #[(g.code:Int),(g.num:Int),.slice y g.data.length C,.slice a3 g.places.length a6],.agg #[(g.code:Int),(g.num:Int),.slice ac g.data.length av,.slice aj g.places.length a9]] a λq ar=>q=.returned (.bool true)/\Below a.heap.size a ar:=λa y a3 ac aj C a6 av a9 dz dA dB dD=>
     (yH (A1:=y) (A2:=ac) (A3:=a3) (A4:=aj) (n1:=g.data.length) (n2:=g.data.length) (n3:=g.places.length) (n4:=g.places.length) (X1:=g.data) (X2:=g.data) (L1:=g.places) (L2:=g.places) (w:=a) g.code g.code g.num g.num C av a6 a9 dz dA dB dD nL nL nL nL bQ bQ).mono (by rintro q ar ⟨rfl,K⟩;exact ⟨by simp,K⟩)
    obtain ⟨X,aQ⟩:=eqx wr.heap.size;have cG:v < X:=(by rw [<-aQ];exact Bk.lt ae);have c2:Hid (QdC wr o s v X u own wr):=lhd ⟨kg _ _,b6,zCv aQ.symm,FrT.refl _ _ _ _,z,ae⟩;have c4:Hid (∀O,QdU o s Y v own u L z O wr):=lhd λO=>⟨λ_=>Q,λ_=>ae⟩;have c8:=am;have ca:=b3;have ew:(l:Int) < 5:=oM;have en:I < X:=(by rw [<-aQ];exact cu);clear aO cB Q ae b6 cv cu ct b2 al bp bq br bs cD dm Z bQ bP bO aJ cx am b3 aQ co;go_wp2_with fail;refine wp_region_any kR<|iG 14 [91,92,93,94,95,96,97,98,99,100,101,102,103,104] (QdC wr o s v X u own) (QdS o s v own u L H) (QdU o s Y v own u L z) (Vs [is s,is (.slice (some I) 5 5),is (l:Int),is (.pointer (some ⟨I,l*4,none⟩)),is (.agg #[(a1:Int),(a2:Int),(nd:Int),.slice a8 a7 ad]),QdA o s v X u L (some ⟨I,0,none⟩) 5 a5 H g,is (.pointer (some ⟨v,0,none⟩)),is (.slice (some I) 5 5),is (l:Int),is (.pointer (some ⟨I,l*4,none⟩)),is (.agg #[(a1:Int),(a2:Int),(nd:Int),.slice a8 a7 ad]),PyB v X u H g,is (.bool true),is (.bool false)]) _ _ rfl dC kR kR c2.drew (λO=>(c4 O).drew) (λa0 w1 W _ K l=>K.step l ab cj) ?_ ?_ ?_ ?_
    .intro O a0 w1 W bM aZ cF dv ck l;refine dv.step l ab aZ (λq aa=>?_) (λq aa=>?_) (λq aa=>?_)
     .subst q;subst aa;rw [show upB _ _ _ _ _=true from by kernel_rfl] at cF;cases cF
     omega;omega
    .intro O a0 cO w1 W bM aZ cs N ck l;rcases O with _ | _ | _ | _ | _ | _ | _ | _ | _ | _ | _ | _ | _ | _ | O;exact N;exact N;exact N;exact N;exact N;obtain ⟨dO,dc⟩:=ck.2.2.2.2;by_cases cc:a0=11;exact QdA.keep N (l.2.1 cc).1 cG cj dc;exact QdA.below N (l.2.2.2 (λq=>aZ q.symm) cc oM);exact N;exact N;exact N;exact N;exact N
     .by_cases a9:a0=5
      .subst a9;rw [show aDt _ _ _ _=true from by kernel_rfl] at cs;cases cs
      exact PyB.below N (l.2.2.2 a9 (λq=>aZ q.symm) oM)
     exact N;exact N;exact trivial
    .refine bB<|sC3 (λE _ f x _ _ V _ _ _ _ e=>?_) ?_
     .have e2:E (.tmp 7)=.pointer (some s):=V 7 kR;clear x f;go_simp;exact e _ _ (dS dC dC dC bR) rfl
     refine sC3 (λE _ f x _ _ V _ _ _ _ e=>?_) ?_
     .have d1:E (.tmp 12)=.slice (some I) 5 5:=V 12 kR;clear x f;go_simp;exact e _ _ (dS dC dC dC bR) rfl
     refine sC3 (λE _ f x _ _ V _ _ _ _ e=>?_) ?_
     .have bt:E (.tmp 13)=.int .i64 l:=V 13 kR;clear x f;go_simp;exact e _ _ (dS dC dC dC bR) rfl
     refine sC3 (λ_ _ f x _ _ _ c _ _ _ e=>?_) ?_
     .have ec:_=_:=c 1 92 kR rfl;have ed:_=_:=c 2 93 kR rfl;clear x f;go_simp;exact e _ _ (dS dC dC dC bR) rfl
     refine sC3 (λ_ a f x _ _ _ c _ _ _ e=>?_) ?_
     .have ee:_=_:=c 3 94 kR rfl;obtain ⟨J,C,a6,bo⟩:=bI a f.2.2.2.1;clear x f;go_simp;exact e _ _ (dS dC dC dC bR) rfl
     refine sC3 (λ_ a f x _ _ _ c _ _ _ e=>?_) ?_
     .have eb:_=_:=c 0 91 kR rfl;have ef:_=_:=c 4 95 kR rfl;have am:=c8 a (x.1 rfl) f.2.2.2.1 f.1;have bW:=b9.a7 f.2.2.2.1;have aL:=f.2.2.1;clear x f;go_simp;refine am.mono ?_;intro q ai aF;cases q with
      | returned cO=>
       obtain ⟨bw,Z⟩:=aKP ab (zAl cG aL) aL bW aF;exact e _ _ Z bw
      | _=>obtain ⟨_,_,_,_,_,_,bK,_⟩:=aF;cases bK
     refine sC3 (λE _ f x _ _ V _ _ _ _ e=>?_) ?_
     .have ea:E (.tmp 9)=.pointer (some ⟨v,0,none⟩):=V 9 kR;clear x f;go_simp;exact e _ _ (dS dC dC dC bR) rfl
     refine sC3 (λE _ f x _ _ V _ _ _ _ e=>?_) ?_
     .have d1:E (.tmp 12)=.slice (some I) 5 5:=V 12 kR;clear x f;go_simp;exact e _ _ (dS dC dC dC bR) rfl
     refine sC3 (λE _ f x _ _ V _ _ _ _ e=>?_) ?_
     .have bt:E (.tmp 13)=.int .i64 l:=V 13 kR;clear x f;go_simp;exact e _ _ (dS dC dC dC bR) rfl
     refine sC3 (λ_ _ f x _ _ _ c _ _ _ e=>?_) ?_
     .have ei:_=_:=c 7 98 kR rfl;have ej:_=_:=c 8 99 kR rfl;clear x f;go_simp;exact e _ _ (dS dC dC dC bR) rfl
     refine sC3 (λ_ a f x _ _ _ c _ _ _ e=>?_) ?_
     .have dU:_=_:=c 9 100 kR rfl;obtain ⟨J,C,a6,bo⟩:=bI a f.2.2.2.1;clear x f;go_simp;exact e _ _ (dS dC dC dC bR) rfl
     refine sC3 (λ_ a f x _ _ _ c _ _ _ e=>?_) ?_
     .have eh:_=_:=c 6 97 kR rfl;have dV:_=_:=c 10 101 kR rfl;have am:=af a (x.2 rfl) f.2.2.2.1;have aL:=f.2.2.1;clear x f;go_simp;refine am.mono ?_;intro q ai aF;cases q with
      | returned cO=>
       obtain ⟨bw,Z⟩:=aKO (B:=o) (gs:=s) (rate:=L) (own:=own) aL aF;exact e _ _ Z bw
      | _=>obtain ⟨_,_,_,_,bK,_⟩:=aF;cases bK
     refine sC3 (λE a f x _ _ _ c _ _ _ e=>?_) ?_
     .have dJ:(QdA o s v X u L (some ⟨I,0,none⟩) 5 a5 H g) (E (.tmp 96)) a:=c 5 96 kR rfl;have dF:(PyB v X u H g) (E (.tmp 102)) a:=c 11 102 kR rfl;obtain ⟨ah,aw,ev,dx,bW,y,C,a3,a6,d2,cI,cJ⟩:=dJ;obtain ⟨ac,av,aj,a9,d0,cK,cL,em⟩:=dF;have b3:=ca a y a3 ac aj C a6 av a9 cI.rd cK.1 cJ.rd cL.rd;unfold iD at d2 d0;clear x f cI cJ cK cL dx bW;go_simp;refine b3.mono ?_;rintro q ai ⟨rfl,aT⟩;exact e _ _ (dS dC dC dC aT) rfl
     refine sC3 (λ_ _ f x _ _ _ c _ _ _ e=>?_) ?_
     .have dW:_=_:=c 12 103 kR rfl;clear x f;go_simp;exact e _ _ (dS dC dC dC bR) rfl
     exact aB
    .intro E M aa cl c;have dI:(QdA o s v X u L (some ⟨I,0,none⟩) 5 a5 H g) (E (.tmp 96)) M:=c 5 96 dC rfl;have dG:(PyB v X u H g) (E (.tmp 102)) M:=c 11 102 dC rfl;have bt:E (.tmp 104)=.bool false:=c 13 104 dC rfl;simp only [zqq];rw [bt];clear c;refine bG kR ?_;obtain ⟨ah,aw,ag,de,dy,_⟩:=dI;obtain ⟨_,_,_,_,_,_,_,dp⟩:=dG;have aR:=az.trans cl.1;clear cl c2 c4 b9 bI c8 af ca ab az;go_wp2_with fail;go_roundw
     case rel=>exact ⟨l+1,H,ah,aw,by omega,by go_num,ag,dp,de,dy,aR,bz⟩
     case measure=>exact zr
   .obtain rfl:l=5:=oM;obtain ⟨dN,d9⟩:=eqx z.length;obtain ⟨aq,gk,ek,ez,bV,_⟩:=Q.tp;have da:=Q.n127;have b5:=tP (Bw:=o) (own:=own) (gs:=s) (gl:=Y) (aA:=u) (rate:=L) (t:=z) (rs:=aq) (w:=wr) Q bV;obtain ⟨dQ,bH⟩:=eqx (fC (aH (aG z) aq) aq u L z.length);rw [bH] at b5;have af:=λa=>aFz (t:=z) (n:=z.length) (rate:=L) (rs:=aq) u a rfl da Q.r1 Q.r2 Q.len Q.max bV;rw [bH] at af;rw [<-bl.1,<-bl.2] at af;unfold gJ at b5;clear ab b9 bV bH d9 db dn;go_wp2_with fail;refine b5.mono ?_;clear b5;rintro q ai ⟨dM,dR,rfl,cz,b8⟩;have cr:MdX ai v u z:=b8.1.d ae dC dC;have cZ:ai.cell? ⟨v,0,none⟩=some (.string ⟨z.toArray⟩):=(Bk.cell cr 0).trans rfl;have aT:=az.trans (VB.e b8 b6);have cE:o<=ai.heap.size:=zAk b6 b8.1.size;clear b8 cr az Q ae;go_wp2_with fail;refine (af ai).mono ?_;clear af;rintro q cP ⟨rfl,aU⟩;have c9:=(cz.below aU);have c6:=(aT.trans (aU.mono cE));have du:o<=cP.heap.size:=zAk cE aU.size;have cq:=(show TabW F from ay).below c6 ax;clear aU cz aT cZ;go_wp2_with fail;refine (kC (w:=cP) cq).mono ?_;clear cq;rintro q eB ⟨rfl,bE⟩;have eA:=fR (c9.rd.below bE);have cS:=(c6.trans (bE.mono du));clear bE c9;go_wp2_with fail;go_ret;exact ⟨by first | rfl | simp,by rw [c1.out];exact cS⟩
end Go.Proofs.YtlghmcogeipojaaGreatDoor
