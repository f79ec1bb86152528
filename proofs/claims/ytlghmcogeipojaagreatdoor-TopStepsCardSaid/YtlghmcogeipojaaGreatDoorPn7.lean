/- Lemmas of the walk. Conditions: each its own. -/
import Derived.Test.YtlghmcogeipojaaGreatDoorPn6
set_option linter.all false
set_option maxRecDepth 100000
set_option maxHeartbeats 4000000
open Go.Proofs.Tryz
namespace Go.Proofs.YtlghmcogeipojaaGreatDoor
open Go.RowKit Go.Shelf
def aMl {e gk b:Nat} (lv q:Int) {j d} {c:Nat} {a} (ht:TreeAt a e d) (g:Bk a gk 3 #[(c:Int)]) (m:Bk a b 4 #[j]) (p:c < d.length):
 Calls prog 147 #[.agg #[e,(lv:Int),(q:Int)],gk,b] a λk r=>k=.returned (.tuple #[])/\
  ∃w1,VisK (λf=>f=e) a w1/\Bk w1 b 4 #[j]/\r=w1.setCell b (.bool (d.getD c false)):=by
 have t:a.cell? gk=some (.int .i64 c):=(g.cell 0).trans rfl;have w:=g.lt;have x:=m.lt;obtain ⟨s,l⟩:=eqx (d.getD c false);rw [l];clear g;go_enter func147,ntmps147;go_wp2_with fail;refine (aFl (ht.below (bR.alloc nL _)) p).mono ?_;rintro k w1 ⟨rfl,n⟩;rw [l];have o:VisK (λf=>f=e) a w1:=(kc (bR.alloc nL _)).trans n;have i:=o.1.d m dC dC;have u:w1.cell? b=some j:=(i.cell 0).trans rfl;have v:=i.frozen 0;clear n;go_wp2_with fail;go_end0;exact ⟨rfl,w1,o,i,rfl⟩
def aCF {m l o a C k} {s:Nat->Value} {z Y lv d i τ J g K w0 b} (Q:∀k b,(callFunc m k).run prog b=.ok (.enter m k) b) (G:Bk b l 181 (wcells s z Y)) (U:TreeAt w0 o K) (V:Vis w0 b) (R:w0.heap.size<=a) (E:Bk b a τ #[J]) (M:i l) (N:i a) (P:∀c,Below b.heap.size b c->Calls prog m k c λf j=>f=.returned (.tuple #[])/\∃w1,VisK i c w1/\Bk w1 a τ #[J]/\j=w1.setCell a g) (I:τ≠181:=by first | decide) (O:#[.agg #[o,(lv:Int),(d:Int)]]++C=k:=by simp):
 Calls prog 146 #[l,.agg #[o,(lv:Int),(d:Int)],.func (.func m) #[] C] b λf j=>f=.returned (.tuple #[])/\
  VisF (λe=>e=a) b j/\Keep i b j/\Bk j a τ #[g]:=by
 have u:=(kg b.heap.size b).alloc nL (.cells #[o,(lv:Int),(d:Int)] 184);have Z:=E.lt;refine (vN (S:=s) (n:=z) (q:=λc A B=>VisF (λe=>e=a) b c/\Keep i b c/\Bk c a τ #[g]) Q ((P _ u).mono ?_) O).mono ?_
 rotate_left
 rintro f j ⟨rfl,c,A,B,⟨L,t,D⟩,H,v,r⟩;exact ⟨rfl,VisF.trans L (VisF.C (Vis.bo v H r)),t.trans (v.mono λe _ (f:e=l)=>by rw [f];exact M),v.d D (show a≠l from Bk.ne D H I)⟩;rintro f a0 ⟨rfl,w1,x,T,rfl⟩;have y:=(kb u).trans x.1;obtain ⟨A,X⟩:=y.Q G;have r:=X.m (p:=a) (Bk.ne E G I).symm g;have w:=U.b ((V.trans y).fresh (p:=a) R g);obtain ⟨B,W⟩:=w.a3;refine ⟨rfl,A,B,⟨r,(x.1.d (kd b _ _) dC dC).m (p:=a) (show b.heap.size≠a by omega) g,w.lt,?_,W⟩,VisF.put (F:=λe=>e=a) (VisF.C y) (p:=a) (.inl rfl) _,ka ((kF u).trans x.2) (p:=a) (.inl N) _,T.set 0 g⟩;rintro rfl;obtain ⟨_,t⟩:=w.a;exact absurd (aU t r).1 dC
def aJL {gv gt gk gn:Nat} {S:Nat->Value} {n v:Int} (lv j:Int) {s bs} {k:Nat} {w0 w} (r:Bk w gv 181 (wcells S n v)) (g:TreeAt w0 gt bs) (i:Vis w0 w) (p:w0.heap.size<=gn) (f:Bk w gk 3 #[(k:Int)]) (e:Bk w gn 4 #[s]) (q:k < bs.length):
 Calls prog 146 #[gv,.agg #[gt,(lv:Int),(j:Int)],.func (.func 147) #[] #[gk,gn]] w λb c=>b=.returned (.tuple #[])/\
  VisF (λa=>a=gn) w c/\Keep (λa=>a=gv∨a=gt∨a=gn) w c/\Bk c gn 4 #[.bool (bs.getD k false)]:=
 aCF (mM func147 kR kR) r g i p e (.inl rfl) (.inr (.inr rfl)) λt d=>(aMl lv j ((g.b i).below d) (f.below d f.lt) (e.below d e.lt) q).mono λb c ⟨l,w1,m,o⟩=>⟨l,w1,m.mono λa b=>.inr (.inl b),o⟩
def aFG (d lv:Nat) {p:Nat} (a b) (i:p<=1000):
 Calls prog 150 #[.agg #[d,(lv:Int),(p:Int)],.bool a] b λc e=>c=.returned (.int .i64 (2*p+(if a then 1 else 0):Nat))/\Below b.heap.size b e:=by
 have f:IntKind.i64.wrap (2*p)=2*(p:Int):=zu
 have g:IntKind.i64.wrap (2*p+1)=2*(p:Int)+1:=zu
 go_enter func150,ntmps150;cases a with
 | true=>
  go_wp2_with fail;go_ret;exact ⟨fM zs,bR.alloc nL _⟩
 | false=>
  go_wp2_with fail;go_ret;exact ⟨fM zs,bR.alloc nL _⟩
def eR {B gv L} (j d) {w} (g:WaveAt w B gv L) (W:j < L.length) (aN:L[j]=d) (aF:∀z∈L,z < 257) (bC:L.length<=1000):
 Calls prog 91 #[gv,(j:Int)] w λH bQ=>H=.returned (.tuple #[(d:Int),o0])/\VB B w bQ:=by
 have Z:d < 257:=by rw [<-aN];exact aF _ (zBj W)
 have aE:=nG (L:=L) (k:=j) (s0:=d) (zCm W) aF Z;have b1:=rF (s:=d) Z;have b2:=rH d;have bw:∀lv,(aM L lv (bF d lv))[gO L j d lv]?=some (iF d lv):=λlv=>by have:=aDq (L:=L) (k:=j) lv W;rw [aN] at this;exact this
 obtain ⟨a6,m,a2,x,bH⟩:=g;have cm:=x.lt;have hB:B<=w.heap.size:=oM;have r:=(x.set 10 (.int .i64 0)).alloc (.cells #[(j:Int)] 3);rw [eS] at r;have aS:=VisK.alloc (VB.N x a6 0) (.cells #[(j:Int)] 3);have C:=kd (w.setCell ⟨gv,10,none⟩ (.int .i64 0)) 3 #[(j:Int)];rw [show (w.setCell ⟨gv,10,none⟩ (.int .i64 0)).heap.size=w.heap.size by simp [World.setCell]] at C;obtain ⟨E,bD⟩:=eqx L.length;rw [bD] at x r W bC;have bu:=x.frozen 10;have bU:w.cell? ⟨gv,10,none⟩=some (.int .i64 a2):=(x.cell 10).trans (cK m E a2).2.2.2.2.2.2.2.2.2.2;obtain ⟨q,a7⟩:=eqx ((w.setCell ⟨gv,10,none⟩ (.int .i64 0)).alloc (.cells #[(j:Int)] 3));rw [a7] at r aS C;obtain ⟨ar,au,av,aw,ax,ay,az,aA,aC,aD,bo⟩:=cK m (E:Int) 0;have bV:∀b,(q.drewN b).cell? gv=some (m 0):=λb=>(r.cell 0).trans ar;have bW:∀b,(q.drewN b).cell? ⟨gv,1,none⟩=some (m 1):=λb=>(r.cell 1).trans au;have bX:∀b,(q.drewN b).cell? ⟨gv,2,none⟩=some (m 2):=λb=>(r.cell 2).trans av;have bY:∀b,(q.drewN b).cell? ⟨gv,3,none⟩=some (m 3):=λb=>(r.cell 3).trans aw;have bZ:∀b,(q.drewN b).cell? ⟨gv,4,none⟩=some (m 4):=λb=>(r.cell 4).trans ax;have c0:∀b,(q.drewN b).cell? ⟨gv,5,none⟩=some (m 5):=λb=>(r.cell 5).trans ay;have c1:∀b,(q.drewN b).cell? ⟨gv,6,none⟩=some (m 6):=λb=>(r.cell 6).trans az;have c3:∀b,(q.drewN b).cell? ⟨gv,7,none⟩=some (m 7):=λb=>(r.cell 7).trans aA;have c4:∀b,(q.drewN b).cell? ⟨gv,8,none⟩=some (m 8):=λb=>(r.cell 8).trans aC;have ap:q.cell? ⟨gv,9,none⟩=some (.int .i64 E):=(r.cell 9).trans aD;have aq:q.cell? w.heap.size=some (.int .i64 j):=(C.cell 0).trans rfl;have c5:∀b,(q.drewN b).cell? ⟨gv,9,none⟩=some (.int .i64 E):=λb=>ap;have c7:∀b,(q.drewN b).cell? w.heap.size=some (.int .i64 j):=λb=>aq;have bA:decide ((j:Int) < 0)=false:=zs
 have cl:¬E<=j:=oM;have ao:=C;obtain ⟨b9,bh,bi,ba⟩:=hqq4 aE b1 b2 a7;have an:=x;clear ar au av aw ax ay az aA aC aD bo C aE b1 b2 a7 x;go_enter func91,ntmps91;go_wp2_with fail;rw [ba.out];clear bU bu;go_quiet (fail);clear ap aq bA;go_wp2_with fail;go_loopw [6,30] (λz R wr=>∃lv:Nat,lv<=9/\R=.int .i64 lv/\z=.int .i64 (bF d lv:Nat)/\VB B w wr/\Bk wr w.heap.size 3 #[.int .i64 (gO L j d lv:Nat)]/\w.heap.size < wr.heap.size) (λ_ R _=>9 -(intOf R).toNat)
 case atStart=>exact ⟨0,by omega,rfl,by rw [bh.out];rfl,aS.below (km bR _),by rw [b9.out];exact ao.drewN _,ao.lt⟩
 case round=>
  obtain ⟨lv,cn,rfl,rfl,P,C,cj⟩:=hrel;by_cases X:lv < 9
  .have bz:=ix9 (lv:=lv) m X;obtain ⟨u,O,ag⟩:=bH lv X;obtain ⟨al,ac⟩:=eqx (2 ^ lv);obtain ⟨a,I⟩:=eqx (bF d lv);have aO:a < al:=(by rw [<-ac,<-I];exact nY (s:=d) lv Z oM);rw [ac] at O ag;obtain ⟨a5,c6,aG,co,ci⟩:=kj O oM;rw [aG] at bz O;obtain ⟨z,a0⟩:=eqx (gO L j d lv);obtain ⟨a4,ak⟩:=eqx (gO L j d (lv+1));obtain ⟨o,a8⟩:=eqx (iF d lv);have aj:=nH (lv:=lv) L j d X;have a1:=bw lv;rw [I,a0,a8,ak] at aj;rw [I,a0,a8] at a1;have b0:z < (aM L lv a).length:=(zAc.1 a1).1;have aZ:(aM L lv a).getD z false=o:=(by rw [zAb,a1];rfl);have aP:=rG (lv:=lv) d X;rw [I,a8] at aP;rw [I];rw [a0] at C;have cp:(a:Int) < al:=oM;have Y:=P.1.own O dC dC;obtain ⟨b5,b6,b7⟩:=gF u lv al a aO;have bj:wr.cell? ⟨a5,a*3,none⟩=_:=(kh Y (a*3) oM).trans b5;have bl:wr.cell? ⟨a5,a*3+1,none⟩=_:=(kh Y (a*3+1) oM).trans b6;have bm:wr.cell? ⟨a5,a*3+2,none⟩=_:=(kh Y (a*3+2) oM).trans b7;obtain ⟨bf,be⟩:=hqq2 aj aZ;have T:=(ag a aO);obtain ⟨bb,bg⟩:=hqq2 I ak;clear O ag aG ac I a0 ak aj a1 aZ Y b5 b6 b7;go_wp2_with fail;obtain ⟨M,N⟩:=eqx ((wr.alloc (.cells #[.pointer (some ⟨u a,0,none⟩),(lv:Int),(a:Int)] 184)).alloc (.cells #[false] 4));have K:Below wr.heap.size wr M:=(by rw [<-N];exact (bR.alloc nL _).alloc zs _);have aQ:Bk M wr.heap.size 184 #[.pointer (some ⟨u a,0,none⟩),(lv:Int),(a:Int)]:=(by rw [<-N];exact (kd wr _ _).alloc _);have aJ:Bk M (wr.heap.size+1) 4 #[false]:=(by rw [<-N];have g:=kd (wr.alloc (.cells #[.pointer (some ⟨u a,0,none⟩),(lv:Int),(a:Int)] 184)) 4 #[false];rw [sZ0] at g;exact g);rw [N];have aT:VB B w M:=P.below K;obtain ⟨bN,aX⟩:=aT.1.Q an;have aR:=T.2.b P.1;have a9:=C.below K C.lt;refine (aJL (gv:=gv) (gt:=(u a)) (gk:=w.heap.size) (gn:=(wr.heap.size+1)) (S:=m) (n:=E) (v:=bN) (bs:=(aM L lv a)) (k:=z) (w0:=wr) (w:=M) lv a aX aR (kb K) oM a9 aJ b0).mono ?_;rintro H G ⟨rfl,V,aL,U⟩;rw [be.out] at U;have aa:=V.d a9 dC dC (λg=>absurd (show w.heap.size=wr.heap.size+1 from g) oM);have af:=V.d aQ dC dC (λg=>absurd (show wr.heap.size=wr.heap.size+1 from g) oM)
   have aU:VB B wr G:=⟨VisF.ak (VisF.trans (VisF.C (kb K)) V) (λo x H=>by have:o=wr.heap.size+1:=H;omega),(kF K).trans (aL.mono λo _ H=>by
    rcases H with rfl | rfl | rfl;exact a6;exact T.1
    .omega)⟩
   have aW:=P.trans aU;have ck:=aa.lt;have cr:=af.lt;have ch:=U.lt;obtain ⟨am,ae⟩:=eqx (bF d (lv+1));have ad:=aP;rw [ae] at ad;obtain ⟨bd,bc⟩:=hqq2 ae ad;have bE:a<=1000:=(by have bv:=nY (s:=d) lv Z oM;have cg:2 ^ lv<=2 ^ 9:=zBp dC oM;rw [bb.out] at bv;omega);clear N K aQ aJ aT aX aR a9 V aL aU ae ad bj bl bm;go_wp2_with fail;refine wp_region_any kR<|cC (pre:=(λ_=>True)) (pJ:=(is (am:Int))) B 8 [41,42,43,44,45,46,47,48] (λ_=>False) 7 [] [is gv,is (.agg #[.pointer (some ⟨u a,0,none⟩),(lv:Int),(a:Int)]),is (z:Int),is (.bool o),is (a4:Int),is (.agg #[.pointer (some ⟨u a,0,none⟩),(lv:Int),(a:Int)]),is (.bool o),cO] _ rfl dC kR kR kR (trivial) (λ_ _ _ _ _=>trivial) (jN _ _) tA0 ?_ ?_
   .refine bB<|pH3 0 (.pointer (some gv))<|sC3 (λt e c _ _ _ D _ _ _ _ l=>?_) ?_
    .replace c:VFB B (λ_=>False) G e:=fD c;have bt:t (.tmp 9)=.pointer (some wr.heap.size):=D 9 kR;have J:=c.1.d af dC dC (λg=>g);have b8:e.cell? ⟨wr.heap.size,0,none⟩=some (.pointer (some ⟨u a,0,none⟩)):=(J.cell 0).trans rfl;have bL:e.cell? ⟨wr.heap.size,1,none⟩=some (.int .i64 lv):=(J.cell 1).trans rfl;have bM:e.cell? ⟨wr.heap.size,2,none⟩=some (.int .i64 a):=(J.cell 2).trans rfl;go_simp;exact l _ _ (aI vR) rfl
    refine sC3 (λt e c _ _ _ D _ _ _ _ l=>?_) ?_
    .replace c:VFB B (λ_=>False) G e:=fD c;have c8:t (.tmp 3)=.pointer (some w.heap.size):=D 3 kR;have cs:e.cell? w.heap.size=some (.int .i64 z):=((c.1.d aa dC dC (λg=>g)).cell 0).trans rfl;go_simp;exact l _ _ (aI vR) rfl
    refine sC3 (λt e c _ _ _ D _ _ _ _ l=>?_) ?_
    .replace c:VFB B (λ_=>False) G e:=fD c;have bp:t (.tmp 10)=.pointer (some ⟨wr.heap.size+1,0,none⟩):=D 10 kR;have bn:e.cell? ⟨wr.heap.size+1,0,none⟩=some (.bool o):=((c.1.d U dC dC (λg=>g)).cell 0).trans rfl;go_simp;exact l _ _ (aI vR) rfl
    refine sC3 (λ_ e c _ _ _ _ y _ _ _ l=>?_) ?_
    .replace c:VFB B (λ_=>False) G e:=fD c;have c9:_=_:=y 0 41 kR rfl;have ca:_=_:=y 1 42 kR rfl;have cb:_=_:=y 2 43 kR rfl;have cc:_=_:=y 3 44 kR rfl;go_simp;have Q:=VFB.y c (λo _ g=>g);have aV:=aW.trans Q;obtain ⟨bO,bK⟩:=aV.1.Q an;have bI:=T.2.b aV.1;refine (tN (gv:=gv) (gt:=(u a)) (S:=m) (n:=E) (v:=bO) (bs:=(aM L lv a)) (k:=z) (w:=e) lv a o bK bI (zCm b0)).mono ?_;rintro H bS ⟨rfl,ai⟩;rw [bf.out];exact l _ _ (aI (ai.mono λo x=>by rcases x with rfl | rfl;exact a6;exact T.1)) rfl
    refine sC3 (λt e c _ _ _ D _ _ _ _ l=>?_) ?_
    .replace c:VFB B (λ_=>False) G e:=fD c;have bt:t (.tmp 9)=.pointer (some wr.heap.size):=D 9 kR;have J:=c.1.d af dC dC (λg=>g);have b8:e.cell? ⟨wr.heap.size,0,none⟩=some (.pointer (some ⟨u a,0,none⟩)):=(J.cell 0).trans rfl;have bL:e.cell? ⟨wr.heap.size,1,none⟩=some (.int .i64 lv):=(J.cell 1).trans rfl;have bM:e.cell? ⟨wr.heap.size,2,none⟩=some (.int .i64 a):=(J.cell 2).trans rfl;go_simp;exact l _ _ (aI vR) rfl
    refine sC3 (λt e c _ _ _ D _ _ _ _ l=>?_) ?_
    .replace c:VFB B (λ_=>False) G e:=fD c;have bp:t (.tmp 10)=.pointer (some ⟨wr.heap.size+1,0,none⟩):=D 10 kR;have bn:e.cell? ⟨wr.heap.size+1,0,none⟩=some (.bool o):=((c.1.d U dC dC (λg=>g)).cell 0).trans rfl;go_simp;exact l _ _ (aI vR) rfl
    refine sC3 (λ_ e _ _ _ _ _ y _ _ _ l=>?_) ?_
    .have cd:_=_:=y 5 46 kR rfl;have ce:_=_:=y 6 47 kR rfl;go_simp;refine (aFG (p:=a) (u a) lv o e bE).mono ?_;rintro H bS ⟨rfl,bx⟩;rw [<-bc.out];exact l _ _ (aI (kc bx)) rfl
    exact aB
   .intro t a3 A c y aH;replace c:VFB B (λ_=>False) G a3:=fD c;have bq:t (.tmp 45)=.int .i64 a4:=y 4 45 dC rfl;have br:t (.tmp 48)=.int .i64 am:=y 7 48 dC rfl;obtain ⟨bP,b4⟩:=aH 7 dC;have b3:(is (am:Int)) bP a3:=b4;clear b4 aH;simp only [zqq];rw [bq];rw [br];clear y;have Q:=VFB.y c (λo _ g=>g);have ab:=Q.1.d aa dC dC;have c2:=ab.cell 0;have cf:=ab.frozen 0;have cq:=Q.1.size;clear c b3;change wpAny prog Region.Mode.any _ _ (2+A) (bT 8 10) _ a3;rw [show 2+A=A+1+1 by omega];refine aY (f:=A+1) (i:=8) kR ?_;refine bJ rfl rfl ?_;generalize l:wpAny prog _ _ _ (A+1) _=K5;go_simp;subst l;refine aY (f:=A) (i:=9) kR ?_;refine bJ rfl rfl ?_;generalize l:wpAny prog _ _ _ A _=K5;go_simp;subst l;refine bG kR ?_;have aK:=ab.set 0 (.int .i64 a4);have ah:=aW.trans Q;have ai:VB B w (a3.setCell w.heap.size (.int .i64 a4)):=⟨Vis.fresh ah.1 (p:=w.heap.size) nL _,ka (F:=λo=>B<=o) ah.2 (p:=w.heap.size) (.inl hB) _⟩;clear ah;go_wp2_with fail;go_roundw
    case rel=>exact ⟨lv+1,by omega,by go_num,by rw [bd.out],ai,by rw [bg.out];exact aK,aK.lt⟩
    case measure=>exact zr
  .obtain rfl:lv=9:=oM;rw [bi.out];go_wp2_with fail;go_ret2;exact ⟨rfl,P⟩
def aAT {G f:Nat} {own e} {i l:Nat} {c} (m:WaveE c G own f e) (am:e[i]?=some l) (aS:∀q∈e,q < 257) (c1:e.length<=896):
 Calls prog 151 #[f,(i:Int)] c λn aD=>n=.returned (.tuple #[(l:Int),o0])/\∃aB,WaveE aD G aB f (aK e i)/\(∀a,a < c.heap.size->aB a=own a)/\(∀a,c.heap.size<=a->aB a≠1)/\Keep (λa=>a=f∨16<=own a) c aD:=by
 obtain ⟨a1,an⟩:=zAc.1 am;have aw:l < 257:=by rw [<-an];exact aS _ (zBj a1)
 have aQ:=nG (zCm a1) aS aw;have bg:=rF aw;have bh:=rH l;have bN:∀lv,(aM e lv (bF l lv))[gO e i l lv]?=some (iF l lv):=λlv=>by have:=aDq lv a1;rw [an] at this;exact this
 obtain ⟨o,cR,m⟩:=m;obtain ⟨t,ao⟩:=eqx e.length;rw [ao] at m a1 c1;have b4:(aK e i).length+1=t:=by rw [cJ oM,ao]
 obtain ⟨bE,bD,bB⟩:=m.cells;have bH:=m.a.frozen 10;have bZ:=m.a.lt;have hB:G<=c.heap.size:=zAk m.base.1 (zCm bZ);obtain ⟨bm,J⟩:=m.b ((VisK.alloc (VB.N m.a m.base.1 0) (.cells #[(i:Int)] 3)).1);have bT:f≠c.heap.size:=oM;have W:=kd (c.setCell ⟨f,10,none⟩ (.int .i64 0)) 3 #[(i:Int)];rw [show (c.setCell ⟨f,10,none⟩ (.int .i64 0)).heap.size=c.heap.size by simp [World.setCell]] at W;have b5:Keep (λa=>a=f∨16<=own a) c ((c.setCell ⟨f,10,none⟩ (.int .i64 0)).alloc (.cells #[(i:Int)] 3)):=(ka (F:=λa=>a=f∨16<=own a) (ke _ _) (p:=⟨f,10,none⟩) (.inl (.inl rfl)) _).alloc _;obtain ⟨r,ag⟩:=eqx ((c.setCell ⟨f,10,none⟩ (.int .i64 0)).alloc (.cells #[(i:Int)] 3));rw [ag] at J W b5;obtain ⟨u,aG,bC⟩:=J.cells;have ci:∀d,(r.drewN d).cell? f=some (o 0):=λd=>u 0 oM;have C:∀d,(r.drewN d).cell? ⟨f,1,none⟩=some (o 1):=λd=>u 1 oM;have ac:∀d,(r.drewN d).cell? ⟨f,2,none⟩=some (o 2):=λd=>u 2 oM;have cj:∀d,(r.drewN d).cell? ⟨f,3,none⟩=some (o 3):=λd=>u 3 oM;have ck:∀d,(r.drewN d).cell? ⟨f,4,none⟩=some (o 4):=λd=>u 4 oM;have cl:∀d,(r.drewN d).cell? ⟨f,5,none⟩=some (o 5):=λd=>u 5 oM;have cm:∀d,(r.drewN d).cell? ⟨f,6,none⟩=some (o 6):=λd=>u 6 oM;have cn:∀d,(r.drewN d).cell? ⟨f,7,none⟩=some (o 7):=λd=>u 7 oM;have co:∀d,(r.drewN d).cell? ⟨f,8,none⟩=some (o 8):=λd=>u 8 oM;have aH:r.cell? ⟨f,9,none⟩=some (.int .i64 t):=aG;have aI:r.cell? c.heap.size=some (.int .i64 i):=(W.cell 0).trans rfl;have bW:decide ((i:Int) < 0)=false:=zs
 have cH:¬t<=i:=oM;have cx:=J.a.lt;have cw:=W.lt;have aE:=J;obtain ⟨bo,bs,bq⟩:=hqq3 aQ b4 ag;have ch:=m.base;have aY:=m.q;obtain ⟨bx,bz⟩:=hqq2 bg bh;have cp:∀d,(r.drewN d).cell? ⟨f,9,none⟩=some (.int .i64 t):=λd=>aH;have cq:∀d,(r.drewN d).cell? c.heap.size=some (.int .i64 i):=λd=>aI;clear m J aQ b4 ag bE u aG bC bg bh an;go_enter func151,ntmps151;go_wp2_with fail;rw [bq.out];clear bB bH bD;go_quiet (fail);clear aH aI bW;go_wp2_with fail;go_loopw [6,31] (λcg ay wr=>∃(lv:Nat) (j:Nat->Nat) (O:Int),lv<=9/\ay=.int .i64 lv/\cg=.int .i64 (bF l lv:Nat)/\WaveS wr G j f o (λs=>if s < lv then aK e i else e) (t:Int) O/\Bk wr c.heap.size 3 #[.int .i64 (gO e i l lv:Nat)]/\(∀a,a < c.heap.size->j a=own a)/\(∀a,c.heap.size<=a->j a≠1)/\j c.heap.size=0/\Keep (λa=>a=f∨16<=own a) c wr) (λ_ ay _=>9 -(intOf ay).toNat)
 case atStart=>refine ⟨0,own,bm,by omega,rfl,by rw [bx.out];rfl,?_,?_,λ_ _=>rfl,λa x n=>?_,?_,?_⟩;obtain ⟨bn,aO⟩:=aE.b (kb (km bR _));have:bn=bm:=(by have aa:=aO.cells.2.2;have ab:=aE.cells.2.2;have P:=ab.symm.trans aa;injection P with P;injection P with _ P;exact P.symm);subst this;simpa using aO;rw [bo.out];exact W.drewN _;have:=(aY a oM).2;omega;rcases zBa (own c.heap.size) with n | n;exact n;have:=(aY c.heap.size oM).2;omega;exact b5.drewN _
 case round=>
  obtain ⟨lv,j,O,cI,rfl,rfl,v,L,aq,b8,ar,a3⟩:=hrel;by_cases M:lv < 9
  .have bV:=ix9 o M;obtain ⟨w,D,c2,ax⟩:=v.rows lv M;obtain ⟨az,a4⟩:=eqx (2 ^ lv);obtain ⟨b,E⟩:=eqx (bF l lv);have au:b < az:=(by rw [<-a4,<-E];exact nY lv aw oM);have b9:b < 2 ^ lv:=(by rw [a4];exact au);have bL:=D;rw [a4] at D ax;obtain ⟨ae,ad,aT,cK,cG⟩:=kj D oM;rw [aT] at bV D;obtain ⟨q,Y⟩:=eqx (gO e i l lv);obtain ⟨k,z⟩:=eqx (gO e i l (lv+1));obtain ⟨a,ai⟩:=eqx (iF l lv);have bf:=nH e i l M;have a6:=bN lv;have aV:=aHe lv am;have aX:=λd=>aBE lv d am;have a5:=rG l M;rw [E,Y,ai,z] at bf;rw [E,Y,ai] at a6;rw [E,Y] at aV;rw [E] at aX;rw [E,ai] at a5;have a7:q < (aM e lv b).length:=(zAc.1 a6).1;have be:(aM e lv b).getD q false=a:=(by rw [zAb,a6];rfl);rw [Y] at L;rw [E];obtain ⟨c7,av⟩:=eqx (bF l (lv+1));rw [av] at a5;have c3:b<=1000:=(zj (aN7 M b9));have bd:TreeE wr (λa=>j a=TC lv b) (w b) (aM e lv b):=(by have:=ax b au;rw [zBw oM] at this;exact this);have cN:(b:Int) < az:=oM;obtain ⟨bv,bt,bu,bw,a8,aF⟩:=hqq6 be a5 av z aq ar;clear ax aT a4 Y z a6 be a5 av aq ar c2;obtain ⟨bi,bj,bl⟩:=gF w lv az b au;have bA:wr.cell? ⟨ae,b*3,none⟩=_:=(kh D (b*3) oM).trans bi;have aa:wr.cell? ⟨ae,b*3+1,none⟩=_:=(kh D (b*3+1) oM).trans bj;have ab:wr.cell? ⟨ae,b*3+2,none⟩=_:=(kh D (b*3+2) oM).trans bl;have c6:wr.cell? c.heap.size=some (.int .i64 q):=(L.cell 0).trans rfl;have cF:=L.lt;clear bi bj bl;go_wp2_with fail;obtain ⟨a9,R⟩:=eqx ((wr.alloc (.cells #[.pointer (some ⟨w b,0,none⟩),(lv:Int),(b:Int)] 184)).alloc (.cells #[false] 4));have K:Below wr.heap.size wr a9:=(by rw [<-R];exact (bR.alloc nL _).alloc zs _);have bP:Bk a9 wr.heap.size 184 #[.pointer (some ⟨w b,0,none⟩),(lv:Int),(b:Int)]:=(by rw [<-R];exact (kd wr _ _).alloc _);have bO:Bk a9 (wr.heap.size+1) 4 #[false]:=(by rw [<-R];have m:=kd (wr.alloc (.cells #[.pointer (some ⟨w b,0,none⟩),(lv:Int),(b:Int)] 184)) 4 #[false];rw [sZ0] at m;exact m);rw [R];clear R bA aa ab c6;obtain ⟨cS,aN⟩:=v.b (kb K);have bS:=L.below K L.lt;have bb:=bd.below K;have b3:=v.base.2;have aZ:=v.q;have cP:=K.size;have bU:=v.a.lt;have br:=lhd b3;clear b3;refine (tN lv b true aN.a bb.at (zCm a7)).mono ?_;rintro n I ⟨rfl,y⟩;obtain ⟨N,ap⟩:=eqx (((aM e lv b).take q).count true);have b7:(if a then N else q - N)=k:=(by have J:=tL ((aM e lv b).take q);have bJ:((aM e lv b).take q).length=q:=(by rw [zAj];have:=a7;omega);have bK:=bf;cases a;simp;omega;simp;omega);have cL:N<=q:=(by rw [<-ap];exact zAk zBv (by rw [zAj];omega));rw [ap];obtain ⟨cT,af⟩:=aN.b y.1;have c5:=bb.b y.1;have al:=y.1.d bS dC dC;have T:=y.1.d bP dC dC;have ah:=y.1.d bO dC dC;have cQ:=y.1.size;have c9:I.cell? ⟨wr.heap.size,0,none⟩=some (.pointer (some ⟨w b,0,none⟩)):=(T.cell 0).trans rfl;have ca:I.cell? ⟨wr.heap.size,1,none⟩=some (.int .i64 lv):=(T.cell 1).trans rfl;have cb:I.cell? ⟨wr.heap.size,2,none⟩=some (.int .i64 b):=(T.cell 2).trans rfl;have cB:=T.lt;have cz:=ah.lt;have cE:=al.lt;have c0:∀(aJ:Fn) (first ad:Array Value) (c:World),(Instr.makeFunc aJ first ad).run prog c=.ok (.func aJ first ad) c:=λ_ _ _ _=>rfl;clear ap;go_wp2_with fail;have aA:∀k,wr.heap.size<=k->¬(j k=TC lv b):=λk z g=>by have:=(aZ k (by rw [g];unfold TC;omega)).2;omega
   refine (aJM lv b af.a c5 (λg=>by rw [br.out] at g;unfold TC at g;omega) (aA _ oM) (λk z=>(af.q k (by rw [z];unfold TC;omega)).2) al ah (λk z n=>aA k oM z) a7).mono ?_;rintro n B ⟨rfl,bc,a2,V,bn,aW⟩;rw [bv.out] at V
   have b0:=af.K (lv:=lv) (p:=b) (gx:=wr.heap.size+1) M b9 (aC (aP bL K) λa bG _ ak=>y.1.d ak dC dC) (by
    rcases zBa (j (wr.heap.size+1)) with n | n;omega
    .have:=(aZ _ (by omega:j (wr.heap.size+1)≠0)).2;omega) (λbG ak=>absurd (aU ak ah).1 dC) bc a2 aW (L':=aK e i) aV (λd c4=>by rw [zBw (zCl _)];exact aX d (λn=>c4 n.symm))
   have b1:(λs=>if s=lv then aK e i else if s < lv then aK e i else e)=λs=>if s < lv+1 then aK e i else e:=by
    funext s;by_cases C:s=lv
    .rw [zBx C,zBx oM]
    .by_cases ac:s < lv
     .rw [zBw C,zBx ac,zBx oM]
     .rw [zBw C,zBw ac,zBw oM]
   rw [b1] at b0
   have b2:=a2.d al (λg=>by
    rcases g with g | g | g;have a0:j c.heap.size=TC lv b:=g;rw [aF.out] at a0;unfold TC at a0;omega;exact bT g.symm
    .omega)
   have U:=a2.d T (λg=>by
    rcases g with g | g | g;exact aA _ nL g;omega
    .omega)
   have cc:B.cell? ⟨wr.heap.size,0,none⟩=some (.pointer (some ⟨w b,0,none⟩)):=(U.cell 0).trans rfl;have cd:B.cell? ⟨wr.heap.size,1,none⟩=some (.int .i64 lv):=(U.cell 1).trans rfl;have ce:B.cell? ⟨wr.heap.size,2,none⟩=some (.int .i64 b):=(U.cell 2).trans rfl;have cf:B.cell? ⟨wr.heap.size+1,0,none⟩=some (.bool a):=(V.cell 0).trans rfl;have cC:=U.lt;have cA:=V.lt;have aR:j (w b)=TC lv b:=bd.W;have bp:=lhd aR;clear bc aW b1 U c9 ca cb c0 aR;go_wp2_with fail;refine (aFG (w b) lv a B c3).mono ?_;rintro n A ⟨rfl,S⟩;rw [<-bt.out];obtain ⟨c8,aL⟩:=b0.b (kb S);have X:=b2.below S b2.lt;have aj:=V.below S V.lt;have cV:A.cell? ⟨wr.heap.size+1,0,none⟩=some (.bool a):=(aj.cell 0).trans rfl;have cW:A.cell? c.heap.size=some (.int .i64 q):=(X.cell 0).trans rfl;have cu:=X.frozen 0;have cD:=X.lt;have cy:=aj.lt;have bQ:=X.set 0 (.int .i64 k);have ba:eD j I.heap.size B.heap.size (TC lv b) c.heap.size=0:=(by unfold eD;rw [zBx oM];exact aF);have bI:=aL.m (w':=A.setCell c.heap.size (.int .i64 k)) (H:=λa=>a=c.heap.size) (ka (F:=λa=>a=c.heap.size) (ke _ _) (p:=c.heap.size) (.inl rfl) _) (λa n=>by rw [show a=c.heap.size from n,ba];omega);have cO:=a3.size
   have bX:Keep (λa=>a=f∨16<=own a) c (A.setCell c.heap.size (.int .i64 k)):=ka (F:=λa=>a=f∨16<=own a) ((((a3.trans (kF K)).trans' y.2 (λa x g=>by
    rcases g with g | g;exact .inl g
    .right;rw [<-a8 a x,g,bp.out];unfold TC;omega)).trans' a2 (λa x g=>by
    rcases g with g | g | g;right;have a0:j a=TC lv b:=g;rw [<-a8 a x,a0];unfold TC;omega;exact .inl g
    .omega)).trans (kF S)) (p:=c.heap.size) (.inr nL) _
   clear S aL X aj cc cd ce cf
   have hrel:∃(Z:Nat) (j:Nat->Nat) (O:Int),Z<=9/\Value.int .i64 (lv+1:Nat)=.int .i64 Z/\Value.int .i64 c7=.int .i64 (bF l Z:Nat)/\WaveS (A.setCell c.heap.size (.int .i64 k)) G j f o (λs=>if s < Z then aK e i else e) (t:Int) O/\Bk (A.setCell c.heap.size (.int .i64 k)) c.heap.size 3 #[.int .i64 (gO e i l Z:Nat)]/\(∀a,a < c.heap.size->j a=own a)/\(∀a,c.heap.size<=a->j a≠1)/\j c.heap.size=0/\Keep (λa=>a=f∨16<=own a) c (A.setCell c.heap.size (.int .i64 k)):=by
    refine ⟨lv+1,eD j I.heap.size B.heap.size (TC lv b),c8,by omega,rfl,by rw [bu.out],bI,?_,λa x=>?_,λa x=>?_,ba,bX⟩;rw [bw.out];exact bQ;unfold eD;rw [zBx oM];exact a8 a x
    .unfold eD;by_cases C:a < I.heap.size;rw [zBx C];exact b8 a x
     .rw [zBw C];unfold TC;split <;> omega
   cases a with
   | true=>
    obtain rfl:N=k:=(by have:=b7;simpa using this);go_wp2_with fail;go_roundw
    case rel=>exact hrel
    case measure=>exact zr
   | false=>
    have cM:q - N=k:=(by have:=b7;simpa using this);have cs:IntKind.i64.wrap (q -N)=(k:Int):=(by have bJ:=a7;have bK:(aM e lv b).length<=e.length:=(by rw [iX];exact zBh);have cv:=ao;rw [wI0];omega);go_wp2_with fail;go_roundw
    case rel=>exact hrel
    case measure=>exact zr
  .obtain rfl:lv=9:=oM;have Q:WaveS wr G j f o (λ_=>aK e i) (t:Int) O:=⟨v.a,v.base,λs b6=>by have:=v.rows s b6;simpa [b6] using this,v.q⟩;obtain ⟨_,cU,_⟩:=Q.cells;have ct:=Q.a.frozen 9;have bU:=Q.a.lt;have bM:=Q.b8 ((t:Int) - 1);have cr:IntKind.i64.wrap (t - 1)=(t:Int) - 1:=zu;have bY:Keep (λa=>a=f∨16<=own a) c (wr.setCell ⟨f,9,none⟩ (.int .i64 ((t:Int) - 1))):=ka (F:=λa=>a=f∨16<=own a) a3 (p:=⟨f,9,none⟩) (.inl (.inl rfl)) _;rw [bz.out];clear v Q a3 L ar;go_wp2_with fail;go_ret2;refine ⟨rfl,j,⟨o,O,?_⟩,aq,b8,bY⟩;rw [show (((aK e i).length:Nat):Int)=(t:Int) - 1 by have:=bs.out;omega];exact bM
def mA {C} {k:Nat} (c:Nat) (o:k < C.length):(bU C).set (k*2) (.int .i64 c)=bU (C.set k (c,aS C k)):=by
 apply zDs;intro a;have p:=dO C;have m:=dO (C.set k (c,aS C k));rw [zAt] at m;rw [zBm];by_cases n:a < C.length*2
 .have d:a / 2 < C.length:=oM;obtain ⟨i,j⟩:=cL C (a / 2) d;obtain ⟨f,g⟩:=cL (C.set k (c,aS C k)) (a / 2) (by rw [zAt];exact d);have er:aF (C.set k (c,aS C k)) (a / 2)=if k=a / 2 then c else aF C (a / 2):=by
   unfold aF;rw [zAb,zBm,zAb];by_cases b:k=a / 2
   .simp [b,d]
   .simp [b]
  have l:aS (C.set k (c,aS C k)) (a / 2)=aS C (a / 2):=by
   unfold aS;rw [zAb,zBm,zAb,zAb];by_cases b:k=a / 2
   .subst b;simp [d]
   .simp [b]
  rw [er] at f;rw [l] at g;by_cases q:a % 2=0
  .have e:a / 2*2=a:=oM;rw [e] at i f;rw [f];by_cases b:k*2=a
   .rw [zBx b,zBx oM,zBx oM]
   .rw [zBw b,i,zBw oM]
  .have e:a / 2*2+1=a:=oM;rw [e] at j g;rw [g,zBw oM,j]
 .rw [zBw oM,zBg oM,zBg oM]
def pR (a) (c e:Nat) (p:c < a.length):(bU a).set (c*2+1) (.int .i64 e)=bU (a.set c (aF a c,e)):=by
 apply zDs;intro b;have q:=dO a;have n:=dO (a.set c (aF a c,e));rw [zAt] at n;rw [zBm];by_cases o:b < a.length*2
 .have f:b / 2 < a.length:=oM;obtain ⟨k,l⟩:=cL a (b / 2) f;obtain ⟨i,j⟩:=cL (a.set c (aF a c,e)) (b / 2) (by rw [zAt];exact f);have er:aF (a.set c (aF a c,e)) (b / 2)=aF a (b / 2):=by
   unfold aF;rw [zAb,zBm,zAb,zAb];by_cases d:c=b / 2
   .subst d;simp [f]
   .simp [d]
  have m:aS (a.set c (aF a c,e)) (b / 2)=if c=b / 2 then e else aS a (b / 2):=by
   unfold aS;rw [zAb,zBm,zAb];by_cases d:c=b / 2
   .simp [d,f]
   .simp [d]
  rw [er] at i;rw [m] at j;by_cases r:b % 2=0
  .have g:b / 2*2=b:=oM;rw [g] at k i;rw [i,zBw oM,k]
  .have g:b / 2*2+1=b:=oM;rw [g] at l j;rw [j];by_cases d:c*2+1=b
   .rw [zBx d,zBx oM,zBx oM]
   .rw [zBw d,l,zBw oM]
 .rw [zBw oM,zBg oM,zBg oM]
def dU {a} (b:-9223372036854775808<=a) (c:a<=9223372036854775807):wrap64 a=a:=by unfold wrap64;omega
def uI {g i:World} {a d e:Nat} {b:TypeId} {f:Value} {j:List Value} (k:g.ownsRow a b e f d j) (l:i.heap=g.heap):i.ownsRow a b e f d j:=aC k λm n _ c=>by unfold Bk at c⊢;rw [l];exact c
def mW {a:List (Nat×Nat)} {b:Nat} (d:b < a.length):a.set b (aF a b,aS a b)=a:=by
 have c:(aF a b,aS a b)=a[b]:=by unfold aF aS;rw [zAb,zAa d];rfl
 rw [c,List.set_getElem_self]
def mvR (a c b:Nat):Nat:=if b=a then c else inR (bN b a) c
def aHs {t e g u m d:Nat} (a:Nat) {b i} (f:i.ownsRow t 121 2 (.slice (some e) g u) g (bU b)) (j:a < b.length) (s:Bk i m 3 #[(d:Int)]) (E:aF b a<=1000000000000):
 Calls prog 163 #[.pointer (some ⟨e,a*2,none⟩),m] i λC z=>C=.returned (.tuple #[])/\z.ownsRow t 121 2 (.slice (some e) g u) g (bU (b.set a (inR (aF b a) d,aS b a)))/\Keep (λk=>k=e) i z:=by
 obtain ⟨x,y⟩:=cL b a j;have G:b.length=g:=by have D:=f.1;rw [dO] at D;omega
 have A:=(kh f (a*2) oM).trans x;have B:=(kh f (a*2+1) oM).trans y;have Q:i.cell? m=some (.int .i64 d):=(s.cell 0).trans rfl;obtain ⟨K,n⟩:=fE f;have M:=n.frozen (a*2);have N:=n.lt;have O:=s.lt;have r:=mW j;have w:=λI=>mA I j;obtain ⟨c,q⟩:=eqx (aF b a);obtain ⟨H,o⟩:=eqx (aS b a);rw [q] at A r E;rw [o] at B r w;rw [q,o];clear j s x y n G q o;by_cases P:d<=c
 .have J:=zy ((c:Int)>=d);have L:wrap64 (c+1)=((c+1:Nat):Int):=(by unfold wrap64;omega);have v:=(kk f (a*2) (.int .i64 (c+1:Nat))).1;rw [w] at v;go_enter func163,ntmps163;go_wp2_with fail;go_quiet (fail);go_wp2_with fail;go_end0;refine ⟨rfl,?_,ka (F:=λk=>k=e) ((ke _ _).drewN _) (p:=⟨e,a*2,none⟩) (.inl rfl) _⟩;have l:inR (c) d=c+1:=(by unfold inR;rw [zBx oM]);rw [l];exact v
 .have J:=zn ((c:Int)>=d);go_enter func163,ntmps163;go_wp2_with fail;go_quiet (fail);go_wp2_with fail;go_end0;refine ⟨rfl,?_,(ke _ _).drewN _⟩;have l:inR (c) d=c:=(by unfold inR;rw [zBw oM]);rw [l,r];exact f
def aHv {t e g u m d:Nat} (a:Nat) {b i} (f:i.ownsRow t 121 2 (.slice (some e) g u) g (bU b)) (j:a < b.length) (s:Bk i m 3 #[(d:Int)]) (E:aS b a<=1000000000000):
 Calls prog 164 #[.pointer (some ⟨e,a*2,none⟩),m] i λC z=>C=.returned (.tuple #[])/\z.ownsRow t 121 2 (.slice (some e) g u) g (bU (b.set a (aF b a,inR (aS b a) d)))/\Keep (λk=>k=e) i z:=by
 obtain ⟨x,y⟩:=cL b a j;have G:b.length=g:=by have D:=f.1;rw [dO] at D;omega
 have A:=(kh f (a*2) oM).trans x;have B:=(kh f (a*2+1) oM).trans y;have Q:i.cell? m=some (.int .i64 d):=(s.cell 0).trans rfl;obtain ⟨J,n⟩:=fE f;have L:=n.frozen (a*2+1);have M:=n.lt;have N:=s.lt;have r:=mW j;have w:=λH=>pR b a H j;obtain ⟨P,q⟩:=eqx (aF b a);obtain ⟨c,o⟩:=eqx (aS b a);rw [q] at A r w;rw [o] at B r E;rw [q,o];clear j s x y n G q o;by_cases O:d<=c
 .have I:=zy ((c:Int)>=d);have K:wrap64 (c+1)=((c+1:Nat):Int):=(by unfold wrap64;omega);have v:=(kk f (a*2+1) (.int .i64 (c+1:Nat))).1;rw [w] at v;go_enter func164,ntmps164;go_wp2_with fail;go_quiet (fail);go_wp2_with fail;go_end0;refine ⟨rfl,?_,ka (F:=λk=>k=e) ((ke _ _).drewN _) (p:=⟨e,a*2+1,none⟩) (.inl rfl) _⟩;have l:inR (c) d=c+1:=(by unfold inR;rw [zBx oM]);rw [l];exact v
 .have I:=zn ((c:Int)>=d);go_enter func164,ntmps164;go_wp2_with fail;go_quiet (fail);go_wp2_with fail;go_end0;refine ⟨rfl,?_,(ke _ _).drewN _⟩;have l:inR (c) d=c:=(by unfold inR;rw [zBw oM]);rw [l,r];exact f
def qV {s r C S a5} (q:Nat->Nat->Nat×Nat) {l N O M z y d f L B m} (T:PermAt m s r C l N O M z y d f L B) (H:d.Nodup) (ax:d.length<=1000000) (ao:∀a,a∈d->aF f a<=1000000000000/\aS f a<=1000000000000) (aB:∀a4 m,(callFunc S a4).run prog m=.ok (.enter S a4) m) (au:∀(o u J a:Nat) (t:List (Nat×Nat)) (wr:World),Keep (λc=>l.ownBlock=some c) m wr->wr.ownsRow s 121 2 (.slice (some o) u J) u (bU t)->a < t.length->aF t a<=1000000000000/\aS t a<=1000000000000->
 Calls prog S (#[.pointer (some ⟨o,a*2,none⟩)]++a5) wr λj P=>j=.returned (.tuple #[])/\P.ownsRow s 121 2 (.slice (some o) u J) u (bU (t.set a (q (aF t a) (aS t a))))/\Keep (λc=>c=o) wr P):
 Calls prog 154 #[r,.func (.func S) #[] a5] m λj P=>j=.returned (.tuple #[])/\Keep (λc=>l.ownBlock=some c) m P/\∃Q,Q.length=f.length/\(∀a,a∈d->(aF Q a,aS Q a)=q (aF f a) (aS f a))/\PermAt P s r C l N O M z y d Q L B:=by
 obtain ⟨af,aj,ae,_,_⟩:=aZ T.t;have ak:m.cell? ⟨r,2,none⟩=some (.slice af d.length aj):=(T.a.cell 2).trans (by rw [ae];rfl);have aG:=T.a.lt;obtain ⟨K,V⟩:=eqx d.length;rw [V] at ak ax;have ah:=H;clear H;go_enter func154,ntmps154;go_wp2_with fail;go_loopw [11] (λa2 wr=>∃(g:Nat) (b:List (Nat×Nat)),g<=K/\a2=.int .i64 g/\b.length=f.length/\(∀a,a∈d.take g->(aF b a,aS b a)=q (aF f a) (aS f a))/\(∀a,a∈d.drop g->(aF b a,aS b a)=(aF f a,aS f a))/\PermAt wr s r C l N O M z y d b L B/\Keep (λc=>l.ownBlock=some c) m wr) (λa2 _=>K -(intOf a2).toNat)
 case atStart=>exact ⟨0,f,zAp _,rfl,rfl,λa p=>by simp at p,λa _=>rfl,T,ke _ _⟩
 case round=>
  obtain ⟨g,b,aI,rfl,ac,a8,Y,e,p⟩:=hrel;by_cases ad:g < K
  .have E:g < d.length:=(by rw [V];exact ad);obtain ⟨a,F⟩:∃a,d[g]?=some a:=⟨_,zAa E⟩;have a1:=zAd F;have a0:a < b.length:=e.lt a a1;have W:=e.t;rw [ae] at W;obtain ⟨an,aL,am,_,aE⟩:=kj W oM;injection am with e2a _ e2c;subst e2a e2c;have G:=e.u;obtain ⟨o,J,R,_,aD⟩:=kj G oM;rw [R] at G;have al:wr.cell? ⟨an,g,none⟩=some (.int .i64 a):=(kh W g oM).trans (by rw [zAf,F];rfl);have a6:wr.cell? ⟨r,1,none⟩=some (.slice (some o) b.length J):=(e.a.cell 1).trans (by rw [R];rfl);have aH:=e.a.lt;have aK:=p.size;have aa:a∈d.drop g:=(by rw [zAx E,List.getElem_eq_getElem?_get];simp [F]);have ap:(aF b a,aS b a)=(aF f a,aS f a):=Y a aa;injection ap with hCr hCp;have az:=λ(c:Nat) (j:Value.ownBlock l=some c)=>(World.ownsRow.lt e.u c j).2;obtain ⟨u,D⟩:=eqx b.length;rw [D] at G a6 a0;have aq:aF b a<=1000000000000/\aS b a<=1000000000000:=(by rw [hCr,hCp];exact ao a a1);have aJ:(a:Int) < u:=oM;have ai:=e;clear e a1 aa W az;go_wp2_with fail;refine (au o u J a b wr p G (by rw [D];exact a0) aq).mono ?_;rintro j w1 ⟨rfl,ab,w⟩
   have a7:PermAt w1 s r C l N O M z y d (b.set a (q (aF b a) (aS b a))) L B:=by
    have e:=ai;have I:∀c a3 A,a3≠121->Bk wr c a3 A->c≠o:=λc a3 A ht n j=>by subst j;obtain ⟨aA,av⟩:=fE G;exact ht (aU n av).1
    refine ⟨w.d e.a (I _ _ _ dC e.a),?_,aC e.t λc A _ n=>w.d n (I _ _ _ dC n),w.d e.V (I _ _ _ dC e.V),aC e.F λc A _ n=>w.d n (I _ _ _ dC n),aC e.M λc A _ n=>w.d n (I _ _ _ dC n),e.apart,λi k=>by rw [zAt];exact e.lt i k,e.lo⟩;rw [zAt,D,R,D];exact ab
   have a9:Keep (λc=>l.ownBlock=some c) m w1:=p.trans (w.mono λc _ j=>by rw [R,show c=o from j];rfl)
   have Z:∀i,(aF (b.set a (q (aF b a) (aS b a))) i,aS (b.set a (q (aF b a) (aS b a))) i)=if i=a then q (aF b a) (aS b a) else (aF b i,aS b i):=λi=>by
    unfold aF aS;rw [zAb,zBm];by_cases v:a=i;subst v;rw [zBx rfl,zBx rfl,zBx (by rw [D];exact a0)];rfl
    .rw [zBw v,zBw (λj=>v j.symm),zAb]
   have hrel:∃(X:Nat) (x:List (Nat×Nat)),X<=K/\Value.int .i64 (g+1:Nat)=.int .i64 X/\x.length=f.length/\(∀a,a∈d.take X->(aF x a,aS x a)=q (aF f a) (aS f a))/\(∀a,a∈d.drop X->(aF x a,aS x a)=(aF f a,aS f a))/\PermAt w1 s r C l N O M z y d x L B/\Keep (λc=>l.ownBlock=some c) m w1:=by
    refine ⟨g+1,_,by omega,rfl,by rw [zAt];exact ac,λi k=>?_,λi k=>?_,a7,a9⟩
    .rw [Z];by_cases v:i=a
     .subst v;rw [zBx rfl,hCr,hCp]
     rw [zBw v];refine a8 i ?_;rw [zAv,F] at k;simp at k;rcases k with k | k;exact k;exact absurd k v
    .rw [Z];have ay:i≠a:=λj=>by subst j;have aw:d.drop g=i::d.drop (g+1):=(by have E:g < d.length:=(by rw [V];exact ad);rw [zAx E];have U:=F;rw [zAa E] at U;injection U with U;rw [U]);have H:=(zGl g d).nodup ah;rw [aw,zDe] at H;exact H.1 k
     rw [zBw ay];exact Y i (zFz (by rw [<-zFB] at k;exact k:i∈(d.drop g).drop 1))
   clear a7 a9 Z w ab a6 al;go_wp2_with fail;go_roundw
   case rel=>exact hrel
   case measure=>exact zr
  .obtain rfl:g=K:=oM;have ag:=p;clear p Y;go_wp2_with fail;go_end0;refine ⟨rfl,ag,b,ac,λa p=>a8 a ?_,e⟩;rw [zAg (by rw [V];exact zAs _)];exact p
def aBS {m j q k l:Nat} {f t u s} {o n:Nat} {c b r p g} (w:PermAt g m j q f t u s o n c b r p) (D:c.Nodup) (C:c.length<=1000000) (F:Bk g k 3 #[(l:Int)]) (A:∀e,f.ownBlock=some e->e≠k) (x:∀a,a∈c->aF b a<=1000000000000/\aS b a<=1000000000000):
 Calls prog 154 #[j,.func (.func 163) #[] #[k]] g λi v=>i=.returned (.tuple #[])/\Keep (λe=>f.ownBlock=some e) g v/\∃d,d.length=b.length/\(∀a,a∈c->(aF d a,aS d a)=(inR (aF b a) l,aS b a))/\PermAt v m j q f t u s o n c d r p:=
 qV (λH G=>(inR H l,G)) w D C x (mM func163 kR kR) λ_ _ _ a _ _ B E y z=>aHs a E y (B.d F λi=>A _ i rfl) z.1
def aBT {m j q k l:Nat} {f t u s} {o n:Nat} {c b r p g} (w:PermAt g m j q f t u s o n c b r p) (D:c.Nodup) (C:c.length<=1000000) (F:Bk g k 3 #[(l:Int)]) (A:∀e,f.ownBlock=some e->e≠k) (x:∀a,a∈c->aF b a<=1000000000000/\aS b a<=1000000000000):
 Calls prog 154 #[j,.func (.func 164) #[] #[k]] g λi v=>i=.returned (.tuple #[])/\Keep (λe=>f.ownBlock=some e) g v/\∃d,d.length=b.length/\(∀a,a∈c->(aF d a,aS d a)=(aF b a,inR (aS b a) l))/\PermAt v m j q f t u s o n c d r p:=
 qV (λH G=>(H,inR G l)) w D C x (mM func164 kR kR) λ_ _ _ a _ _ B E y z=>aHv a E y (B.d F λi=>A _ i rfl) z.2
def PermAt.b {q w' c j g n o p m R e k d l f} (a:PermAt q c j g n o p m R e k d l f) (b:Vis q w'):PermAt w' c j g n o p m R e k d l f:=
 ⟨b.d a.a dC dC,b.own a.u dC dC,b.own a.t dC dC,b.d a.V dC dC,b.own a.F dC dC,b.own a.M dC dC,a.apart,a.lt,a.lo⟩
def LiveAt.b {r w' d j gk k g o p q c l m f e n} (a:LiveAt r d j gk k g o p q c l m f e n) (b:Vis r w'):LiveAt w' d j gk k g o p q c l m f e n:=
 ⟨b.d a.a dC dC,a.walk.b b,a.perm.b b⟩
def aKv (e d c i b):(i,b)∈dE e d c↔i < c/\e.getD i 0=b/\b % d=0:=by
 unfold dE;rw [zAy];constructor;rintro ⟨k,a,f⟩;rw [zCx,zCj] at a;cases f;exact ⟨a.1,rfl,by simpa using a.2⟩;rintro ⟨g,rfl,j⟩;exact ⟨i,zCx.2 ⟨zCj.2 g,by simpa using j⟩,rfl⟩
def aCZ {a} (f:a.Pairwise (λb c=>b.1 < c.1)):(List.range a.length).Pairwise (λb c=>aF a b < aF a c):=by
 rw [zAr];intro i j d e g;rw [zCi] at d e;rw [zFM,zFM];have:=zAr.1 f i j d e g;unfold aF;rw [zAb,zAb,zAa d,zAa e];exact this
def aKw (c b a):(dE c b a).length<=a:=by
 unfold dE;rw [zBc];exact zAk (zCw _ _) zs
def aEw {a c} (d:IsSuf (aG a) c):c[0]?=some a.length:=by
 obtain ⟨o,l,m⟩:=fA a;obtain ⟨j,g,f⟩:=d.row (p:=a.length) oM;rcases zBa j with e | e
 .subst e;rw [zAa g,f]
 .exfalso;have b:=zAr.1 d.B 0 j oM g e;rw [f] at b;have n:=d.lt (zBj (show 0 < c.length by omega));have q:c[0]' oM≠a.length:=λk=>by exact (zAr.1 d.nodup 0 j oM g e) (by rw [k,f])
  rw [jF,fN (by omega:a.length < (aG a).length),fN n,l] at b;have:=m (c[0]' oM) oM;rcases b with b | b;omega;omega
def zC {n c} (d:IsSuf n c) {i b k:Nat} (l:c[i]?=some k) (m:c[b]?=some k):i=b:=by
 obtain ⟨e,f⟩:=zAc.1 l;obtain ⟨g,j⟩:=zAc.1 m;rcases zDD i b with a | a | a;exact absurd (by rw [f,j]) (zAr.1 d.nodup i b e g a);exact a;exact absurd (by rw [f,j]) (zAr.1 d.nodup b i g e a)
def PermR (s:World) (l R e:Nat) (m:List (Nat×Nat)):Prop:=
 ∃d k p q r o b a n j,PermAt s d l k p q r o R e b a n j/\b.Pairwise (λf g=>aF a f < aF a g)/\a.length<=1000/\b.length<=1000/\m=b.map λc=>(aF a c,aS a c)
def PermR.le {f c R b a} (d:PermR f c R b a):a.length<=1000:=by
 obtain ⟨g,l,s,t,u,r,p,j,q,k,m,n,o,e,rfl⟩:=d;rw [zBc];exact e
def PermR.b {d w' b R a c} (k:PermR d b R a c) (n:Vis d w'):PermR w' b R a c:=by
 obtain ⟨e,j,r,s,t,q,o,f,p,g,l,m⟩:=k;exact ⟨e,j,r,s,t,q,o,f,p,g,l.b n,m⟩
def PermR.lt {b a R c f} (d:PermR b a R c f):a < b.heap.size:=by
 obtain ⟨g,l,q,r,s,p,n,j,o,k,e,m⟩:=d;exact e.a.lt
def aDW {O j a0 al am an ak R P f c ah Y e} (g:PermAt e O j a0 al am an ak R P f c ah Y) (a1:c.length<=1000) (a2:f.length<=1000):
 Calls prog 131 #[j] e (nN e (f.map λa=>(aF c a,aS c a))):=by
 obtain ⟨ag,a7,ad,ae,af⟩:=info_parts wK;have G:=g.t;obtain ⟨L,Q,rfl,_,_⟩:=aZ G;obtain ⟨K,B,rfl,_,_⟩:=aZ g.u;have s:e.cell? ⟨j,1,none⟩=some (.slice K c.length B):=(g.a.cell 1).trans rfl;have C:e.cell? ⟨j,2,none⟩=some (.slice L f.length Q):=(g.a.cell 2).trans rfl;have a6:=g.a.lt;obtain ⟨N,D⟩:=eqx c.length;obtain ⟨n,x⟩:=eqx f.length;obtain ⟨d,z⟩:∃d,(f.map λa=>(aF c a,aS c a))=d:=⟨_,rfl⟩;have A:d.length=n:=by rw [<-z,zBc,x]
 rw [z];rw [D] at s a1;rw [x] at C a2;clear G;unfold nN;go_enter func131,ntmps131;go_wp2_with fail;go_loopw [3,13] (λai i wr=>∃a:Nat,a<=n/\i=.int .i64 a/\wr.ownsRow e.heap.size 121 2 ai a (bU (d.take a))/\Below e.heap.size e wr) (λ_ i _=>n -(intOf i).toNat)
 case atStart=>exact ⟨0,zAp _,rfl,ki _ _ _ _,kg _ _⟩
 case round=>
  obtain ⟨a,av,rfl,l,k⟩:=hrel;have H:=k.size;by_cases a8:a < n
  .have F:a < f.length:=(by rw [x];exact a8);obtain ⟨b,o⟩:∃b,f[a]?=some b:=⟨_,zAa F⟩;have w:b < c.length:=g.lt b (zAd o);have au:b < N:=(by rw [<-D];exact w);have m:=g.below k;have y:=m.t;obtain ⟨Z,ay,X,_,ar⟩:=kj y oM;obtain ⟨t,ax,W,_,aq⟩:=kj m.u oM;injection X with e2a _ _;injection W with e1a _ _;subst e2a;subst e1a;have ao:wr.cell? ⟨Z,a,none⟩=some (.int .i64 b):=(kh y a oM).trans (by rw [zAf,o];rfl);obtain ⟨I,J⟩:=cL c b w;have U:wr.cell? ⟨t,b*2,none⟩=_:=(kh m.u (b*2) oM).trans I;have V:wr.cell? ⟨t,b*2+1,none⟩=_:=(kh m.u (b*2+1) oM).trans J;have ap:wr.cell? ⟨j,1,none⟩=some (.slice (some t) N B):=(k.cell (p:=⟨j,1,none⟩) a6).trans s;obtain ⟨q,u⟩:=eqx (aF c b);obtain ⟨r,v⟩:=eqx (aS c b);have aa:bU (d.take (a+1))=bU (d.take a)++ [.int .i64 q,.int .i64 r]:=(by have a5:d[a]?=some (q,r):=(by rw [<-z,zAf,o,<-u,<-v];rfl);rw [zAv,a5];show bU (d.take a++ [(q,r)])=_;rw [lZ];rfl);rw [u] at U;rw [v] at V;clear m y I J s C u v o w F;go_wp2_with (at_builtin;refine bP _ rfl (.tmp 17) (.tmp 25) _ rfl e.heap.size 121 ag (.agg #[o0,o0]) 2 16 underlying73 a7 ad ae af rfl dC _ a _ rfl l rfl rfl (by simp [Value.oneCell']) zx oM H ?_;intro aj az ab E aw a3);have a4:=aX k l E H;clear E a3;exact ⟨⟨aj,_,_,⟨a+1,by omega,by go_num,by rw [aa];exact ab,a4⟩,rfl,rfl,rfl⟩,by simp [intOf];omega⟩
  .obtain rfl:a=n:=oM;have ac:d.take a=d:=zAg (by rw [A];exact zAs _);rw [ac] at l;obtain ⟨M,T,rfl,a9⟩:=aR l;clear l;go_wp2_with fail;go_ret;exact ⟨M,T,by rw [A];rfl,by rw [A];exact a9,k⟩
def vM {b R d c a} (e:PermR a b R d c):
 Calls prog 131 #[b] a (nN a c):=by
 obtain ⟨k,n,s,t,u,r,p,l,q,m,f,o,g,j,rfl⟩:=e;exact aDW f g j
def eZ (c:List (Nat×Nat)) (b:Nat) (e:Int):Prop:=(e=-1/\∀a∈c,a.2 < b)∨∃a∈c,e=((a.2:Nat):Int)/\b<=a.2/\∀d∈c,b<=d.2->a.2<=d.2
def aAs {m f n} (q:eZ m f n) (g a):eZ (m++(some (g,a)).toList) f (if f<=a/\(n < 0∨(a:Int) < n) then (a:Int) else n):=by
 have e:∀b:Nat×Nat,b∈m++(some (g,a)).toList↔b∈m∨b=(g,a):=λb=>by simp
 rcases q with ⟨rfl,l⟩|⟨k,r,rfl,l,o⟩;by_cases d:f<=a;rw [zBx ⟨d,.inl oM⟩];refine .inr ⟨(g,a),(e _).2 (.inr rfl),rfl,d,λb c j=>?_⟩;rcases (e b).1 c with c | rfl;have:=l b c;omega;exact zAs _;rw [zBw (λp=>d p.1)];refine .inl ⟨rfl,λb c=>?_⟩;rcases (e b).1 c with c | rfl;exact l b c;show a < f;omega;by_cases d:f<=a/\((k.2:Int) < 0∨(a:Int) < k.2);rw [zBx d];have s:a < k.2:=oM;refine .inr ⟨(g,a),(e _).2 (.inr rfl),rfl,d.1,λb c j=>?_⟩;rcases (e b).1 c with c | rfl;have:=o b c j;show a<=_;omega;exact zAs _;rw [zBw d];refine .inr ⟨k,(e _).2 (.inl r),rfl,l,λb c j=>?_⟩;rcases (e b).1 c with c | rfl;exact o b c j;have t:f<=a:=j;show k.2<=a;omega
def xJ (a:World) (c:List (Nat×Nat)) (e:Nat) (d:Ending) (f:World):Prop:=∃b,d=.returned (.int .i64 b)/\eZ c e b/\Below a.heap.size a f
def sV {x R I:Nat} {d} (e:Nat) {v} (q:PermR v x R I d):
 Calls prog 108 #[x,(e:Int)] v (xJ v d e):=by
 have k:=vM q;have L:=q.le;unfold nN at k;obtain ⟨o,u⟩:=eqx d.length;rw [u] at k L;clear q;unfold xJ;go_enter func108,ntmps108;go_wp2_with fail;refine k.mono ?_;rintro a0 w1 ⟨X,Z,rfl,P,A⟩;clear k;go_wp2_with fail;go_loopw [5,11] (λW i wr=>∃(a:Nat) (c:Int),a<=o/\i=.int .i64 a/\W=.int .i64 c/\eZ (d.take a) e c/\Below w1.heap.size w1 wr) (λ_ i _=>o -(intOf i).toNat)
 case atStart=>exact ⟨0,-1,zAp _,rfl,rfl,.inl ⟨rfl,λa6 T=>by simp at T⟩,kg _ _⟩
 case round=>
  obtain ⟨a,c,a2,rfl,rfl,n,g⟩:=hrel;have Q:=g.size;by_cases O:a < o
  .have D:a < d.length:=(by rw [u];exact O);have E:=P.rd.below (g.mono (B:=w1.heap.size) nL);obtain ⟨Y,a5,rfl,a1,t⟩:=E.2 oM;obtain ⟨G,H⟩:=cL d a D;have J:=t _ _ G;have K:=t _ _ H;obtain ⟨p,r⟩:=eqx (aF d a);obtain ⟨b,s⟩:=eqx (aS d a);rw [r] at J;rw [s,<-zDp] at K;have C:d[a]?=some (p,b):=(by rw [<-r,<-s];unfold aF aS;rw [zAb,zAa D];rfl);have m:∀w:Int,w=(if e<=b/\(c < 0∨(b:Int) < c) then (b:Int) else c)->eZ (d.take (a+1)) e w:=λw U=>by rw [zAv,C,U];exact aAs n p b
   have l:Below w1.heap.size w1 (wr.alloc (.cells #[(p:Int),(b:Int)] 121)):=g.alloc Q _;clear n E t G H r s C;by_cases j:e<=b
   .have V:=zBz j;by_cases y:c < 0
    .have f:eZ (d.take (a+1)) e (b:Int):=m (b:Int) (by rw [zBx ⟨j,.inl y⟩]);go_wp2_with fail;go_roundw
     case rel=>exact ⟨a+1,(b:Int),by omega,by go_num,by first | rfl | trivial,f,l⟩
     case measure=>exact zr
    .have a3:=zBy y;by_cases z:(b:Int) < c
     .have f:eZ (d.take (a+1)) e (b:Int):=m (b:Int) (by rw [zBx ⟨j,.inr z⟩]);go_wp2_with fail;go_roundw
      case rel=>exact ⟨a+1,(b:Int),by omega,by go_num,by first | rfl | trivial,f,l⟩
      case measure=>exact zr
     .have a4:=zBy z;have f:eZ (d.take (a+1)) e c:=m c (by rw [zBw oM]);go_wp2_with fail;go_roundw
      case rel=>exact ⟨a+1,c,by omega,by go_num,by first | rfl | trivial,f,l⟩
      case measure=>exact zr
   .have V:=zBy j;have f:eZ (d.take (a+1)) e c:=m c (by rw [zBw oM]);go_wp2_with fail;go_roundw
    case rel=>exact ⟨a+1,c,by omega,by go_num,by first | rfl | trivial,f,l⟩
    case measure=>exact zr
  .obtain rfl:a=o:=oM;have M:=A.trans (g.mono A.size);have F:d.take a=d:=zAg (by rw [u];exact zAs _);rw [F] at n;clear g F;go_wp2_with fail;go_ret;exact ⟨c,rfl,n,M⟩
def aFx (c:World) (e:List Nat) (b:List (Nat×Nat)) (f:Nat) (d:Ending) (g:World):Prop:=∃a,a∈e/\aS b a=f/\d=.returned (.int .i64 (aF b a:Nat))/\Below c.heap.size c g
def aDR {y m E U V W T R z d a Q D f r} (g:PermAt r y m E U V W T R z d a Q D) (H:d.length<=1099511627776) (a1:a.length<=1099511627776) (u:∃j∈d,aS a j=f):
 Calls prog 109 #[m,(f:Int)] r (aFx r d a f):=by
 have q:=kE f g H;obtain ⟨k,c,w,o,x⟩:=xZ (p:=λj=>decide (aS a j=f)) (l:=d) (by obtain ⟨j,I,J⟩:=u;exact ⟨j,I,zBz J⟩) 0;rw [w,zBi] at q;have O:aS a c=f:=of_decide_eq_true x;have a9:k < d.length:=(zAc.1 o).1;have P:c < a.length:=g.lt c (zAd o);obtain ⟨s,B,M,a5,F⟩:=kj g.t oM;obtain ⟨t,C,L,a6,G⟩:=kj g.u oM;subst M;subst L;have K:=(cL a c P).1;have a8:(k:Int) < d.length:=oM;have aa:(c:Int) < a.length:=oM;have a7:decide ((k:Int) < 0)=false:=zs
 clear w x u;unfold aFx;go_enter func109,ntmps109;go_wp2_with fail;refine q.mono ?_;rintro a0 w1 ⟨rfl,n⟩;have e:=g.below n;have X:∀b,(w1.drewN b).cell? ⟨m,1,none⟩=some (.slice (some t) a.length C):=λb=>(e.a.cell 1).trans rfl;have Y:∀b,(w1.drewN b).cell? ⟨m,2,none⟩=some (.slice (some s) d.length B):=λb=>(e.a.cell 2).trans rfl;have a4:=e.a.lt;have Z:∀b,(w1.drewN b).cell? ⟨s,k,none⟩=some (.int .i64 c):=λb=>(kh e.t k oM).trans (by rw [zAf,o];rfl);have A:∀b,(w1.drewN b).cell? ⟨t,c*2,none⟩=some (.int .i64 (aF a c:Nat)):=λb=>(kh e.u (c*2) oM).trans K;have a2:=zAl F n.size;have a3:=zAl G n.size;obtain ⟨ab,v⟩:=eqx (aF a c);rw [v] at A;clear q e;go_wp2_with fail;go_quiet (fail);go_wp2_with fail;go_ret;exact ⟨c,zAd o,O,by rw [v];rfl,km n _⟩
def aBa (b:World) (e:List (Nat×Nat)) (d:Nat) (c:Ending) (f:World):Prop:=∃a,(a,d)∈e/\c=.returned (.int .i64 a)/\Below b.heap.size b f
def vK {gp R P pr pos w} (f:PermR w gp R P pr) (k:∃d∈pr,d.2=pos):
 Calls prog 109 #[gp,(pos:Int)] w (aBa w pr pos):=by
 obtain ⟨q,s,z,A,B,y,p,e,x,r,g,t,u,v,rfl⟩:=f;have l:∃a∈p,aS e a=pos:=by obtain ⟨d,o,c⟩:=k;obtain ⟨a,b,rfl⟩:=zAy.1 o;exact ⟨a,b,c⟩
 have n:=aDR g oM oM l;refine n.mono ?_;rintro c C ⟨a,b,m,rfl,j⟩;exact ⟨_,zAy.2 ⟨a,b,by rw [m]⟩,rfl,j⟩
def aBI {gp R P pr} (a) {w} (j:PermR w gp R P pr) (f:∀r∈pr,r.2≠a):
 Calls prog 109 #[gp,(a:Int)] w λd q=>d=.returned (.int .i64 (-1))/\Below w.heap.size w q:=by
 obtain ⟨s,u,A,B,C,z,o,g,y,t,e,k,v,x,rfl⟩:=j;have b:=kE a e oM;rw [mD (p:=λc=>decide (aS g c=a)) (l:=o) (λc n=>zBy (f _ (zAy.2 ⟨c,n,rfl⟩))) 0] at b;clear e k f;go_enter func109,ntmps109;go_wp2_with fail;refine b.mono ?_;rintro d w1 ⟨rfl,m⟩;clear b;go_wp2_with fail;go_ret;exact ⟨rfl,m⟩
section
def aG5 {a:List Nat} (k:a.Nodup) {x:Nat} (m:x∈a) {c d:Nat->Bool} (j:∀b∈a,b≠x->c b=d b):a.countP c+(if d x then 1 else 0)=a.countP d+(if c x then 1 else 0):=by
 have f:=List.perm_cons_erase m;have l:=f.nodup_iff.1 k;have e:(a.erase x).countP c=(a.erase x).countP d:=zDy λb g=>by rw [j b (List.mem_of_mem_erase g) (λe=>(zDe.1 l).1 (e ▸ g))]
 rw [f.countP_eq,f.countP_eq,zBn,zBn,e];omega
def aN2 {R} (d:R.Nodup) {a} (e:a∈R):R.countP (λf=>decide (ro R f < ro R a))=ro R a:=by
 have b:=aB2 d (ro R a) (λ_=>true);have c:(R.take (ro R a)).countP (λ_=>true)=(R.take (ro R a)).length:=zDJ.2 λ_ _=>rfl;rw [c,zAj] at b;have g:ro R a < R.length:=zDk.2 e;rw [zCu oM] at b;simp only [zDO] at b;exact b.symm
def aL3 (c d b:Nat):Nat:=let a:=if d < b then c - 1 else c;if b<=a then a+1 else a
section
variable {S R : List Nat} {N i : Nat}
def aK7 (c:Near S R N (i+2)) (B:i+1 < N):(if S.getD (i+1) 0=S.getD i 0 then aL3 (cR (aH S R) (S.getD i 0) (ro R (i+1))) (ro R (i+2)) (ro R (i+1)) else cR (aH S R) (S.getD i 0) (ro R (i+1)))=ro R i/\
 (S.getD (i+1) 0=S.getD i 0->ro R (i+2) < ro R (i+1)->0 < cR (aH S R) (S.getD i 0) (ro R (i+1))):=by
 have t:=c.nodup;have l:∀a,a<=N->a∈R:=λa m=>c.mem.2 m;have n:∀a e,a<=N->e<=N->a≠e->ro R a≠ro R e:=λa e m v u g=>u (fL (l a m) (l e v) g);have r:=c.ba.pos i oM;rw [uM c.ba c.perm r];have p:(List.range (N+1)).countP (λa=>decide (ro R a < ro R i))=ro R i:=by rw [<-c.perm.countP_eq];exact aN2 t (l i oM)
 have q:∀d∈List.range (N+1),d≠i+1->decide (ro R d < ro R i)=decide (S.getD d 0 < S.getD i 0∨(S.getD d 0=S.getD i 0/\ro R (d+1) < ro R (i+1))):=λd w E=>by rw [zCj] at w;rw [decide_eq_decide];by_cases o:d=i;subst o;omega;exact c.cons d i oM oM o oM oM
 have b:=aG5 zDl (x:=i+1) zt q;rw [p] at b;unfold aDc;generalize D:List.countP (λa=>decide (S.getD a 0 < S.getD i 0∨(S.getD a 0=S.getD i 0/\ro R (a+1) < ro R (i+1)))) (List.range (N+1))=n0 at b⊢;have C:=n i (i+1) oM oM oM;have A:=n (i+2) (i+1) oM oM oM;have y:=c.a9 (i+1) i oM oM;have z:=c.a9 i (i+1) oM oM;simp only [zCa,show i+1+1=i+2 by omega] at b;by_cases k:S.getD (i+1) 0=S.getD i 0
 .have j:(S.getD (i+1) 0 < S.getD i 0∨(S.getD (i+1) 0=S.getD i 0/\ro R (i+2) < ro R (i+1)))↔ro R (i+2) < ro R (i+1):=oM;simp only [j] at b;rw [zBx k];unfold aL3;refine ⟨?_,λ_ s=>?_⟩
  .by_cases f:ro R (i+2) < ro R (i+1)
   .rw [zBx f] at b;simp only [zBx f];split at b <;> split <;> omega
   .rw [zBw f] at b;simp only [zBw f];split at b <;> split <;> omega
  .rw [zBx s] at b;split at b <;> omega
 have j:(S.getD (i+1) 0 < S.getD i 0∨(S.getD (i+1) 0=S.getD i 0/\ro R (i+2) < ro R (i+1)))↔ro R (i+1) < ro R i:=oM;simp only [j] at b;rw [zBw k];exact ⟨by omega,λg=>absurd g k⟩
def sh (b a:Nat):Nat:=if a < b then a else a+1
def aGk {b c d} (a:sh b c=sh b d):c=d:=by unfold sh at a;split at a <;> split at a <;> omega
def aB7 (a b):sh a b≠a:=by unfold sh;split <;> omega
def nV {b a} (e:a≠b):∃d,sh b d=a:=by
 by_cases c:a < b;exact ⟨a,by unfold sh;rw [zBx c]⟩;exact ⟨a - 1,by unfold sh;rw [zBw oM];omega⟩
def oH (b) {c} (d) (e:c<=b.length) (a):(aT b c d).getD a 0=if a < c then b.getD a 0 else if a=c then d else b.getD (a - 1) 0:=by
 rw [zAb,jX b d e];split
 .rw [zAb]
 .split;rfl
  .rw [zAb]
def aNk {b c} (d:c < b.length) (a):(aK b c).getD a 0=if a < c then b.getD a 0 else b.getD (a+1) 0:=by
 rw [zAb,eQ d];split
 .rw [zAb]
 .rw [zAb]
def oG (c) {b} (e a) (f:b<=c.length):(aT c b e).getD (sh b a) 0=c.getD a 0:=by
 rw [oH c e f];by_cases d:a < b
 .rw [show sh b a=a by unfold sh;rw [zBx d],zBx d]
 .rw [show sh b a=a+1 by unfold sh;rw [zBw d],zBw oM,zBw oM,zBb]
def aAt (b) {a} (c) (d:a<=b.length):(aT b a c).getD a 0=c:=by
 rw [oH b c d,zBw oM,zBx rfl]
def aKB {R} (l:R.Nodup) {at_ row} (n:row<=R.length):ro (aT (R.map (sh at_)) row at_) at_=row/\(∀a∈R,ro (aT (R.map (sh at_)) row at_) (sh at_ a)=inR (ro R a) row)/\(aT (R.map (sh at_)) row at_).Nodup:=by
 have e:row<=(R.map (sh at_)).length:=by simpa using n
 have b:(aT (R.map (sh at_)) row at_).Nodup:=by rw [(fU _ _ _).nodup_iff,zDe];refine ⟨λk=>?_,zDm.2 (l.imp λg j=>g (aGk j))⟩;obtain ⟨a,_,f⟩:=zAy.1 k;exact aB7 _ _ f
 refine ⟨gR b ?_,λa m=>gR b ?_,b⟩
 .rw [jX _ _ e,zBw oM,zBx rfl]
 rw [jX _ _ e];have d:=cE m;unfold inR;by_cases c:row<=ro R a;rw [zBx c,zBw oM,zBw oM,zBb,zAf,d];rfl;rw [zBw c,zBx oM,zAf,d];rfl
def aNb (f:EndOk S N) {a c} (k:a<=N) (g:0 < c):EndOk (aT S a c) (N+1):=by
 obtain ⟨d,e,b⟩:=f;refine ⟨by rw [cM _ _ oM,d],?_,λj l=>?_⟩
 .rw [oH _ _ oM,zBw oM,zBw oM,zBb,e]
 rw [oH _ _ oM];split;exact b j oM;split;exact g;exact b _ oM
def aKU {R:List Nat} (c:R.Perm (List.range (N+1))) {a:Nat} (row:Nat) (n:a<=N):(aT (R.map (sh a)) row a).Perm (List.range (N+1+1)):=by
 refine (List.perm_ext_iff_of_nodup ?_ zDl).2 λm=>?_;rw [(fU _ _ _).nodup_iff,zDe];refine ⟨λk=>?_,zDm.2 ((c.nodup_iff.2 zDl).imp λg j=>g (aGk j))⟩;obtain ⟨d,_,f⟩:=zAy.1 k;exact aB7 _ _ f
 .rw [(fU _ _ _).mem_iff,zDf,zAy,zCj];constructor
  .rintro (rfl |⟨d,l,rfl⟩);omega
   .have:=zCj.1 (c.mem_iff.1 l);unfold sh;split <;> omega
  .intro e;by_cases b:m=a;exact .inl b
   .obtain ⟨d,rfl⟩:=nV b;refine .inr ⟨d,c.mem_iff.2 (zCj.2 ?_),rfl⟩;unfold sh at e b;split at e <;> omega
def aLb (a2:IsSuf S R) (r:EndOk S N) {c s} (u:c<=N) (Y:0 < s):cR (aH S R) s (ro R c)<=R.length/\Near (aT S c s) (aT (R.map (sh c)) (cR (aH S R) s (ro R c)) c) (N+1) c:=by
 have m:=a2.P r;have H:=m.nodup;have l:∀d,d<=N->d∈R:=λd n=>m.mem.2 n;obtain ⟨row,X⟩:=eqx (cR (aH S R) s (ro R c));have Q:R.countP (λd=>decide (S.getD d 0 < s∨(S.getD d 0=s/\ro R (d+1) < ro R c)))=row:=by rw [<-X,uM r m.perm Y,m.perm.countP_eq];rfl
 rw [X];have T:row<=R.length:=by rw [<-Q];exact zBh
 have A:∀d,d<=N->(decide (S.getD d 0 < s∨(S.getD d 0=s/\ro R (d+1) < ro R c))=true↔ro R d < row):=λd n=>by rw [<-Q];refine aC2 (K:=λd=>decide (S.getD d 0 < s∨(S.getD d 0=s/\ro R (d+1) < ro R c))) ?_ _ _ (cE (l d n));rw [zAr];intro w x M P aa k;have a7:ro R R[w]=w:=gR H (zAa M);have a8:ro R R[x]=x:=gR H (zAa P);have a3:R[w]<=N:=m.mem.1 (zBj M);have a4:R[x]<=N:=m.mem.1 (zBj P);have z:=(m.cons R[w] R[x] a3 a4 (λj=>by rw [j,a8] at a7;omega) oM oM).1 oM;unfold wP at z;rw [zCa] at k⊢;omega
 obtain ⟨E,q,ab⟩:=aKB H (at_:=c) T;have a9:=r.len;refine ⟨T,aNb r u Y,aKU m.perm row u,λd v n o g=>?_,λd v n o W V B=>?_⟩
 .by_cases t:d=c
  .subst t;by_cases p:v=d;subst p;omega
   .obtain ⟨b,rfl⟩:=nV p;have e:b<=N:=(by unfold sh at o;split at o <;> omega);rw [E,q b (l b e)] at g;rw [aAt _ _ oM,oG _ _ _ oM];have k:=A b e;rw [zCa] at k;unfold inR at g;split at g <;> omega
  .obtain ⟨a,rfl⟩:=nV t;have f:a<=N:=(by unfold sh at n;split at n <;> omega);by_cases p:v=c
   .subst p;rw [E,q a (l a f)] at g;rw [aAt _ _ oM,oG _ _ _ oM];have k:=A a f;rw [zCa] at k;unfold inR at g;split at g <;> omega
   .obtain ⟨b,rfl⟩:=nV p;have e:b<=N:=(by unfold sh at o;split at o <;> omega);rw [q a (l a f),q b (l b e)] at g;rw [oG _ _ _ oM,oG _ _ _ oM];refine m.a9 a b f e ?_;unfold inR at g;split at g <;> split at g <;> omega
 .have C:∀a,a<=N->sh c a+1≠c->a < N->sh c a+1=sh c (a+1):=λa f z _=>by unfold sh at z⊢;by_cases Z:a < c <;> by_cases a0:a+1 < c <;> simp only [Z,a0,if_true,if_false] at z⊢<;> omega
  have O:c+1=sh c c:=(by unfold sh;rw [zBw oM]);have D:∀a b,a<=N->b<=N->(ro (aT (R.map (sh c)) row c) (sh c a) < ro (aT (R.map (sh c)) row c) (sh c b)↔ro R a < ro R b):=λa b f e=>by rw [q a (l a f),q b (l b e)];unfold inR;split <;> split <;> omega
  have y:∀F,F<=N->S.getD F 0≠0->F < N:=λF a6 U=>zFO a6 λj=>by subst j;exact U r.last
  unfold wP;by_cases t:d=c
  .subst t;obtain ⟨b,rfl⟩:=nV (λj=>W j.symm);have e:b<=N:=(by unfold sh at o;split at o <;> omega);rw [E,q b (l b e),aAt _ _ oM,oG _ _ _ oM];have k:=A b e;rw [zCa] at k;have g:row < inR (ro R b) row↔¬ro R b < row:=(by unfold inR;split <;> omega);rw [g,<-k];by_cases L:S.getD b 0=s
   .have J:=y b e oM;rw [C b e B J,O,D d (b+1) u oM];have:=λj=>fL (l (b+1) oM) (l d u) j;have U:ro R (b+1)≠ro R d:=λj=>by have:=this j;unfold sh at B;split at B <;> omega
    omega
   omega
  .obtain ⟨a,rfl⟩:=nV t;have f:a<=N:=(by unfold sh at n;split at n <;> omega);by_cases p:v=c
   .subst p;rw [E,q a (l a f),aAt _ _ oM,oG _ _ _ oM];have k:=A a f;rw [zCa] at k;have g:inR (ro R a) row < row↔ro R a < row:=(by unfold inR;split <;> omega);rw [g,<-k];by_cases L:S.getD a 0=s
    .have I:=y a f oM;rw [C a f V I,O,D (a+1) v oM u]
    omega
   .obtain ⟨b,rfl⟩:=nV p;have e:b<=N:=(by unfold sh at o;split at o <;> omega);have a5:a≠b:=λj=>W (by rw [j]);rw [D a b f e,oG _ _ _ oM,oG _ _ _ oM,m.cons a b f e a5 oM oM];unfold wP;by_cases L:S.getD a 0=S.getD b 0
    .by_cases a1:S.getD a 0=0;have ac:a=N:=zFo f (zCs.1 λG=>by have:=r.pos a G;omega);have ad:b=N:=zFo e (zCs.1 λG=>by have:=r.pos b G;omega);omega
     .have I:=y a f a1;have J:=y b e oM;rw [C a f V I,C b e B J,D (a+1) (b+1) oM oM]
    omega
def aI2 (r:R.Nodup) (m:R.Perm (List.range (N+1))) (p:EndOk S N) {b s row} (v:b<=N) (y:row<=R.length):aH (aT S b s) (aT (R.map (sh b)) row b)=aT ((aH S R).set (ro R b) s) row (bS S b):=by
 have e:=p.len;have j:(aT S b s).length=N+1+1:=by rw [cM _ _ oM,e]
 have q:∀a,a∈R->a<=N:=λa t=>by have:=zCj.1 (m.mem_iff.1 t);omega
 have k:b∈R:=m.mem_iff.2 (zCj.2 oM);unfold aH;rw [qB];congr 1
 .apply zDs;intro n;rw [zAf,zAf,zBm,zAf];cases c:R[n]? with
  | none=>
   simp;intro d;subst d;rw [cE k] at c;cases c
  | some a=>
   have x:=q a (zAd c);have l:ro R a=n:=gR r c;show some (bS (aT S b s) (sh b a))=_;by_cases f:a=b
   .subst f;rw [zBx l,zBx (by simpa using (zAc.1 (l ▸ c)).1)];congr 1;rw [show sh a a=a+1 by unfold sh;rw [zBw oM],bL oM,aAt _ _ oM]
   .rw [zBw (λd=>f (by have g:=cE k;rw [d,c] at g;injection g))];show some _=some (bS S a);congr 1;rcases a with _ | a
    .rw [show sh b 0=0 by unfold sh;rw [zBx oM],bV oM,bV oM,j,e,zBb,zBb,oH _ _ oM,zBw oM,zBw oM,zBb]
    .have o:sh b (a+1)=sh b a+1:=(by unfold sh;split <;> split <;> omega);have w:sh b a+1 < N+1+1:=(by unfold sh;split <;> omega);rw [o,bL oM,bL oM,oG _ _ _ oM]
 .rcases b with _ | u
  .rw [bV oM,bV oM,j,e,zBb,zBb,oH _ _ oM,zBw oM,zBw oM,zBb]
  .rw [bL oM,bL oM,oH _ _ oM,zBx oM]
def aGL {a c b} (d:R[a]?=some b):aH S (aT (aK R a) c b)=aT (aK (aH S R) a) c (bS S b):=by
 unfold aH;rw [qB,uY]
end
section
variable {S R : List Nat} {N : Nat}
def ush (b a:Nat):Nat:=if a < b then a else a - 1
def aJ1 (a b):ush a (sh a b)=b:=by
 unfold ush sh
 (repeat' split)<;> omega
def aGj {k a} (b:a≠k):sh k (ush k a)=a:=by
 unfold ush sh
 (repeat' split)<;> omega
def lO (b) {a} (c) (d:a < b.length):(aK b a).getD c 0=b.getD (sh a c) 0:=by
 rw [aNk d];unfold sh;split <;> rfl
def aNj (d:EndOk S (N+1)) {a} (f:a<=N):EndOk (aK S a) N:=by
 obtain ⟨e,b,c⟩:=d;have g:=cJ (l:=S) (k:=a) oM;refine ⟨by omega,?_,λm j=>?_⟩;rw [lO _ _ oM];unfold sh;rw [zBw oM];exact b
 .rw [lO _ _ oM];refine c _ ?_;unfold sh;split <;> omega
def aDg (m:R.Perm (List.range (N+1+1))) {b} (t:b<=N):(b::aK R (ro R b)).Perm R/\(aK R (ro R b)).Nodup/\(∀a∈R,a≠b->(aK R (ro R b))[bN (ro R a) (ro R b)]?=some a)/\∀a,a∈aK R (ro R b)↔a∈R/\a≠b:=by
 have r:R.Nodup:=m.nodup_iff.2 zDl;have l:b∈R:=m.mem_iff.2 (zCj.2 oM);have j:=cE l;have q:=(zAc.1 j).1;have d:=fH j;have f:=d.nodup_iff.2 r;rw [zDe] at f;refine ⟨d,f.2,λa n s=>?_,λa=>?_⟩;have k:=cE n;have u:ro R a≠ro R b:=λe=>s (fL n l e);rw [eQ q];unfold bN;by_cases g:ro R b < ro R a;rw [zBx g,zBw oM,show ro R a - 1+1=ro R a by omega];exact k;rw [zBw g,zBx oM];exact k;constructor;intro c;exact ⟨d.mem_iff.1 (zEv _ c),λe=>f.1 (e ▸ c)⟩;rintro ⟨o,p⟩;rcases zDf.1 (d.mem_iff.2 o) with c | c;exact absurd c p;exact c
def aKC (e:R.Perm (List.range (N+1+1))) {at_} (r:at_<=N):((aK R (ro R at_)).map (ush at_)).Perm (List.range (N+1))/\∀a,a<=N->ro ((aK R (ro R at_)).map (ush at_)) a=bN (ro R (sh at_ a)) (ro R at_):=by
 obtain ⟨v,p,q,b⟩:=aDg e r;have g:((aK R (ro R at_)).map (ush at_)).Nodup:=by refine zDm.2 (p.imp_of_mem λ{c l} d t s m=>s ?_);have n:=aGj (k:=at_) ((b c).1 d).2;have o:=aGj (k:=at_) ((b l).1 t).2;rw [<-n,<-o,m]
 have f:∀a,a<=N->sh at_ a∈R:=λa w=>e.mem_iff.2 (zCj.2 (by unfold sh;split <;> omega));refine ⟨(List.perm_ext_iff_of_nodup g zDl).2 λj=>?_,λa u=>?_⟩
 .rw [zAy,zCj];constructor
  .rintro ⟨c,d,rfl⟩;have:=zCj.1 (e.mem_iff.1 ((b c).1 d).1);have:=((b c).1 d).2;unfold ush;split <;> omega
  intro x;exact ⟨sh at_ j,(b _).2 ⟨f j oM,aB7 _ _⟩,aJ1 _ _⟩
 .refine gR g ?_;rw [zAf,q _ (f a u) (aB7 _ _)];show some (ush at_ (sh at_ a))=some a;rw [aJ1]
def aLc (x:IsSuf S R) (j:EndOk S (N+1)) {at_} (q:at_<=N):Near (aK S at_) ((aK R (ro R at_)).map (ush at_)) N at_:=by
 have k:=x.P j;have I:=j.len;obtain ⟨w,o⟩:=aKC k.perm q;have l:∀a,a<=N+1->a∈R:=λa d=>k.mem.2 d;have f:∀a,a<=N->sh at_ a<=N+1:=λa d=>by unfold sh;split <;> omega
 have m:∀a b,a<=N->b<=N->(ro ((aK R (ro R at_)).map (ush at_)) a < ro ((aK R (ro R at_)).map (ush at_)) b↔ro R (sh at_ a) < ro R (sh at_ b)):=λa b d e=>by rw [o a d,o b e];have K:ro R (sh at_ a)≠ro R at_:=λg=>aB7 _ _ (fL (l _ (f a d)) (l at_ oM) g);have L:ro R (sh at_ b)≠ro R at_:=λg=>aB7 _ _ (fL (l _ (f b e)) (l at_ oM) g);unfold bN;split <;> split <;> omega
 refine ⟨aNj j q,w,λa b d e B=>?_,λa b d e E D F=>?_⟩;rw [lO _ _ oM,lO _ _ oM];exact k.a9 _ _ (f a d) (f b e) ((m a b d e).1 B)
 .have C:sh at_ a≠sh at_ b:=λg=>E (aGk g);rw [m a b d e,k.cons _ _ (f a d) (f b e) C oM oM];unfold wP;rw [lO _ _ oM,lO _ _ oM];by_cases H:S.getD (sh at_ a) 0=S.getD (sh at_ b) 0
  .by_cases n:S.getD (sh at_ a) 0=0;have u:∀c,c<=N+1->S.getD c 0=0->c=N+1:=λc s t=>zFo s (zCs.1 λA=>by have:=j.pos c A;omega);have M:=u _ (f a d) n;have O:=u _ (f b e) oM;omega
   .have r:∀c,c<=N->c+1≠at_->S.getD (sh at_ c) 0≠0->c < N/\sh at_ c+1=sh at_ (c+1):=λc s J t=>by have y:sh at_ c≠N+1:=λg=>t (by rw [g];exact j.last);have z:c < N:=(by rcases zBe c N with p | p;exact p;exfalso;apply y;unfold sh;rw [zBw oM];omega);refine ⟨z,?_⟩;unfold sh;split <;> split <;> omega
    obtain ⟨G,v⟩:=r a d D n;obtain ⟨b1,b2⟩:=r b e F oM;rw [v,b2,m (a+1) (b+1) oM oM]
  omega
def aI3 (e:R.Perm (List.range (N+1+1))) (t:EndOk S (N+1)) {at_} (B:at_<=N):aH (aK S at_) ((aK R (ro R at_)).map (ush at_))=aK ((aH S R).set (ro R (at_+1)) (bS S at_)) (ro R at_):=by
 have x:R.Nodup:=e.nodup_iff.2 zDl;have A:=t.len;have C:=cJ (l:=S) (k:=at_) oM;have w:∀a,a∈R->a<=N+1:=λa g=>by have:=zCj.1 (e.mem_iff.1 g);omega
 have s:at_∈R:=e.mem_iff.2 (zCj.2 oM);have o:at_+1∈R:=e.mem_iff.2 (zCj.2 oM);have p:=(zAc.1 (cE s)).1;have y:∀a,a<=N+1->a≠at_->bS (aK S at_) (ush at_ a)=if a=at_+1 then bS S at_ else bS S a:=λa D q=>by
  by_cases b:a=at_+1
  .subst b;rw [zBx rfl,show ush at_ (at_+1)=at_ by unfold ush;rw [zBw oM];omega];rcases at_ with _ | z;rw [bV oM,bV oM,lO _ _ oM];unfold sh;rw [zBw oM];congr 1;omega
   .rw [bL oM,bL oM,lO _ _ oM];unfold sh;rw [zBx oM]
  .rw [zBw b];rcases a with _ | a;rw [show ush at_ 0=0 by unfold ush;split <;> omega,bV oM,bV oM,lO _ _ oM];unfold sh;rw [zBw oM];congr 1;omega
   .by_cases n:a+1 < at_
    .rw [show ush at_ (a+1)=a+1 by unfold ush;rw [zBx n],bL oM,bL oM,lO _ _ oM];unfold sh;rw [zBx oM]
    .obtain ⟨f,rfl⟩:∃f,a=f+1:=⟨a - 1,by omega⟩;rw [show ush at_ (f+1+1)=f+1 by unfold ush;rw [zBw n];omega,bL oM,bL oM,lO _ _ oM];unfold sh;rw [zBw oM]
 unfold aH;rw [zCh];apply zDs;intro m;have v:ro R at_ < ((R.map (bS S)).set (ro R (at_+1)) (bS S at_)).length:=by simpa using p
 rw [zAf,eQ p,eQ v];have r:∀i,i≠ro R at_->Option.map (bS (aK S at_)∘ ush at_) R[i]?=((R.map (bS S)).set (ro R (at_+1)) (bS S at_))[i]?:=λi u=>by
  rw [zBm,zAf];cases c:R[i]? with
  | none=>
   have:¬ro R (at_+1)=i:=λd=>by rw [<-d,cE o] at c;cases c
   rw [zBw this];rfl
  | some a=>
   have g:=zAd c;have j:=gR x c;have q:a≠at_:=λd=>u (by rw [<-j,d]);show some (bS (aK S at_) (ush at_ a))=_;rw [y a (w a g) q];by_cases b:a=at_+1
   .subst b;rw [zBx rfl,zBx j,zBx (by rw [j];simpa using (zAc.1 c).1)]
   rw [zBw b,zBw (λd=>b ?_)];rfl;rw [<-d,cE o] at c;injection c with c;exact c.symm
 by_cases b:m < ro R at_;rw [zBx b,zBx b];exact r m oM;rw [zBw b,zBw b];exact r (m+1) oM
end
end
def iW (a b:Nat) (e:a < 4294967296) (f:b < 4294967296):bits .xor .u32 (a:Int) (b:Int)=((a ^^^ b:Nat):Int):=by
 have g:a ^^^ b < 2 ^ 32:=zEg oM oM;have c:(BitVec.ofInt 32 (a:Int)).toNat=a:=by rw [zDQ,zDG];exact zBu oM
 have d:(BitVec.ofInt 32 (b:Int)).toNat=b:=by rw [zDQ,zDG];exact zBu oM
 show IntKind.u32.wrap ((BitVec.ofInt 32 (a:Int)^^^ BitVec.ofInt 32 (b:Int)).toNat:Int)=_;rw [zGs,c,d,IntKind.wrap_u32];omega
def aE5 (a:Nat) {b:Nat} (e:a < 256) (f:b < 256):bits .xor .u8 (a:Int) (b:Int)=((a ^^^ b:Nat):Int):=by
 have g:a ^^^ b < 2 ^ 8:=zEg oM oM;have c:(BitVec.ofInt 8 (a:Int)).toNat=a:=by rw [zDQ,zDG];exact zBu oM
 have d:(BitVec.ofInt 8 (b:Int)).toNat=b:=by rw [zDQ,zDG];exact zBu oM
 show IntKind.u8.wrap ((BitVec.ofInt 8 (a:Int)^^^ BitVec.ofInt 8 (b:Int)).toNat:Int)=_;rw [zGs,c,d,IntKind.wrap_u8];omega
def oL {a:Nat} (d:a < 4294967296):bits .and .u32 (a:Int) 1=((a % 2:Nat):Int):=by
 have b:(BitVec.ofInt 32 (a:Int)).toNat=a:=by rw [zDQ,zDG];exact zBu oM
 show IntKind.u32.wrap ((BitVec.ofInt 32 (a:Int)&&& BitVec.ofInt 32 (1:Int)).toNat:Int)=_;rw [zGt,b];have c:(BitVec.ofInt 32 (1:Int)).toNat=1:=dC;rw [c,IntKind.wrap_u32,zEN];omega
def aFT {a:Nat} (j:a < 4294967296) (d):
 Calls prog 221 #[.int .u32 a,false] d λe k=>e=.returned (.int .u32 (cX a:Nat))/\Below d.heap.size d k:=by
 have l:=oL j;go_enter func221,ntmps221;go_wp2_with fail
 .go_ret;refine ⟨?_,kg _ _⟩
  rename_i b
  have c:a % 2=1:=(zj (eq_of_beq b));have f:((a:Int)/ 2)=((a / 2:Nat):Int):=oM;have g:(3988292384:Int)=(3988292384:Nat):=rfl;show Ending.returned (Value.int .u32 (bits .xor .u32 ((a:Int)/ 2) 3988292384))=_;rw [f,g,iW _ _ oM oM,cX,zBx c]
 .go_ret;refine ⟨?_,kg _ _⟩
  rename_i b
  have c:¬a % 2=1:=(by intro m;have:((a:Int)% 2==1)=true:=zCr.2 oM;rw [this] at b;cases b);show Ending.returned (Value.int .u32 ((a:Int)/ 2))=_;rw [cX,zBw c];rfl
def aBw (i b:Nat):Nat->Nat:=λa=>if a < i then kJ a else if a=i then b else 0
def aKa (i e d):(λb=>if b=i then d else aBw i e b)=aBw i d:=by
 funext b;unfold aBw;by_cases a:b=i
 .rw [zBx a,zBw oM,zBx a]
 .rw [zBw a];by_cases c:b < i
  .rw [zBx c,zBx c]
  .rw [zBw c,zBw c,zBw a,zBw a]
def aIo (i):aBw i (kJ i)=aBw (i+1) 0:=by
 funext p;unfold aBw;by_cases a:p < i
 .rw [zBx a,zBx oM]
 .rw [zBw a];by_cases b:p=i
  .subst b;rw [zBx rfl,zBx oM]
  .rw [zBw b,zBw oM];split <;> rfl
@[irreducible] def crcC:Array Value:=lW .u32 256 kJ
@[irreducible] def tabC (i c:Nat):Array Value:=lW .u32 256 (aBw i c)
def aEg {i c a:Nat} (b:i < 256):(tabC i c).setIfInBounds i (.int .u32 a)=tabC i a:=by
 unfold tabC;rw [nJ b,aKa]
def zS {i a} (b:i < 256):(tabC i a)[i]?=some (.int .u32 a):=by
 unfold tabC;rw [gX b];unfold aBw;rw [zBw oM,zBx rfl]
def aIq (i):tabC i (eB 8 i)=tabC (i+1) 0:=by
 unfold tabC;rw [<-aIo];rfl
def aB3:Array.replicate 256 (Value.int .u32 0)=tabC 0 0:=by
 unfold tabC;rw [rX];exact dP λi a=>by unfold aBw;rw [zBw oM];split <;> rfl
def aKb (b):tabC 256 b=crcC:=by
 unfold tabC crcC;exact dP λi a=>by unfold aBw;rw [zBx a]
def aLS {i} (a:i < 256):crcC[i]?=some (.int .u32 (kJ i:Nat)):=by
 unfold crcC;exact gX a
def rV:crcC.size=256:=by unfold crcC;exact nI _ _ _
def aIp (i a):(tabC i a).size=256:=by unfold tabC;exact nI _ _ _
def aIm {b a d c} (k:d.getD 0 undef=.pointer (some c)) (g:Bk a c 211 crcC) (l:(prog.info? 211).map (·.size)=some crcC.size) (j:Below b.heap.size b a):
 bodyPost prog f187 (λe a=>e=.returned (.agg crcC)/\Below b.heap.size b a) .ret ⟨d, []⟩ a:=
 bodyPost_ret (results_cell_row (P:=prog) (fn:=f187) (p:=0) (ty:=211) rfl d a c 211 crcC (0,0) _ k g underlying211 rfl l) rfl ⟨rfl,j⟩
def aJW {a:Nat} (d:a < 4294967296):bits .xor .u32 IntKind.u32.max (a:Int)=((4294967295 - a:Nat):Int):=by
 have b:IntKind.u32.max=(4294967295:Nat):=dC;rw [b,iW _ _ oM d];congr 1;have c:(4294967295:Nat)^^^ a=(BitVec.allOnes 32 ^^^ BitVec.ofNat 32 a).toNat:=by rw [zGs,zDG,zBu (by omega:a < 2 ^ 32)];rfl
 rw [c,BitVec.allOnes_xor,BitVec.toNat_not,zDG,zBu (by omega:a < 2 ^ 32)]
def aD6 (b):
 Calls prog 187 #[] b λs y=>s=.returned (.agg crcC)/\Below b.heap.size b y:=by
 go_enter func187,ntmps187;go_wp2_with fail;go_loopw [3] (λi wr=>∃(a:Nat) (j:Nat),a<=256/\i=.int .i64 a/\Bk wr b.heap.size 211 (tabC 0 0)/\Bk wr (b.heap.size+1) 211 (tabC a j)/\(a < 256->j=0)/\Below b.heap.size b wr) (λi _=>256 -(intOf i).toNat)
 case atStart=>refine ⟨0,0,by omega,rfl,?_,?_,λ_=>rfl,?_⟩;rw [<-aB3];exact (kd _ _ _).alloc _;rw [<-aB3];have t:=kd (b.alloc (.cells Tryz.zeroCells211 211)) 211 Tryz.zeroCells211;rw [show (b.alloc (.cells Tryz.zeroCells211 211)).heap.size=b.heap.size+1 by simp] at t;exact t;exact (bR.alloc nL _).alloc zs _
 case round=>
  obtain ⟨a,j,I,rfl,k,e,g,u⟩:=hrel;by_cases d:a < 256
  .have x:=g d;subst x;have F:((a:Int) < 256):=oM;have A:wr.cell? ⟨b.heap.size+1,a,none⟩=some (.int .u32 0):=(e.cell a).trans (zS d);have D:=e.frozen a;go_wp2_with fail;go_loopw [10] (λi r=>∃c:Nat,c<=8/\i=.int .i64 c/\Bk r b.heap.size 211 (tabC 0 0)/\Bk r (b.heap.size+1) 211 (tabC a (eB c a))/\Below b.heap.size b r) (λi _=>8 -(intOf i).toNat)
   case atStart=>refine ⟨0,by omega,rfl,k.m zs _,?_,u.setCell zs _⟩;have:=e.set a (.int .u32 a);rw [aEg d] at this;exact this
   case round=>
    obtain ⟨c,G,rfl,n,f,m⟩:=hrel;by_cases J:c < 8
    .have H:((c:Int) < 8):=oM;have B:wr.cell? ⟨b.heap.size+1,a,none⟩=some (.int .u32 (eB c a:Nat)):=(f.cell a).trans (zS d);go_wp2_with fail;refine (aFT (uZ oM c) _).mono ?_;rintro s z ⟨rfl,l⟩;have o:=f.below l f.lt;have v:=n.below l n.lt;have C:z.cell? ⟨b.heap.size+1,a,none⟩=some (.int .u32 (eB c a:Nat)):=(o.cell a).trans (zS d);have E:=o.frozen a;go_wp2_with fail;go_roundw
     case rel=>refine ⟨c+1,by omega,by go_num,v.m zs _,?_,(m.trans (l.mono m.size)).setCell zs _⟩;have:=o.set a (.int .u32 (cX (eB c a):Nat));rw [aEg d] at this;exact this
     case measure=>exact zr
    .have p:c=8:=oM;subst p;go_wp2_with fail;go_roundw
     case rel=>rw [aIq] at f;exact ⟨a+1,0,by omega,by go_num,n,f,λ_=>rfl,m⟩
     case measure=>exact zr
  .have p:a=256:=oM;subst p;rw [aKb] at e;have q:(prog.info? 211).map (·.size)=some crcC.size:=(by rw [rV];kernel_rfl);have w:crcC.all (·.oneCell')=true:=(by unfold crcC lW;rw [zFQ];intro j g;rw [List.mem_toArray,zAy] at g;obtain ⟨K,_,rfl⟩:=g;rfl);go_wp2_with (first |(refine wpList_load_row (P:=prog) rfl 211 (.tmp 1) rfl (b.heap.size+1) rfl 211 crcC (0,0) _ e underlying211 rfl q ?_)|(refine wpList_store_row (P:=prog) rfl 211 (.tmp 0) (.tmp 20) rfl b.heap.size crcC rfl rfl 211 (tabC 0 0) k q (by rw [aIp,rV]) w ?_));exact aIm rfl (setRow_heap wr b.heap.size _ crcC _ _ k) q (below_setRow u nL _)
def aFU (f:Nat) (D:f < 4294967296) {p} {e:Nat} (x:Nat) {b g} (u:Rd g g.heap.size 1 p e (b.map bv)) (T:e<=1099511627776):
 Calls prog 129 #[.int .u32 f,.slice p e x] g λq I=>q=.returned (.int .u32 (aDi f b:Nat))/\Below g.heap.size g I:=by
 have O:b.length=e:=by have:=u.1;simpa using this
 have F:(prog.info? 211).map (·.size)=some crcC.size:=by rw [rV];kernel_rfl
 have C:crcC.all (·.oneCell')=true:=by unfold crcC lW;rw [zFQ];intro c k;rw [List.mem_toArray,zAy] at k;obtain ⟨V,_,rfl⟩:=k;rfl
 go_enter func129,ntmps129;go_wp2_with fail;refine (aD6 _).mono ?_;rintro q w1 ⟨rfl,s⟩;go_wp2_with (refine wpList_store_row (P:=prog) rfl 211 (.tmp 5) (.tmp 8) rfl w1.heap.size crcC rfl rfl 211 Tryz.zeroCells211 (heap_alloc_new _ _) F (by rw [rV];kernel_rfl) C ?_;rw [World.setRow_alloc_new]);rw [aJW D];have A:=s.size;go_loopw [0,13] (λc i wr=>∃a:Nat,a<=e/\i=.int .i64 a/\c=.int .u32 (mE (b.take a) (4294967295 - f):Nat)/\Bk wr w1.heap.size 211 crcC/\Below g.heap.size g wr) (λ_ i _=>e -(intOf i).toNat)
 case atStart=>exact ⟨0,by omega,rfl,by rw [zDN];rfl,kd _ _ _,s.alloc A _⟩
 case round=>
  obtain ⟨a,Q,rfl,rfl,t,n⟩:=hrel;by_cases B:a < e
  .obtain ⟨J,U,W,rfl,M,j,y⟩:=(u.below n).get B;rw [zAf] at j;obtain ⟨d,w⟩:∃d,b[a]?=some d:=⟨_,zAa oM⟩;rw [w] at j;injection j with j;subst j;have E:b.take (a+1)=b.take a++ [d]:=(by rw [zAv,w];rfl);have m:=tK (b.take a) d (4294967295 - f);rw [<-E] at m;have v:=qH (b.take a) (4294967295 - f) oM;obtain ⟨c,k⟩:=eqx (mE (b.take a) (4294967295 - f));rw [k] at m v;rw [k];have o:=aLQ v d;have G:=d.toNat_lt;have r:bits .xor .u8 ((c:Int)% 256) (d.toNat:Int)=(((c % 256)^^^ d.toNat:Nat):Int):=(by have:((c:Int)% 256)=((c % 256:Nat):Int):=oM;rw [this,aE5 _ oM G]);obtain ⟨l,H⟩:=eqx ((c % 256)^^^ d.toNat);rw [H] at m o r;have K:wr.cell? ⟨w1.heap.size,l,none⟩=some (.int .u32 (kJ l:Nat)):=(t.cell l).trans (aLS o);have L:bits .xor .u32 ((kJ l:Nat):Int) ((c:Int)/ 256)=((kJ l ^^^(c / 256):Nat):Int):=(by have:((c:Int)/ 256)=((c / 256:Nat):Int):=oM;rw [this,iW _ _ (aCq o) oM]);unfold bv at y;go_wp2_with fail;go_roundw
   case rel=>exact ⟨a+1,by omega,by go_num,by rw [m],t,n⟩
   case measure=>exact zr
  .have z:a=e:=oM;subst z;rw [zAg (by omega:b.length<=a)];have r:=aJW (qH b (4294967295 - f) oM);go_wp2_with fail;go_ret;exact ⟨rfl,n⟩
def xL {A AP n c} (m) {b w} (s:Rd w w.heap.size 1 A n (b.map bv)) (q:n<=1099511627776) (r:Rd w w.heap.size 1 AP 1 [.slice A n c]):
 Calls prog 66 #[.slice AP 1 m] w λg v=>g=.returned (.int .u32 (lP b:Nat))/\Below w.heap.size w v:=by
 obtain ⟨l,t,z,rfl,p,f,j⟩:=r.get (k:=0) oM;injection f with f;subst f;go_enter func66,ntmps66;go_wp2_with fail;go_loopw [3,8] (λu i wr=>∃a:Nat,a<=1/\i=.int .i64 a/\u=.int .u32 ((if a=0 then 0 else lP b):Nat)/\Below w.heap.size w wr) (λ_ i _=>1 -(intOf i).toNat)
 case atStart=>exact ⟨0,by omega,rfl,rfl,kg _ _⟩
 case round=>
  obtain ⟨a,x,rfl,rfl,d⟩:=hrel;by_cases y:a < 1
  .have e:a=0:=oM;subst e;have j:wr.cell? ⟨l,t,none⟩=some (.slice A n c):=(d.cell p).trans j;rw [zBx rfl];go_wp2_with fail;refine (aFU 0 oM c ((s.below d).mono d.size) q).mono ?_;rintro g w1 ⟨rfl,o⟩;go_wp2_with fail;go_roundw
   case rel=>exact ⟨1,by omega,rfl,rfl,d.trans (o.mono d.size)⟩
   case measure=>simp [intOf]
  .have e:a=1:=oM;subst e;rw [zBw oM];go_wp2_with fail;go_ret;exact ⟨rfl,d⟩
def aAV {B gk L i w} (d:WalkAt w B gk L) (e:i < L.length):
 Calls prog 112 #[gk,(i:Int)] w λa c=>a=.returned (.bool true)/\w=c:=by
 obtain ⟨f,b⟩:=eqx L.length;rw [b] at e;have g:(i:Int) < f:=oM;go_enter func112,ntmps112;go_wp2_with fail;refine (mH d).mono ?_;rintro a c ⟨rfl,rfl⟩;rw [b];go_wp2_with fail;go_ret;exact ⟨rfl,rfl⟩
def oO {b gk:Nat} {a} {f d:Nat} {g} (E:WalkAt g b gk a) (y:a[f]?=some d) (v:∀D∈a,D < 257) (p:a.length<=1000):
 Calls prog 110 #[gk,(f:Int)] g λl X=>l=.returned (.int .i64 (cR a d f:Nat))/\VB b g X:=by
 have x:=(zAc.1 y).1;have H:d < 257:=v _ (zAd y);have G:=E;obtain ⟨k,a7,u,F,O⟩:=E;have I:=u.cell 0;have aa:=u.lt;obtain ⟨n,z⟩:=eqx (cR a d f);obtain ⟨r,A⟩:∃W,a.countP (λD=>decide (D < d))=W:=⟨_,rfl⟩;obtain ⟨t,C⟩:=eqx ((a.take f).count d);have R:r+t=n:=by rw [<-A,<-C,<-z];rfl
 have a8:r<=1000:=by rw [<-A];exact zAk zBh p
 have a9:t<=1000:=by rw [<-C];exact zAk zBv (by rw [zAj];omega)
 rw [z];clear O z;go_enter func110,ntmps110;go_wp2_with fail;refine (aAV (B:=b) (gk:=gk) (L:=a) (i:=f) (w:=g) G x).mono ?_;rintro l w1 ⟨rfl,rfl⟩;go_wp2_with fail;refine (eR (B:=b) (gv:=k) (L:=a) (w:=g) f d F x (zAc.1 y).2 v p).mono ?_;rintro l o ⟨rfl,q⟩;have P:=G.b q.1;have M:=q.1.d u dC dC;have N:=F.b q.1;clear I;go_wp2_with fail;refine wp_region_any kR<|aQ (S:=(VB b)) (V:=(Vs [is gk,is (d:Int),is (r:Int),is gk,is gk,is gk,is k,is (f:Int),is (d:Int),is (t:Int),is (n:Int),is (n:Int)])) [20,21,22,23,24,25,26,27,28,29,30,4] _ rfl kR vR (λ_ _=>VisK.trans) (dI tA0) ?_ ?_
 .refine aL<|pH 0 (.pointer (some gk))<|pH 5 (.int .i64 d)<|sC (λ_ j c _ _ _ e _ _ _ m=>?_) ?_
  .have a0:_=_:=e 0 20 kR rfl;have a1:_=_:=e 1 21 kR rfl;replace c:(VB b) o j:=bD c;go_simp;refine (jQ (B:=b) (gk:=gk) (L:=a) (s:=d) (w:=j) (P.b c.1) H p).mono ?_;rintro l Z ⟨rfl,Q⟩;rw [A];exact m _ _ (kc Q) rfl
  refine pH 0 (.pointer (some gk))<|pV 3 23<|pV 4 24<|pL 5 25 (λj c=>have c:(VB b) o j:=bD c;(((c.1.d M dC dC).cell 0).trans rfl:j.cell? gk=some (.pointer (some k)))) ?_;refine pH 1 (.int .i64 f)<|pH 5 (.int .i64 d)<|sC (λ_ j c _ _ _ e _ _ _ m=>?_) ?_
  .have a3:_=_:=e 6 26 kR rfl;have a4:_=_:=e 7 27 kR rfl;have a5:_=_:=e 8 28 kR rfl;replace c:(VB b) o j:=bD c;go_simp;refine (iZ (B:=b) (gv:=k) (L:=a) (s:=d) (w:=j) f (N.b c.1) H (zCm x) v p).mono ?_;rintro l Z ⟨rfl,U⟩;rw [C];exact m _ _ U rfl
  refine sC (λ_ _ _ _ _ _ e _ _ _ m=>?_) ?_
  .have a2:_=_:=e 2 22 kR rfl;have a6:_=_:=e 9 29 kR rfl;have ab:IntKind.i64.wrap (r+t)=(n:Int):=(by rw [wI0];have:=R;omega);go_simp;exact m _ _ vR rfl
  refine pV 10 30 ?_;exact aB
 .intro K Y c e;replace c:(VB b) o Y:=bD c;have J:K (.tmp 4)=.int .i64 n:=e 11 4 rfl;simp only [zqq];rw [J];clear e;have T:=q.trans c;go_wp2_with fail;go_ret;exact ⟨rfl,T⟩
def aDK {t c n u v w g d:Nat} (a:Nat) {f k} (o:k.ownsRow t 121 2 (.slice (some c) n u) n (bU f)) (y:a < f.length) (z:Bk k v 3 #[(g:Int)]) (A:Bk k w 3 #[(d:Int)]) (D:aF f a<=1000000000000):
 Calls prog 161 #[.pointer (some ⟨c,a*2,none⟩),v,w] k λC O=>C=.returned (.tuple #[])/\O.ownsRow t 121 2 (.slice (some c) n u) n (bU (f.set a (mvR g d (aF f a),aS f a)))/\Keep (λi=>i=c) k O:=by
 obtain ⟨N,T⟩:=cL f a y;have R:f.length=n:=by have x:=o.1;rw [dO] at x;omega
 have P:=(kh o (a*2) oM).trans N;have a4:k.cell? v=some (.int .i64 g):=(z.cell 0).trans rfl;have a5:k.cell? w=some (.int .i64 d):=(A.cell 0).trans rfl;obtain ⟨V,r⟩:=fE o;have X:=r.frozen (a*2);have Y:=r.lt;have Z:=z.lt;have a0:=A.lt;have a2:v≠c:=Bk.ne z r dC;have a3:w≠c:=Bk.ne A r dC;have L:=mW y;have M:=λe=>mA e y;obtain ⟨b,G⟩:=eqx (aF f a);rw [G] at P L D;rw [G];have H:∀e:Nat,(k.setCell ⟨c,a*2,none⟩ (.int .i64 e)).ownsRow t 121 2 (.slice (some c) n u) n (bU (f.set a (e,aS f a))):=λe=>by have:=(kk o (a*2) (.int .i64 e)).1;rwa [M] at this
 have S:∀J e:Nat,((k.setCell ⟨c,a*2,none⟩ (.int .i64 J)).setCell ⟨c,a*2,none⟩ (.int .i64 e)).ownsRow t 121 2 (.slice (some c) n u) n (bU (f.set a (e,aS f a))):=λJ e=>by have x:=(kk (kk o (a*2) (.int .i64 J)).1 (a*2) (.int .i64 e)).1;rw [List.set_set,M] at x;exact x
 have a1:∀e:Value,Keep (λi=>i=c) k (k.setCell ⟨c,a*2,none⟩ e):=λe=>ka (F:=λi=>i=c) (ke _ _) (p:=⟨c,a*2,none⟩) (.inl rfl) _;clear y z A N T r R G;have s:∀e:Nat,mvR g d b=e->f.set a (mvR g d b,aS f a)=f.set a (e,aS f a):=λe C=>by rw [C]
 by_cases K:b=g
 .subst K;have l:mvR b d b=d:=(by unfold mvR;rw [zBx rfl]);rw [l];clear s;go_enter func161,ntmps161;go_wp2_with fail;go_quiet (fail);go_wp2_with fail;refine bodyPost_ret (results_none rfl _ _ _) rfl ?_;exact ⟨rfl,uI (H d) rfl,(ka (F:=λi=>i=c) ((ke _ _).drewN _) (p:=⟨c,a*2,none⟩) (.inl rfl) _)⟩
 .have U:((b:Int)==g)=false:=(by rw [zCb];omega);have m:mvR g d b=inR (bN b g) d:=(by unfold mvR;rw [zBw K]);by_cases B:g < b
  .obtain ⟨j,E⟩:∃j,b=j+1:=⟨b - 1,by omega⟩;have b1:=zy ((b:Int) > g);have W:IntKind.i64.wrap (b - 1)=(j:Int):=zu;have I:bN b g=j:=(by unfold bN;rw [zBx B];omega);rw [I] at m;by_cases q:d<=j
   .have b2:=zy ((j:Int)>=d);have Q:wrap64 (j+1)=(b:Int):=(by rw [dU oM oM];omega);have l:mvR g d b=b:=(by rw [m];unfold inR;rw [zBx q];exact E.symm);rw [l];clear s m I D E;go_enter func161,ntmps161;go_wp2_with fail;go_quiet (fail);go_wp2_with fail;go_quiet (fail);go_wp2_with fail;go_quiet (fail);go_wp2_with fail;go_end0;exact ⟨rfl,uI (S j b) rfl,(ka (F:=λi=>i=c) (Keep.drewN (ka (F:=λi=>i=c) ((ke _ _).drewN _) (p:=⟨c,a*2,none⟩) (.inl rfl) _) _) (p:=⟨c,a*2,none⟩) (.inl rfl) _)⟩
   .have b2:=zn ((j:Int)>=d);have l:mvR g d b=j:=(by rw [m];unfold inR;rw [zBw q]);rw [l];clear s m I D E;go_enter func161,ntmps161;go_wp2_with fail;go_quiet (fail);go_wp2_with fail;go_quiet (fail);go_wp2_with fail;go_quiet (fail);go_wp2_with fail;go_end0;exact ⟨rfl,uI (H j) rfl,Keep.drewN (ka (F:=λi=>i=c) ((ke _ _).drewN _) (p:=⟨c,a*2,none⟩) (.inl rfl) _) _⟩
  .have b1:=zn ((b:Int) > g);by_cases q:d<=b
   .have b2:=zy ((b:Int)>=d);have Q:wrap64 (b+1)=((b+1:Nat):Int):=(by rw [dU oM oM];omega);have l:mvR g d b=b+1:=(by rw [m];unfold bN;rw [zBw B];unfold inR;rw [zBx q]);rw [l];clear s m;go_enter func161,ntmps161;go_wp2_with fail;go_quiet (fail);go_wp2_with fail;go_quiet (fail);go_wp2_with fail;go_quiet (fail);go_wp2_with fail;go_end0;exact ⟨rfl,uI (H (b+1)) rfl,(ka (F:=λi=>i=c) ((ke _ _).drewN _) (p:=⟨c,a*2,none⟩) (.inl rfl) _)⟩
   .have b2:=zn ((b:Int)>=d);have l:mvR g d b=b:=(by rw [m];unfold bN;rw [zBw B];unfold inR;rw [zBw q]);rw [l,L];clear s m;go_enter func161,ntmps161;go_wp2_with fail;go_quiet (fail);go_wp2_with fail;go_quiet (fail);go_wp2_with fail;go_quiet (fail);go_wp2_with fail;go_end0;exact ⟨rfl,o,(((ke _ _).drewN _).drewN _).drewN _⟩
def yV {o j s k l m n:Nat} {f w x v} {q p:Nat} {d c u r g} (z:PermAt g o j s f w x v q p d c u r) (G:d.Nodup) (F:d.length<=1000000) (I:Bk g k 3 #[(m:Int)]) (D:∀b,f.ownBlock=some b->b≠k) (J:Bk g l 3 #[(n:Int)]) (E:∀b,f.ownBlock=some b->b≠l) (A:∀a,a∈d->aF c a<=1000000000000/\aS c a<=1000000000000):
 Calls prog 154 #[j,.func (.func 161) #[] #[k,l]] g λe y=>e=.returned (.tuple #[])/\Keep (λb=>f.ownBlock=some b) g y/\∃i,i.length=c.length/\(∀a,a∈d->(aF i a,aS i a)=(mvR m n (aF c a),aS c a))/\PermAt y o j s f w x v q p d i u r:=
 qV (λL K=>(mvR m n L,K)) z G F A (mM func161 kR kR) λ_ _ _ a _ _ t H B C=>aDK a H B (t.d I λe=>D _ e rfl) (t.d J λe=>E _ e rfl) C.1
structure LiveG (w:World) (Bw gl gk gp rate n:Nat) (L:List Nat) (pr:List (Nat×Nat)):Prop where
 a:∃mv:Int,Bk w gl 89 #[gk,gp,(rate:Int),(mv:Int)]
 walk:WalkAt w Bw gk L
 perm:PermR w gp n n pr
def LiveG.b {k w' c e gk f j g d i} (a:LiveG k c e gk f j g d i) (b:Vis k w'):LiveG w' c e gk f j g d i:=by
 obtain ⟨m,l⟩:=a.a;exact ⟨⟨m,b.d l dC dC⟩,a.walk.b b,a.perm.b b⟩
def LiveG.ai {e a c gk f k i b j} (d:LiveG e a c gk f k i b j):LvW e a c b:=by
 obtain ⟨l,g⟩:=d.a;exact ⟨gk,_,_,_,g,d.walk⟩
def LiveG.mono {j b B' d gk e i f c g} (a:LiveG j b d gk e i f c g) (hB:B'<=b):LiveG j B' d gk e i f c g:=⟨a.a,a.walk.mono hB,a.perm⟩
def LiveG.lt {b c a gk e j g d i} (f:LiveG b c a gk e j g d i):a < b.heap.size:=f.ai.lt
def xU (a):a=(List.range a.length).map λc=>(aF a c,aS a c):=by
 apply zDs;intro d;rw [zAf];by_cases b:d < a.length;rw [zCk b,zAa b];unfold aF aS;rw [zEq,zAb,zAa b];rfl;rw [zBg oM,zBg (by simpa using b)];rfl
def LiveAt.g {r d i gk j f o p q c l m e a n} (b:LiveAt r d i gk j f o p q c l m e a n) (u:a.Pairwise (λs t=>s.1 < t.1)) (k:a.length<=1000):LiveG r d i gk j m l e a:=
 ⟨⟨0,b.a⟩,b.walk,c,f,o,p,q,_,_,a,n, [],b.perm,aCZ u,k,by rw [zCi];exact k,xU a⟩
def zZ {rs rate n} (e:n<=rs.length):∀a∈dE rs rate n,rs[a.1]?=some a.2:=λa c=>by
 obtain ⟨d,b⟩:=rA c;rw [b,zAb,zAa (show a.1 < rs.length by omega)];rfl
def aIG {c b rate} (a:IsSuf (aG c) b):∃g∈dE b rate (c.length+1),g.2=0:=by
 obtain ⟨f,e,d⟩:=a.row (p:=0) (by rw [aO];omega);refine ⟨(f,0),(aKv _ _ _ _ _).2 ⟨?_,?_,Nat.zero_mod _⟩,rfl⟩;have:=a.len;rw [aO] at this;omega;rw [zAb,zAa e,d];rfl
def gP (o Z gk ag aB:Nat) {t rs C} {i p:Nat} (n) (f:LiveG n o Z gk ag aB (t.length+1) (aH (aG t) rs) C) (ay:∀c∈C,rs[c.1]?=some c.2) (e:IsSuf (aG t) rs) (aq:t.length<=895) (I:rs[i]?=some p):
 Calls prog 51 #[Z,(p:Int)] n λg aC=>g=.returned (.int .i64 i)/\VB o n aC:=by
 have K:rs.length=t.length+1:=by rw [e.len,aO]
 have r:(aH (aG t) rs).length=t.length+1:=by rw [bY,K]
 have au:p < t.length+1:=by have:=e.lt (zAd I);rwa [aO] at this
 have a6:=aEw e;obtain ⟨q,G⟩:=eqx t.length;have a8:∀a b:Nat,rs[a]?=some (b+1)->∃E y,(aH (aG t) rs)[a]?=some E/\cR (aH (aG t) rs) E a=y/\rs[y]?=some b:=λa b s=>by obtain ⟨z,X⟩:=zAc.1 s;have ak:b+1 < (aG t).length:=e.lt (zAd s);obtain ⟨y,a0,Y⟩:=e.row (p:=b) oM;have a3:=fA t;have am:=uT a3 z X (by rw [aO] at ak;omega);exact ⟨(aG t).getD b 0,y,zAc.2 ⟨_,am⟩,lf e a3 z a0 X Y,zAc.2 ⟨a0,Y⟩⟩
 have a5:∀a b:Nat,rs[a]?=some b->b<=t.length/\a<=t.length:=λa b s=>by have j:=e.lt (zAd s);rw [aO] at j;have F:=(zAc.1 s).1;omega
 have a9:∀a,rs[a]?=some p->a=i:=λa z=>zC e z I;rw [G] at f;rw [G] at r au aq K a6 a5;have aF:decide ((p:Int) < 0)=false:=zs
 have ar:¬q < p:=oM;have aI:=zBy ar;have W:=(dR (eX t) (rs:=rs));obtain ⟨aK,A⟩:=f.a;have aa:=A.cell 0;have ab:=A.cell 1;have an:=A.lt;clear e I G K A;go_enter func51,ntmps51;go_wp2_with fail;refine (cD f.ai r oM).mono ?_;rintro g w1 ⟨rfl,rfl⟩;go_wp2_with fail;refine (cD f.ai r oM).mono ?_;rintro g w1 ⟨rfl,rfl⟩;go_wp2_with fail;have L:=sV p f.perm;unfold xJ at L;refine L.mono ?_;rintro g aD ⟨aN,rfl,x,a1⟩;clear L;have R:VB o n aD:=kc a1;have F:=f.b R.1;obtain ⟨aL,B⟩:=F.a;have ad:=B.cell 0;have ae:=B.cell 1;have ap:=B.lt;clear a1 aa ab an B;rcases x with ⟨x,_⟩|⟨⟨aJ,m⟩,al,x,J,_⟩
 .subst x;go_wp2_with fail;go_loopw [5,6] (λc V wr=>∃a d:Nat,p<=a/\a<=q/\rs[d]?=some a/\c=.int .i64 a/\V=.int .i64 d/\VB o n wr) (λc _ _=>(intOf c).toNat)
  case atStart=>exact ⟨q,0,by omega,zAs _,a6,rfl,rfl,R⟩
  case round=>
   obtain ⟨a,d,av,ah,v,rfl,rfl,l⟩:=hrel;have j:=f.b l.1;obtain ⟨aA,k⟩:=j.a;have ac:=k.cell 0;have ao:=k.lt;clear k;by_cases ai:p < a
   .obtain ⟨b,u⟩:∃b,a=b+1:=⟨a - 1,by omega⟩;obtain ⟨E,T,O,P,Q⟩:=a8 d b (by rw [<-u];exact v);have af:IntKind.i64.wrap (a - 1)=(b:Int):=zu;have H:p<=b:=oM;have aj:b < a:=oM;clear u;go_wp2_with fail;refine (oO j.walk O W (by rw [r];omega)).mono ?_;rintro g aE ⟨rfl,w⟩;rw [P];have S:=l.trans w;clear w;go_wp2_with fail;go_roundw
    case rel=>exact ⟨b,T,H,by omega,Q,by go_num,by first | rfl | trivial,S⟩
    case measure=>exact zr
   .obtain rfl:a=p:=oM;have M:=a9 d v;subst M;go_wp2_with fail;go_ret;exact ⟨rfl,l⟩
 .subst x;have J:p<=m:=J;have a4:∃c∈C,c.2=m:=⟨_,al,rfl⟩;have aw:=zy ((m:Int)>=0);go_wp2_with fail;have N:=vK F.perm a4;unfold aBa at N;refine N.mono ?_;rintro g aM ⟨U,a7,rfl,a2⟩;have D:=ay _ a7;have D:rs[U]?=some m:=D;have az:=R.below a2;have ax:=(a5 U m D).1;clear N a7 a2 a4 ad ae ap aw;go_wp2_with fail;go_loopw [5,6] (λc V wr=>∃a d:Nat,p<=a/\a<=q/\rs[d]?=some a/\c=.int .i64 a/\V=.int .i64 d/\VB o n wr) (λc _ _=>(intOf c).toNat)
  case atStart=>exact ⟨m,U,J,ax,D,rfl,rfl,az⟩
  case round=>
   obtain ⟨a,d,av,ah,v,rfl,rfl,l⟩:=hrel;have j:=f.b l.1;obtain ⟨aA,k⟩:=j.a;have ac:=k.cell 0;have ao:=k.lt;clear k;by_cases ai:p < a
   .obtain ⟨b,u⟩:∃b,a=b+1:=⟨a - 1,by omega⟩;obtain ⟨E,T,O,P,Q⟩:=a8 d b (by rw [<-u];exact v);have af:IntKind.i64.wrap (a - 1)=(b:Int):=zu;have H:p<=b:=oM;have aj:b < a:=oM;clear u;go_wp2_with fail;refine (oO j.walk O W (by rw [r];omega)).mono ?_;rintro g aE ⟨rfl,w⟩;rw [P];have S:=l.trans w;clear w;go_wp2_with fail;go_roundw
    case rel=>exact ⟨b,T,H,by omega,Q,by go_num,by first | rfl | trivial,S⟩
    case measure=>exact zr
   .obtain rfl:a=p:=oM;have M:=a9 d v;subst M;go_wp2_with fail;go_ret;exact ⟨rfl,l⟩
def TabW.G {a b d} (e:TabW b) (i:VB a b d) (hB:0 < a) (g:0 < b.heap.size):TabW d:=
 λc f=>(i.2.cell (p:=⟨0,c,none⟩) g (by show ¬(a<=0);omega)).trans (e c f)
def aFv {g m u E G:Nat} {lv:Nat} (J:Int) {z} {v r n:Nat} {c} (ht:TreeAt c m z) (N:Bk c u 3 #[(r:Int)]) (Q:Bk c E 3 #[(n:Int)]) (R:Bk c G 3 #[(lv:Int)]) (ab:lv < 9) (ac:n < 257) (W:z[v]?=some (iF n lv)) (V:(z.take v).count (iF n lv)=r) (L:TabW c) (hB:0 < g) (a8:g<=m):
 Calls prog 167 #[.agg #[m,(lv:Int),(J:Int)],u,E,G] c λK am=>K=.returned (.tuple #[])/\
  ∃w1,VB g c w1/\Bk w1 u 3 #[(r:Int)]/\am=w1.setCell u (.int .i64 v):=by
 have ag:=N.lt;have ah:=Q.lt;have ai:=R.lt;have a0:0 < c.heap.size:=L.pos;obtain ⟨o,B⟩:=eqx (iF n lv);rw [B] at W V;obtain ⟨a1,P⟩:=eqx (Obj.cells #[m,(lv:Int),(J:Int)] 184);have q:=(kg c.heap.size c).alloc nL a1;have I:=kd c 184 #[m,(lv:Int),(J:Int)];rw [P] at I;have aj:=I.lt;obtain ⟨x,M⟩:=eqx (c.alloc a1);have Y:=ht.below q;have O:=N.below q ag;have X:=Q.below q ah;have Z:=R.below q ai;have T:=L.below q a0;rw [M] at q I Y O X Z T aj;have ak:=q.size;obtain ⟨a5,a6,a4⟩:=hqq3 B P M;clear B ht N Q R L P M;go_enter func167,ntmps167;go_wp2_with fail;rw [a6.out,a4.out];refine wp_region_any kR<|cC (pre:=(λ_=>True)) (pJ:=(is (v:Int))) g 7 [5,6,7,8,9,10,11] (λ_=>False) 6 [] [is c.heap.size,is m,is (r:Int),is (n:Int),is (lv:Int),is (.bool o),cO] _ rfl dC kR kR kR (trivial) (λ_ _ _ _ _=>trivial) (jN _ _) tA0 ?_ ?_
 .refine bB<|pH3 4 (.pointer (some c.heap.size))<|sC3 (λ_ d a _ _ _ _ l _ _ _ e=>?_) ?_
  .replace a:VFB g (λ_=>False) x d:=fD a;have av:_=_:=l 0 5 kR rfl;have S:d.cell? c.heap.size=some (.pointer (some m)):=((a.1.d I dC dC (λk=>k)).cell 0).trans rfl;go_simp;exact e _ _ (aI vR) rfl
  refine sC3 (λt d a _ _ _ C _ _ _ _ e=>?_) ?_
  .replace a:VFB g (λ_=>False) x d:=fD a;have ap:t (.tmp 1)=.pointer (some u):=C 1 kR;have S:d.cell? u=some (.int .i64 r):=((a.1.d O dC dC (λk=>k)).cell 0).trans rfl;go_simp;exact e _ _ (aI vR) rfl
  refine sC3 (λt d a _ _ _ C _ _ _ _ e=>?_) ?_
  .replace a:VFB g (λ_=>False) x d:=fD a;have ar:t (.tmp 2)=.pointer (some E):=C 2 kR;have S:d.cell? E=some (.int .i64 n):=((a.1.d X dC dC (λk=>k)).cell 0).trans rfl;go_simp;exact e _ _ (aI vR) rfl
  refine sC3 (λt d a _ _ _ C _ _ _ _ e=>?_) ?_
  .replace a:VFB g (λ_=>False) x d:=fD a;have au:t (.tmp 3)=.pointer (some G):=C 3 kR;have S:d.cell? G=some (.int .i64 lv):=((a.1.d Z dC dC (λk=>k)).cell 0).trans rfl;go_simp;exact e _ _ (aI vR) rfl
  refine sC3 (λ_ d _ _ _ _ _ l _ _ _ e=>?_) ?_
  .have ay:_=_:=l 3 8 kR rfl;have az:_=_:=l 4 9 kR rfl;go_simp;refine (oQ (s:=n) (lv:=lv) d ac ab).mono ?_;rintro K an ⟨rfl,aa⟩;rw [a5.out];exact e _ _ (aI (kc aa)) rfl
  refine sC3 (λ_ d a _ _ _ _ l _ _ _ e=>?_) ?_
  .replace a:VFB g (λ_=>False) x d:=fD a;have aw:_=_:=l 1 6 kR rfl;have ax:_=_:=l 2 7 kR rfl;have aq:_=_:=l 5 10 kR rfl;go_simp;have y:=VFB.y a (λo _ k=>k);have ad:=Y.b y.1;have a9:=T.G y hB (zAl a0 ak);refine (aAY (gt:=m) (bs:=z) (p:=v) (j:=r) (b:=o) (w:=d) ad W V a9 oM).mono ?_;rintro K an ⟨rfl,ae⟩;exact e _ _ (aI (ae.mono λo B=>by rcases B with rfl;exact a8)) rfl
  exact aB
 .intro t D A a l U;replace a:VFB g (λ_=>False) x D:=fD a;have a7:t (.tmp 11)=.int .i64 v:=l 6 11 dC rfl;obtain ⟨al,a3⟩:=U 6 dC;have a2:(is (v:Int)) al D:=a3;clear a3 U;simp only [zqq];rw [a7];clear l;have y:=VFB.y a (λo _ k=>k);have H:=y.1.d O dC dC;have ao:D.cell? u=some (.int .i64 r):=(H.cell 0).trans rfl;have aA:=H.frozen 0;have af:=(kc (F:=λo=>g<=o) q).trans y;have aC:=H.lt;clear y a a2;change wpAny prog Region.Mode.any _ _ (1+A) (bT 7 8) _ D;rw [zCt 1 A];refine aY (f:=A) (i:=7) kR ?_;refine bJ rfl rfl ?_;generalize e:wpAny prog _ _ _ A _=K5;go_simp;subst e;refine bG kR ?_;go_wp2_with fail;go_end0;exact ⟨rfl,D,af,H,rfl⟩
def aJK {B gv gt gn gs gw:Nat} {S:Nat->Value} {n v:Int} (m:Int) {lv:Nat} {bs} {r j s:Nat} {w0 w} (C:Bk w gv 181 (wcells S n v)) (k:TreeAt w0 gt bs) (l:Vis w0 w) (x:w0.heap.size<=gn) (d:Bk w gn 3 #[(j:Int)]) (i:Bk w gs 3 #[(s:Int)]) (g:Bk w gw 3 #[(lv:Int)]) (y:lv < 9) (A:s < 257) (z:bs[r]?=some (iF s lv)) (u:(bs.take r).count (iF s lv)=j) (f:TabW w) (hB:0 < B) (t:B<=gv) (q:B<=gt) (p:B<=gn):
 Calls prog 146 #[gv,.agg #[gt,(lv:Int),(m:Int)],.func (.func 167) #[] #[gn,gs,gw]] w λe b=>e=.returned (.tuple #[])/\
  VisF (λc=>c=gn) w b/\Keep (λc=>B<=c) w b/\Bk b gn 3 #[(r:Int)]:=
 aCF (mM func167 kR kR) C k l x d t p λD a=>(aFv m ((k.b l).below a) (d.below a d.lt) (i.below a i.lt) (g.below a g.lt) y A z u (f.below a f.pos) hB q).mono λe b o=>o
def VisF.Q {d i j b} {e:Nat->Value} {f g} (k:VisF d i j) (l:Bk i b 181 (wcells e f g)) (m:¬d b):∃c,Bk j b 181 (wcells e f c):=by
 rcases VisF.bu k l m with a |⟨c,a⟩;exact ⟨g,a⟩;rw [eS] at a;exact ⟨c,a⟩
def aNP (d:Value) (c:World):Nat:=match d with
 | .pointer (some a)=>match c.cell? a with
  | some b=>(intOf b+1).toNat
  | none=>0
 | _=>0
def aEP {b a c} (d:b.cell? a=some (.int .i64 c)):aNP (.pointer (some a)) b=(c+1).toNat:=by
 show (match b.cell? a with | some e=>(intOf e+1).toNat | none=>0)=_;rw [d];rfl
def aAR {B gv L r j s w} (d:WaveAt w B gv L) (a6:L[r]?=some s) (a4:(L.take r).count s=j) (ac:∀u∈L,u < 257) (bt:L.length<=1000) (bd:TabW w) (aA:0 < B):
 Calls prog 114 #[gv,(j:Int),(s:Int)] w λF bP=>F=.returned (.int .i64 r)/\VB B w bP:=by
 have T:=(zAc.1 a6).1;have am:=(zAc.1 a6).2;have U:s < 257:=by rw [<-am];exact ac _ (zBj T)
 have ag:(L.take r).count s < L.count s:=by
  have cc:L.count s=(L.take (r+1)).count s+(L.drop (r+1)).count s:=by rw [<-zCc,zAu]
  have cd:(L.take (r+1)).count s=(L.take r).count s+1:=by rw [zAv,a6,zCc];simp
  omega
 have az:=nG (L:=L) (k:=r) (s0:=s) (zCm T) ac U;have ab:=aCu L r s;rw [a4] at ab ag;have bj:∀lv,(aM L lv (bF s lv))[gO L r s lv]?=some (iF s lv):=λlv=>by have:=aDq (L:=L) (k:=r) lv T;rw [am] at this;exact this
 have aK:=d;obtain ⟨bc,K,bN,D,bw⟩:=d;obtain ⟨C,aj⟩:=eqx L.length;have ak:(L.take C).count s=L.count s:=by rw [<-aj,zFf]
 obtain ⟨aq,aH⟩:=eqx (L.count s);rw [aH] at ak ag;rw [aj] at D T;have br:=D.lt;have bo:decide ((j:Int) < 0)=false:=zs
 have a1:=((kg w.heap.size w).alloc nL (.cells #[(j:Int)] 3)).alloc zs (.cells #[(s:Int)] 3);have H:=(kd w 3 #[(j:Int)]).alloc (.cells #[(s:Int)] 3);have q:=kd (w.alloc (.cells #[(j:Int)] 3)) 3 #[(s:Int)];rw [sZ0] at q;obtain ⟨N,ad⟩:=eqx ((w.alloc (.cells #[(j:Int)] 3)).alloc (.cells #[(s:Int)] 3));obtain ⟨c,a2⟩:=eqx w.heap.size;obtain ⟨x,aF⟩:=eqx (c+1);rw [ad] at a1 H q;rw [a2] at H;rw [a2,aF] at q;have cp:=H.lt;have cq:=q.lt;obtain ⟨b0,aX⟩:=hqq2 ab az;have b4:=(aK.b (kb a1));have b5:=(D.below a1 br);have au:=D;have b3:=lhd ak;have b1:=(show ¬aq<=j by omega);have Z:=H;have J:=q;have aY:=lhd ad;have bQ:=a2;have bR:=aF;clear ab az aK D ak aH ag a4 a6 am H q ad T;go_enter func114,ntmps114;go_wp2_with fail;rw [aY.out];refine wp_region_any kR<|aQ (S:=(VB B)) (V:=(Vs [is gv,is (.bool false),is (.bool false),is (j:Int),is (.bool false),is (.bool false),is (.bool false),is (j:Int),is gv,is gv,is gv,is (.pointer (some ⟨gv,9,none⟩)),is (C:Int),is (s:Int),is (aq:Int),is (.bool false),is (.bool false)])) [8,9,10,11,12,13,14,15,16,17,18,19,20,21,22,23,24] _ rfl kR vR (λ_ _=>VisK.trans) (dI tA0) ?_ ?_
 .refine aL<|pH 0 (.pointer (some gv))<|pV 0 8<|pV 1 9<|sG 10 false (λl b a _ _ t _ _ _ _ f=>?_) ?_
  .have aw:l (.tmp 4)=.pointer (some c):=t 4 kR;replace a:(VB B) N b:=bD a;have Y:b.cell? c=some (.int .i64 j):=((a.1.d Z dC dC).cell 0).trans rfl;go_simp;exact f _ _ vR rfl
  refine gV 10 false 3 11<|pW 2 10 4 12<|pV 5 13<|sG 14 false (λl b a _ _ t _ _ _ _ f=>?_) ?_
  .have aw:l (.tmp 4)=.pointer (some c):=t 4 kR;replace a:(VB B) N b:=bD a;have Y:b.cell? c=some (.int .i64 j):=((a.1.d Z dC dC).cell 0).trans rfl;go_simp;exact f _ _ vR rfl
  refine gH 14 false 0 (.pointer (some gv))<|gH 14 false 0 (.pointer (some gv))<|gV 14 false 9 17<|gV 14 false 10 18<|sG 14 false (λ_ b a _ _ _ g _ _ _ f=>?_) ?_
  .have bZ:_=_:=g 11 19 kR rfl;replace a:(VB B) N b:=bD a;obtain ⟨M,W⟩:=a.1.Q b5;have b8:b.cell? ⟨gv,9,none⟩=some (.int .i64 C):=(W.cell 9).trans (cK K C M).2.2.2.2.2.2.2.2.2.1;go_simp;exact f _ _ vR rfl
  refine sG 14 false (λl b a _ _ t _ _ _ _ f=>?_) ?_
  .have ax:l (.tmp 5)=.pointer (some x):=t 5 kR;replace a:(VB B) N b:=bD a;have Y:b.cell? x=some (.int .i64 s):=((a.1.d J dC dC).cell 0).trans rfl;go_simp;exact f _ _ vR rfl
  refine sG 14 false (λ_ b a _ _ _ g _ _ _ f=>?_) ?_
  .have bY:_=_:=g 8 16 kR rfl;have c0:_=_:=g 12 20 kR rfl;have c1:_=_:=g 13 21 kR rfl;replace a:(VB B) N b:=bD a;go_simp;refine (iZ (B:=B) (gv:=gv) (L:=L) (s:=s) (w:=b) C (b4.b a.1) U (zCv aj.symm) ac bt).mono ?_;rintro F aU ⟨rfl,bA⟩;rw [b3.out];exact f _ _ bA rfl
  refine sG 14 false (λ_ _ _ _ _ _ g _ _ _ f=>?_) ?_
  .have bX:_=_:=g 7 15 kR rfl;have c2:_=_:=g 14 22 kR rfl;have bp:=b1;have cj:=zBy bp;go_simp;exact f _ _ vR rfl
  refine pW 6 14 15 23 ?_;exact aB
 .intro l y a g;replace a:(VB B) N y:=bD a;have b9:l (.tmp 24)=.bool false:=g 16 24 rfl;simp only [zqq];rw [b9];clear g;have ao:VB B w y:=(kc (a2 ▸ a1)).trans a;have H:=a.1.d Z dC dC;have q:=a.1.d J dC dC;have bx:=a.1.size;obtain ⟨a9,bh⟩:∃u,u=y:=⟨_,rfl⟩;subst bh;have bb:=kd a9 3 #[(8:Int)];have bm:=H.alloc (.cells #[(8:Int)] 3);have ah:=q.alloc (.cells #[(8:Int)] 3);have bz:=ao.alloc (.cells #[(8:Int)] 3);have aZ:=ah;have ce:B<=c:=oM;have ch:w.heap.size<=a9.heap.size:=ao.1.size;clear ah H q a ao Z J bo;go_wp2_with fail;go_loopw [7] (λu wr=>∃(o A:Nat) (Q:Int),A<=9/\Q=A - 1/\u=.pointer (some o)/\Bk wr o 3 #[(Q:Int)]/\Bk wr c 3 #[.int .i64 (gO L r s A:Nat)]/\Bk wr x 3 #[(s:Int)]/\VB B w wr/\x < o) (λu wr=>aNP u wr)
  case atStart=>exact ⟨a9.heap.size,9,8,by omega,by omega,rfl,bb,by rw [b0.out];exact bm,aZ,bz,by omega⟩
  case round=>
   obtain ⟨o,bI,Q,cl,bE,rfl,z,a3,q,I,ah⟩:=hrel;have av:wr.cell? o=some (.int .i64 Q):=(z.cell 0).trans rfl;rcases bI with _ | lv
   .have bH:=zn (Q>=0);have b7:wr.cell? c=some (.int .i64 (gO L r s 0:Nat)):=(a3.cell 0).trans rfl;rw [aX.out] at b7;clear a3 q z;go_wp2_with fail;go_ret;exact ⟨rfl,I⟩
   .obtain rfl:Q=lv:=oM;have a5:lv < 9:=oM;have bH:=zy ((lv:Int)>=0);obtain ⟨a8,O,an⟩:=bw lv a5;obtain ⟨A,ai⟩:=eqx (2 ^ lv);obtain ⟨m,R⟩:=eqx (bF s lv);have aG:m < A:=(by rw [<-ai,<-R];exact nY (s:=s) lv U oM);rw [ai] at O an;obtain ⟨G,aa,aD,cm,cg⟩:=kj O oM;rw [aD] at O;obtain ⟨u,a7⟩:=eqx (gO L r s lv);obtain ⟨aV,aP⟩:=eqx (gO L r s (lv+1));have aO:=nH (lv:=lv) L r s a5;have aN:=bj lv;rw [R,a7,aP] at aO;rw [R,a7] at aN;rw [aP] at a3;have cn:(m:Int) < A:=oM;have bu:=I.1.own O dC dC;have ci:=O.lt;have bn:∀e,(Value.slice (some G) A aa).ownBlock=some e->e≠c:=λe af=>by have cf:G=e:=(by simpa [Value.ownBlock] using af);omega
    have ap:∃aT,Bk wr gv 181 (wcells K C aT):=I.1.Q au;obtain ⟨aT,ap⟩:=ap;have bf:=bd.G I aA oM;have co:=I.1.size;have ar:=(an m aG);obtain ⟨b2,b6⟩:=hqq2 R a7;have a0:=z;have J:=q;have aW:=lhd av;obtain ⟨E,bi⟩:∃u,u=wr:=⟨_,rfl⟩;subst bi;clear O an ai R a7 z q bE;go_wp2_with fail;refine wp_region_any kR<|cC (pre:=(λP=>Bk P c 3 #[(aV:Int)])) (pJ:=(λ_ P=>Bk P c 3 #[(u:Int)])) B 14 [29,30,31,32,33,34,35,36,37,38,39,40,41,42] (λe=>e=c) 13 [13] [is gv,is gv,is (lv:Int),is gv,is gv,is (.pointer (some ⟨gv,lv,none⟩)),is (.slice (some G) A aa),is (s:Int),is (lv:Int),is (m:Int),is (.pointer (some ⟨G,m*3,none⟩)),is (.agg #[.pointer (some ⟨a8 m,0,none⟩),(lv:Int),(m:Int)]),is (.func (.func 167) #[] #[c,x,o]),cO] _ rfl dC kR kR kR (a3) (λw1 P d _ X=>X.1.d d dC dC) (λ_ _ _ d X=>X.1.d d dC dC) tA0 ?_ ?_
    .refine bB<|pH3 0 (.pointer (some gv))<|pH3 0 (.pointer (some gv))<|sC3 (λl b a _ _ _ t _ _ _ _ f=>?_) ?_
     .replace a:VFB B (λe=>e=c) E b:=fD a;have ay:l (.tmp 7)=.pointer (some o):=t 7 kR;have Y:b.cell? o=some (.int .i64 lv):=((a.1.d a0 dC dC (λd=>absurd (show o=c from d) oM)).cell 0).trans rfl;go_simp;exact f _ _ (aI vR) rfl
     refine pV3 1 30<|pV3 3 32<|sC3 (λ_ _ _ _ _ _ _ g _ _ _ f=>?_) ?_
     .have c5:_=_:=g 4 33 kR rfl;have c4:_=_:=g 2 31 kR rfl;have ck:(lv:Int) < 9:=oM;go_simp;exact f _ _ (aI vR) rfl
     refine sC3 (λ_ b a _ _ _ _ g _ _ _ f=>?_) ?_
     .replace a:VFB B (λe=>e=c) E b:=fD a;have c6:_=_:=g 5 34 kR rfl;obtain ⟨M,W⟩:=a.1.Q ap (λd=>absurd (show gv=c from d) oM);have b8:b.cell? ⟨gv,lv,none⟩=some (.slice (some G) A aa):=(W.cell lv).trans ((vZ (i:=lv) K C M a5).trans (congrArg some aD));go_simp;exact f _ _ (aI vR) rfl
     refine sC3 (λl b a _ _ _ t _ _ _ _ f=>?_) ?_
     .replace a:VFB B (λe=>e=c) E b:=fD a;have ax:l (.tmp 5)=.pointer (some x):=t 5 kR;have Y:b.cell? x=some (.int .i64 s):=((a.1.d J dC dC (λd=>absurd (show x=c from d) oM)).cell 0).trans rfl;go_simp;exact f _ _ (aI vR) rfl
     refine sC3 (λl b a _ _ _ t _ _ _ _ f=>?_) ?_
     .replace a:VFB B (λe=>e=c) E b:=fD a;have ay:l (.tmp 7)=.pointer (some o):=t 7 kR;have Y:b.cell? o=some (.int .i64 lv):=((a.1.d a0 dC dC (λd=>absurd (show o=c from d) oM)).cell 0).trans rfl;go_simp;exact f _ _ (aI vR) rfl
     refine sC3 (λ_ b _ _ _ _ _ g _ _ _ f=>?_) ?_
     .have c7:_=_:=g 7 36 kR rfl;have c8:_=_:=g 8 37 kR rfl;go_simp;refine (mI (s:=s) lv b U oM).mono ?_;rintro F aU ⟨rfl,ae⟩;rw [b2.out];exact f _ _ (aI (kc ae)) rfl
     refine pW3 6 35 9 38<|sC3 (λ_ b a _ _ _ _ g _ _ _ f=>?_) ?_
     .replace a:VFB B (λe=>e=c) E b:=fD a;have c9:_=_:=g 10 39 kR rfl;have al:=aC bu λe bW af D=>a.1.d D dC dC (λd=>absurd (show e=c from d) (bn e af));obtain ⟨bK,bL,bM⟩:=gF a8 lv A m aG;have bS:b.cell? ⟨G,m*3,none⟩=_:=(kh al (m*3) oM).trans bK;have bU:b.cell? ⟨G,m*3+1,none⟩=_:=(kh al (m*3+1) oM).trans bL;have bV:b.cell? ⟨G,m*3+2,none⟩=_:=(kh al (m*3+2) oM).trans bM;go_simp;exact f _ _ (aI vR) rfl
     refine sC3 (λl _ _ _ _ _ t _ _ _ _ f=>?_) ?_
     .have aw:l (.tmp 4)=.pointer (some c):=t 4 kR;have ax:l (.tmp 5)=.pointer (some x):=t 5 kR;have ay:l (.tmp 7)=.pointer (some o):=t 7 kR;go_simp;exact f _ _ (aI vR) rfl
     refine sC3 (λ_ b a bg _ _ _ g _ _ _ f=>?_) ?_
     .replace a:VFB B (λe=>e=c) E b:=fD a;have bv:=bg rfl;have c3:_=_:=g 0 29 kR rfl;have ca:_=_:=g 11 40 kR rfl;have cb:_=_:=g 12 41 kR rfl;go_simp;have aJ:Vis w b:=(VisF.trans (VisF.C I.1) a.1).ak (λe D F=>by have:e=c:=F;omega);obtain ⟨M,W⟩:∃M,Bk b gv 181 (wcells K C M):=aJ.Q au;have q:=a.1.d J dC dC (λd=>absurd (show x=c from d) oM);have z:=a.1.d a0 dC dC (λd=>absurd (show o=c from d) oM);have be:TabW b:=λj a4=>(a.2.cell (p:=⟨0,j,none⟩) (by show 0 < E.heap.size;omega) (by show ¬(0=c∨B<=0);omega)).trans (bf j a4);refine (aJK (B:=B) (gv:=gv) (gt:=(a8 m)) (gn:=c) (gs:=x) (gw:=o) (S:=K) (n:=C) (v:=M) (lv:=lv) (bs:=(aM L lv m)) (r:=u) (j:=aV) (s:=s) (w0:=w) (w:=b) m W ar.2 aJ oM bv q z a5 U aN aO be aA bc ar.1 oM).mono ?_;rintro F aU ⟨rfl,bl,bq,ae⟩;exact f _ _ (lC ⟨bl,bq.mono λe _ d=>.inr d⟩) ae
     exact aB
    .intro l y ba a g aE;replace a:VFB B (λe=>e=c) E y:=fD a;obtain ⟨bO,aS⟩:=aE 13 dC;have aR:(λ_ P=>Bk P c 3 #[(u:Int)]) bO y:=aS;clear aS aE;simp only [zqq];clear g;change wpAny prog Region.Mode.any _ _ (0+ba) (bT 14 14) _ y;refine bG kR ?_;have q:=a.1.d J dC dC (λd=>absurd (show x=c from d) oM);have z:=a.1.d a0 dC dC (λd=>absurd (show o=c from d) oM);have bC:VB B w y:=⟨(VisF.trans (VisF.C I.1) a.1).ak (λe D F=>by have:e=c:=F;omega),I.2.trans (a.2.mono λe _ d=>by rcases d with d | d;(have:e=c:=d;omega);exact d)⟩;have bx:=a.1.size;have av:y.cell? o=some (.int .i64 lv):=(z.cell 0).trans rfl;have cr:=z.lt;clear z a;go_wp2_with fail;refine ⟨⟨y.heap.size,lv,(lv:Int) - 1,by omega,rfl,rfl,kd _ _ _,by rw [b6.out];exact aR.alloc _,q.alloc _,bC.alloc _,by omega⟩,?_⟩;have bJ:=((kd y 3 #[.int .i64 ((lv:Int) - 1)]).cell 0);rw [aEP (bJ.trans rfl),aEP aW];omega
end Go.Proofs.YtlghmcogeipojaaGreatDoor
