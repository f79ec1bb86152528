/- Lemmas of the walk. Conditions: each its own. -/
import Derived.Test.YtknjfpcdhdmghaaGreatDoorPt20
set_option linter.all false
set_option maxRecDepth 100000
set_option maxHeartbeats 4000000
open Go.Proofs.Tryz
namespace Go.Proofs.YtknjfpcdhdmghaaGreatDoor
open Go.RowKit
def aMl {e gk b:Nat} (lv q:Int) {j d} {c:Nat} {a} (ht:TreeAt a e d) (g:Bk a gk 3 #[(c:Int)]) (m:Bk a b 4 #[j]) (p:c < d.length):
 Calls prog 162 #[.agg #[e,(lv:Int),(q:Int)],gk,b] a λk r=>k=.returned (.tuple #[])/\
  ∃w1,VisK (λf=>f=e) a w1/\Bk w1 b 4 #[j]/\r=w1.setCell b (.bool (d.getD c false)):=by
 have t:a.cell? gk=some (.int .i64 c):=(g.cell 0).trans rfl;have w:=g.lt;have x:=m.lt;obtain ⟨s,l⟩:=eqx (d.getD c false);rw [l];clear g;go_enter func162,ntmps162;go_wp2_with fail;refine (aFl (ht.below (bR.alloc nL _)) p).mono ?_;rintro k w1 ⟨rfl,n⟩;rw [l];have o:VisK (λf=>f=e) a w1:=(kc (bR.alloc nL _)).trans n;have i:=o.1.d m dC dC;have u:w1.cell? b=some j:=(i.cell 0).trans rfl;have v:=i.frozen 0;clear n;go_wp2_with fail;go_end0;exact ⟨rfl,w1,o,i,rfl⟩
def aCF {m l o a C k} {s:Nat->Value} {z Y lv d i τ J g K w0 b} (Q:∀k b,(callFunc m k).run prog b=.ok (.enter m k) b) (G:Bk b l 191 (wcells s z Y)) (U:TreeAt w0 o K) (V:Vis w0 b) (R:w0.heap.size<=a) (E:Bk b a τ #[J]) (M:i l) (N:i a) (P:∀c,Below b.heap.size b c->Calls prog m k c λf j=>f=.returned (.tuple #[])/\∃w1,VisK i c w1/\Bk w1 a τ #[J]/\j=w1.setCell a g) (I:τ≠191:=by first | decide) (O:#[.agg #[o,(lv:Int),(d:Int)]]++C=k:=by simp):
 Calls prog 161 #[l,.agg #[o,(lv:Int),(d:Int)],.func (.func m) #[] C] b λf j=>f=.returned (.tuple #[])/\
  VisF (λe=>e=a) b j/\Keep i b j/\Bk j a τ #[g]:=by
 have u:=(kg b.heap.size b).alloc nL (.cells #[o,(lv:Int),(d:Int)] 194);have Z:=E.lt;refine (vN (S:=s) (n:=z) (q:=λc A B=>VisF (λe=>e=a) b c/\Keep i b c/\Bk c a τ #[g]) Q ((P _ u).mono ?_) O).mono ?_
 rotate_left
 rintro f j ⟨rfl,c,A,B,⟨L,t,D⟩,H,v,r⟩;exact ⟨rfl,VisF.trans L (VisF.C (Vis.bo v H r)),t.trans (v.mono λe _ (f:e=l)=>by rw [f];exact M),v.d D (show a≠l from Bk.ne D H I)⟩;rintro f a0 ⟨rfl,w1,x,T,rfl⟩;have y:=(kb u).trans x.1;obtain ⟨A,X⟩:=y.Q G;have r:=X.m (p:=a) (Bk.ne E G I).symm g;have w:=U.b ((V.trans y).fresh (p:=a) R g);obtain ⟨B,W⟩:=w.a3;refine ⟨rfl,A,B,⟨r,(x.1.d (kd b _ _) dC dC).m (p:=a) (show b.heap.size≠a by omega) g,w.lt,?_,W⟩,VisF.put (F:=λe=>e=a) (VisF.C y) (p:=a) (.inl rfl) _,ka ((kF u).trans x.2) (p:=a) (.inl N) _,T.set 0 g⟩;rintro rfl;obtain ⟨_,t⟩:=w.a;exact absurd (aU t r).1 dC
def aJL {gv gt gk gn:Nat} {S:Nat->Value} {n v:Int} (lv j:Int) {s bs} {k:Nat} {w0 w} (r:Bk w gv 191 (wcells S n v)) (g:TreeAt w0 gt bs) (i:Vis w0 w) (p:w0.heap.size<=gn) (f:Bk w gk 3 #[(k:Int)]) (e:Bk w gn 4 #[s]) (q:k < bs.length):
 Calls prog 161 #[gv,.agg #[gt,(lv:Int),(j:Int)],.func (.func 162) #[] #[gk,gn]] w λb c=>b=.returned (.tuple #[])/\
  VisF (λa=>a=gn) w c/\Keep (λa=>a=gv∨a=gt∨a=gn) w c/\Bk c gn 4 #[.bool (bs.getD k false)]:=
 aCF (mM func162 kR kR) r g i p e (.inl rfl) (.inr (.inr rfl)) λt d=>(aMl lv j ((g.b i).below d) (f.below d f.lt) (e.below d e.lt) q).mono λb c ⟨l,w1,m,o⟩=>⟨l,w1,m.mono λa b=>.inr (.inl b),o⟩
def aFG (d lv:Nat) {p:Nat} (a b) (i:p<=1000):
 Calls prog 165 #[.agg #[d,(lv:Int),(p:Int)],.bool a] b λc e=>c=.returned (.int .i64 (2*p+(if a then 1 else 0):Nat))/\Below b.heap.size b e:=by
 have f:IntKind.i64.wrap (2*p)=2*(p:Int):=zu
 have g:IntKind.i64.wrap (2*p+1)=2*(p:Int)+1:=zu
 go_enter func165,ntmps165;cases a with
 | true=>
  go_wp2_with fail;go_ret;exact ⟨fM zs,bR.alloc nL _⟩
 | false=>
  go_wp2_with fail;go_ret;exact ⟨fM zs,bR.alloc nL _⟩
def eR {B gv L} (j d) {w} (g:WaveAt w B gv L) (M:j < L.length) (Z:L[j]=d) (V:∀z∈L,z < 257) (bY:L.length<=1000):
 Calls prog 107 #[gv,(j:Int)] w λH c7=>H=.returned (.tuple #[(d:Int),o0])/\VB B w c7:=by
 have a2:d < 257:=by rw [<-Z];exact V _ (zBj M)
 have aT:=nG (L:=L) (k:=j) (s0:=d) (zCm M) V a2;have bc:=rF (s:=d) a2;have bd:=rH d;have aW:∀lv,(aM L lv (bF d lv))[gO L j d lv]?=some (iF d lv):=λlv=>by have:=aDq (L:=L) (k:=j) lv M;rw [Z] at this;exact this
 obtain ⟨ac,m,a7,x,b2⟩:=g;have cI:=x.lt;have hB:B<=w.heap.size:=oM;have q:=(x.set 10 (.int .i64 0)).alloc (.cells #[(j:Int)] 3);rw [eS] at q;have an:=VisK.alloc (VB.N x ac 0) (.cells #[(j:Int)] 3);have C:=kd (w.setCell ⟨gv,10,none⟩ (.int .i64 0)) 3 #[(j:Int)];rw [show (w.setCell ⟨gv,10,none⟩ (.int .i64 0)).heap.size=w.heap.size by simp [World.setCell]] at C;obtain ⟨E,ah⟩:=eqx L.length;rw [ah] at x q M bY;have bS:=x.frozen 10;have c9:w.cell? ⟨gv,10,none⟩=some (.int .i64 a7):=(x.cell 10).trans (cK m E a7).2.2.2.2.2.2.2.2.2.2;obtain ⟨r,ad⟩:=eqx ((w.setCell ⟨gv,10,none⟩ (.int .i64 0)).alloc (.cells #[(j:Int)] 3));rw [ad] at q an C;obtain ⟨aH,aJ,aK,aL,aN,aO,aP,aQ,aR,aS,bM⟩:=cK m (E:Int) 0;have cg:∀b,(r.drewN b).cell? gv=some (m 0):=λb=>(q.cell 0).trans aH;have ch:∀b,(r.drewN b).cell? ⟨gv,1,none⟩=some (m 1):=λb=>(q.cell 1).trans aJ;have ci:∀b,(r.drewN b).cell? ⟨gv,2,none⟩=some (m 2):=λb=>(q.cell 2).trans aK;have cj:∀b,(r.drewN b).cell? ⟨gv,3,none⟩=some (m 3):=λb=>(q.cell 3).trans aL;have ck:∀b,(r.drewN b).cell? ⟨gv,4,none⟩=some (m 4):=λb=>(q.cell 4).trans aN;have cl:∀b,(r.drewN b).cell? ⟨gv,5,none⟩=some (m 5):=λb=>(q.cell 5).trans aO;have cm:∀b,(r.drewN b).cell? ⟨gv,6,none⟩=some (m 6):=λb=>(q.cell 6).trans aP;have co:∀b,(r.drewN b).cell? ⟨gv,7,none⟩=some (m 7):=λb=>(q.cell 7).trans aQ;have cp:∀b,(r.drewN b).cell? ⟨gv,8,none⟩=some (m 8):=λb=>(q.cell 8).trans aR;have aF:r.cell? ⟨gv,9,none⟩=some (.int .i64 E):=(q.cell 9).trans aS;have aG:r.cell? w.heap.size=some (.int .i64 j):=(C.cell 0).trans rfl;have cq:∀b,(r.drewN b).cell? ⟨gv,9,none⟩=some (.int .i64 E):=λb=>aF;have cs:∀b,(r.drewN b).cell? w.heap.size=some (.int .i64 j):=λb=>aG;have bX:decide ((j:Int) < 0)=false:=zs
 have cH:¬E<=j:=oM;obtain ⟨bv,cf,ax,bu,bl,bD,bE,bn,ca⟩:=hqq9 an q C b2 aT bc bd aW V;obtain ⟨cb,bm,ce,av,cd⟩:=hqq5 ah ad Z x M;clear aH aJ aK aL aN aO aP aQ aR aS bM an q C b2 aT bc bd aW V ah ad x Z M;go_enter func107,ntmps107;go_wp2_with fail;rw [bm.out];clear c9 bS;go_quiet (fail);clear aF aG bX;go_wp2_with fail;go_loopw [6,30] (λz T wr=>∃lv:Nat,lv<=9/\T=.int .i64 lv/\z=.int .i64 (bF d lv:Nat)/\VB B w wr/\Bk wr w.heap.size 3 #[.int .i64 (gO L j d lv:Nat)]/\w.heap.size < wr.heap.size) (λ_ T _=>9 -(intOf T).toNat)
 case atStart=>exact ⟨0,by omega,rfl,by rw [bD.out];rfl,bv.below (km bR _),by rw [bl.out];exact ax.drewN _,ax.lt⟩
 case round=>
  obtain ⟨lv,cJ,rfl,rfl,a3,C,cF⟩:=hrel;by_cases a0:lv < 9
  .have bW:=ix9 (lv:=lv) m a0;obtain ⟨u,R,am⟩:=bu lv a0;obtain ⟨ar,ag⟩:=eqx (2 ^ lv);obtain ⟨a,I⟩:=eqx (bF d lv);have b1:a < ar:=(by rw [<-ag,<-I];exact nY (s:=d) lv a2 oM);rw [ag] at R am;obtain ⟨ab,cr,aU,cL,cE⟩:=kj R oM;rw [aU] at bW R;obtain ⟨z,a5⟩:=eqx (gO L j d lv);obtain ⟨a9,aq⟩:=eqx (gO L j d (lv+1));obtain ⟨o,Q⟩:=eqx (iF d lv);have ap:=nH (lv:=lv) L j d a0;have a6:=bn lv;rw [I,a5,Q,aq] at ap;rw [I,a5,Q] at a6;have bb:z < (aM L lv a).length:=(zAc.1 a6).1;have ba:(aM L lv a).getD z false=o:=(by rw [zAb,a6];rfl);have ai:=rG (lv:=lv) d a0;rw [I,Q] at ai;rw [I];rw [a5] at C;have cM:(a:Int) < ar:=oM;have a1:=a3.1.own R dC dC;obtain ⟨bg,bh,bi⟩:=gF u lv ar a b1;have bH:wr.cell? ⟨ab,a*3,none⟩=_:=(kh a1 (a*3) oM).trans bg;have bI:wr.cell? ⟨ab,a*3+1,none⟩=_:=(kh a1 (a*3+1) oM).trans bh;have bK:wr.cell? ⟨ab,a*3+2,none⟩=_:=(kh a1 (a*3+2) oM).trans bi;obtain ⟨ay,bA,aE,bz,bq,U,bp,cc,bC⟩:=hqq9 C ap bb ba ai (am a b1) I Q aq;have aa:=lhd a3;clear R am aU ag I a5 aq Q ap a6 bb ba ai a3 C a1 bg bh bi;go_wp2_with fail;obtain ⟨O,P⟩:=eqx ((wr.alloc (.cells #[.pointer (some ⟨u a,0,none⟩),(lv:Int),(a:Int)] 194)).alloc (.cells #[false] 4));have K:Below wr.heap.size wr O:=(by rw [<-P];exact (bR.alloc nL _).alloc zs _);have b3:Bk O wr.heap.size 194 #[.pointer (some ⟨u a,0,none⟩),(lv:Int),(a:Int)]:=(by rw [<-P];exact (kd wr _ _).alloc _);have aX:Bk O (wr.heap.size+1) 4 #[false]:=(by rw [<-P];have g:=kd (wr.alloc (.cells #[.pointer (some ⟨u a,0,none⟩),(lv:Int),(a:Int)] 194)) 4 #[false];rw [sZ0] at g;exact g);rw [P];have b5:VB B w O:=aa.below K;obtain ⟨c4,b9⟩:=b5.1.Q av;have b4:=U.2.b aa.1;have ae:=ay.below K ay.lt;refine (aJL (gv:=gv) (gt:=(u a)) (gk:=w.heap.size) (gn:=(wr.heap.size+1)) (S:=m) (n:=E) (v:=c4) (bs:=(aM L lv a)) (k:=z) (w0:=wr) (w:=O) lv a b9 b4 (kb K) oM ae aX aE).mono ?_;rintro H G ⟨rfl,X,b0,W⟩;rw [bz.out] at W;have af:=X.d ae dC dC (λg=>absurd (show w.heap.size=wr.heap.size+1 from g) oM);have al:=X.d b3 dC dC (λg=>absurd (show wr.heap.size=wr.heap.size+1 from g) oM)
   have b6:VB B wr G:=⟨VisF.ak (VisF.trans (VisF.C (kb K)) X) (λo x H=>by have:o=wr.heap.size+1:=H;omega),(kF K).trans (b0.mono λo _ H=>by
    rcases H with rfl | rfl | rfl;exact ac;exact U.1
    .omega)⟩
   have b8:=aa.trans b6;obtain ⟨az,aC,aw,aD⟩:=hqq4 af al W b8;have cG:=af.lt;have cP:=al.lt;have cD:=W.lt;obtain ⟨au,ak⟩:=eqx (bF d (lv+1));have aj:=bq.out;rw [ak] at aj;obtain ⟨bt,br⟩:=hqq2 ak aj;have bZ:a<=1000:=(by have bU:=nY (s:=d) lv a2 oM;have cB:2 ^ lv<=2 ^ 9:=zBp dC oM;rw [bp.out] at bU;omega);clear P K b3 aX b5 b9 b4 ae X b0 W af al b6 b8 ak aj bH bI bK;go_wp2_with fail;refine wp_region_any kR<|cC (pre:=(λ_=>True)) (pJ:=(is (au:Int))) B 8 [41,42,43,44,45,46,47,48] (λ_=>False) 7 [] [is gv,is (.agg #[.pointer (some ⟨u a,0,none⟩),(lv:Int),(a:Int)]),is (z:Int),is (.bool o),is (a9:Int),is (.agg #[.pointer (some ⟨u a,0,none⟩),(lv:Int),(a:Int)]),is (.bool o),cO] _ rfl dC kR kR kR (trivial) (λ_ _ _ _ _=>trivial) (jN _ _) tA0 ?_ ?_
   .refine bB<|pH3 0 (.pointer (some gv))<|sC3 (λt e c _ _ _ D _ _ _ _ l=>?_) ?_
    .replace c:VFB B (λ_=>False) G e:=fD c;have bQ:t (.tmp 9)=.pointer (some wr.heap.size):=D 9 kR;have J:=c.1.d aC dC dC (λg=>g);have bj:e.cell? ⟨wr.heap.size,0,none⟩=some (.pointer (some ⟨u a,0,none⟩)):=(J.cell 0).trans rfl;have c2:e.cell? ⟨wr.heap.size,1,none⟩=some (.int .i64 lv):=(J.cell 1).trans rfl;have c3:e.cell? ⟨wr.heap.size,2,none⟩=some (.int .i64 a):=(J.cell 2).trans rfl;go_simp;exact l _ _ (aI vR) rfl
    refine sC3 (λt e c _ _ _ D _ _ _ _ l=>?_) ?_
    .replace c:VFB B (λ_=>False) G e:=fD c;have ct:t (.tmp 3)=.pointer (some w.heap.size):=D 3 kR;have cQ:e.cell? w.heap.size=some (.int .i64 z):=((c.1.d az dC dC (λg=>g)).cell 0).trans rfl;go_simp;exact l _ _ (aI vR) rfl
    refine sC3 (λt e c _ _ _ D _ _ _ _ l=>?_) ?_
    .replace c:VFB B (λ_=>False) G e:=fD c;have bN:t (.tmp 10)=.pointer (some ⟨wr.heap.size+1,0,none⟩):=D 10 kR;have bL:e.cell? ⟨wr.heap.size+1,0,none⟩=some (.bool o):=((c.1.d aw dC dC (λg=>g)).cell 0).trans rfl;go_simp;exact l _ _ (aI vR) rfl
    refine sC3 (λ_ e c _ _ _ _ y _ _ _ l=>?_) ?_
    .replace c:VFB B (λ_=>False) G e:=fD c;have cu:_=_:=y 0 41 kR rfl;have cv:_=_:=y 1 42 kR rfl;have cw:_=_:=y 2 43 kR rfl;have cx:_=_:=y 3 44 kR rfl;go_simp;have N:=VFB.y c (λo _ g=>g);have b7:=aD.trans N;obtain ⟨c5,c1⟩:=b7.1.Q av;have c0:=U.2.b b7.1;refine (tN (gv:=gv) (gt:=(u a)) (S:=m) (n:=E) (v:=c5) (bs:=(aM L lv a)) (k:=z) (w:=e) lv a o c1 c0 (zCm aE)).mono ?_;rintro H c8 ⟨rfl,a4⟩;rw [bA.out];exact l _ _ (aI (a4.mono λo x=>by rcases x with rfl | rfl;exact ac;exact U.1)) rfl
    refine sC3 (λt e c _ _ _ D _ _ _ _ l=>?_) ?_
    .replace c:VFB B (λ_=>False) G e:=fD c;have bQ:t (.tmp 9)=.pointer (some wr.heap.size):=D 9 kR;have J:=c.1.d aC dC dC (λg=>g);have bj:e.cell? ⟨wr.heap.size,0,none⟩=some (.pointer (some ⟨u a,0,none⟩)):=(J.cell 0).trans rfl;have c2:e.cell? ⟨wr.heap.size,1,none⟩=some (.int .i64 lv):=(J.cell 1).trans rfl;have c3:e.cell? ⟨wr.heap.size,2,none⟩=some (.int .i64 a):=(J.cell 2).trans rfl;go_simp;exact l _ _ (aI vR) rfl
    refine sC3 (λt e c _ _ _ D _ _ _ _ l=>?_) ?_
    .replace c:VFB B (λ_=>False) G e:=fD c;have bN:t (.tmp 10)=.pointer (some ⟨wr.heap.size+1,0,none⟩):=D 10 kR;have bL:e.cell? ⟨wr.heap.size+1,0,none⟩=some (.bool o):=((c.1.d aw dC dC (λg=>g)).cell 0).trans rfl;go_simp;exact l _ _ (aI vR) rfl
    refine sC3 (λ_ e _ _ _ _ _ y _ _ _ l=>?_) ?_
    .have cy:_=_:=y 5 46 kR rfl;have cz:_=_:=y 6 47 kR rfl;go_simp;refine (aFG (p:=a) (u a) lv o e bZ).mono ?_;rintro H c8 ⟨rfl,bV⟩;rw [<-br.out];exact l _ _ (aI (kc bV)) rfl
    exact aB
   .intro t a8 A c y aV;replace c:VFB B (λ_=>False) G a8:=fD c;have bO:t (.tmp 45)=.int .i64 a9:=y 4 45 dC rfl;have bP:t (.tmp 48)=.int .i64 au:=y 7 48 dC rfl;obtain ⟨c6,bf⟩:=aV 7 dC;have be:(is (au:Int)) c6 a8:=bf;clear bf aV;simp only [zqq];rw [bO];rw [bP];clear y;have N:=VFB.y c (λo _ g=>g);have Y:=N.1.d az dC dC;have cn:=Y.cell 0;have cA:=Y.frozen 0;have cN:=N.1.size;obtain ⟨bx,bo⟩:=hqq2 N Y;clear N Y c be;change wpAny prog Region.Mode.any _ _ (2+A) (bT 8 10) _ a8;rw [show 2+A=A+1+1 by omega];refine aY (f:=A+1) (i:=8) kR ?_;refine bJ rfl rfl ?_;generalize l:wpAny prog _ _ _ (A+1) _=K5;go_simp;subst l;refine aY (f:=A) (i:=9) kR ?_;refine bJ rfl rfl ?_;generalize l:wpAny prog _ _ _ A _=K5;go_simp;subst l;refine bG kR ?_;have aZ:=bo.set 0 (.int .i64 a9);have ao:=aD.trans bx;have a4:VB B w (a8.setCell w.heap.size (.int .i64 a9)):=⟨Vis.fresh ao.1 (p:=w.heap.size) nL _,ka (F:=λo=>B<=o) ao.2 (p:=w.heap.size) (.inl hB) _⟩;obtain ⟨bw,aA⟩:=hqq2 a4 aZ;clear ao a4 aZ;go_wp2_with fail;go_roundw
    case rel=>exact ⟨lv+1,by omega,by go_num,by rw [bt.out],bw,by rw [bC.out];exact aA,aA.lt⟩
    case measure=>exact zr
  .obtain rfl:lv=9:=oM;rw [bE.out];go_wp2_with fail;go_ret2;exact ⟨rfl,a3⟩
def aAT {G f:Nat} {own e} {i l:Nat} {c} (m:WaveE c G own f e) (aA:e[i]?=some l) (a8:∀q∈e,q < 257) (cF:e.length<=896):
 Calls prog 166 #[f,(i:Int)] c λn aR=>n=.returned (.tuple #[(l:Int),o0])/\∃aQ,WaveE aR G aQ f (aK e i)/\(∀a,a < c.heap.size->aQ a=own a)/\(∀a,c.heap.size<=a->aQ a≠1)/\Keep (λa=>a=f∨16<=own a) c aR:=by
 obtain ⟨N,aB⟩:=zAc.1 aA;have aI:l < 257:=by rw [<-aB];exact a8 _ (zBj N)
 have bh:=nG (zCm N) a8 aI;have bM:=rF aI;have bN:=rH l;have bm:∀lv,(aM e lv (bF l lv))[gO e i l lv]?=some (iF l lv):=λlv=>by have:=aDq lv N;rw [aB] at this;exact this
 obtain ⟨o,dB,m⟩:=m;obtain ⟨t,ac⟩:=eqx e.length;rw [ac] at m N cF;have bz:(aK e i).length+1=t:=by rw [cJ oM,ac]
 obtain ⟨ct,cs,cq⟩:=m.cells;have cv:=m.a.frozen 10;have cD:=m.a.lt;have hB:G<=c.heap.size:=zAk m.base.1 (zCm cD);obtain ⟨bS,K⟩:=m.b ((VisK.alloc (VB.N m.a m.base.1 0) (.cells #[(i:Int)] 3)).1);have cz:f≠c.heap.size:=oM;have M:=kd (c.setCell ⟨f,10,none⟩ (.int .i64 0)) 3 #[(i:Int)];rw [show (c.setCell ⟨f,10,none⟩ (.int .i64 0)).heap.size=c.heap.size by simp [World.setCell]] at M;have az:Keep (λa=>a=f∨16<=own a) c ((c.setCell ⟨f,10,none⟩ (.int .i64 0)).alloc (.cells #[(i:Int)] 3)):=(ka (F:=λa=>a=f∨16<=own a) (ke _ _) (p:=⟨f,10,none⟩) (.inl (.inl rfl)) _).alloc _;obtain ⟨r,ap⟩:=eqx ((c.setCell ⟨f,10,none⟩ (.int .i64 0)).alloc (.cells #[(i:Int)] 3));rw [ap] at K M az;obtain ⟨u,b8,cr⟩:=K.cells;have d2:∀d,(r.drewN d).cell? f=some (o 0):=λd=>u 0 oM;have E:∀d,(r.drewN d).cell? ⟨f,1,none⟩=some (o 1):=λd=>u 1 oM;have am:∀d,(r.drewN d).cell? ⟨f,2,none⟩=some (o 2):=λd=>u 2 oM;have d3:∀d,(r.drewN d).cell? ⟨f,3,none⟩=some (o 3):=λd=>u 3 oM;have d4:∀d,(r.drewN d).cell? ⟨f,4,none⟩=some (o 4):=λd=>u 4 oM;have d5:∀d,(r.drewN d).cell? ⟨f,5,none⟩=some (o 5):=λd=>u 5 oM;have d6:∀d,(r.drewN d).cell? ⟨f,6,none⟩=some (o 6):=λd=>u 6 oM;have d7:∀d,(r.drewN d).cell? ⟨f,7,none⟩=some (o 7):=λd=>u 7 oM;have d8:∀d,(r.drewN d).cell? ⟨f,8,none⟩=some (o 8):=λd=>u 8 oM;have b9:r.cell? ⟨f,9,none⟩=some (.int .i64 t):=b8;have ba:r.cell? c.heap.size=some (.int .i64 i):=(M.cell 0).trans rfl;have cC:decide ((i:Int) < 0)=false:=zs
 have ds:¬t<=i:=oM;have dh:=K.a.lt;have dg:=M.lt;obtain ⟨aS,c7,cc,bU,cV,bX,cb,bZ,cY⟩:=hqq9 K M az bh a8 ac bz ap N;obtain ⟨cW,br,cn,co,c0,b1⟩:=hqq6 m.base m.q bM bN bm aA;have d9:∀d,(r.drewN d).cell? ⟨f,9,none⟩=some (.int .i64 t):=λd=>b9;have da:∀d,(r.drewN d).cell? c.heap.size=some (.int .i64 i):=λd=>ba;clear m K M az bh a8 ac bz ap ct u b8 cr N bM bN bm aA aB;go_enter func166,ntmps166;go_wp2_with fail;rw [bZ.out];clear cq cv cs;go_quiet (fail);clear b9 ba cC;go_wp2_with fail;go_loopw [6,31] (λcU aN wr=>∃(lv:Nat) (j:Nat->Nat) (Q:Int),lv<=9/\aN=.int .i64 lv/\cU=.int .i64 (bF l lv:Nat)/\WaveS wr G j f o (λs=>if s < lv then aK e i else e) (t:Int) Q/\Bk wr c.heap.size 3 #[.int .i64 (gO e i l lv:Nat)]/\(∀a,a < c.heap.size->j a=own a)/\(∀a,c.heap.size<=a->j a≠1)/\j c.heap.size=0/\Keep (λa=>a=f∨16<=own a) c wr) (λ_ aN _=>9 -(intOf aN).toNat)
 case atStart=>refine ⟨0,own,bS,by omega,rfl,by rw [cn.out];rfl,?_,?_,λ_ _=>rfl,λa y n=>?_,?_,?_⟩;obtain ⟨bT,bg⟩:=aS.b (kb (km bR _));have:bT=bS:=(by have ak:=bg.cells.2.2;have al:=aS.cells.2.2;have S:=al.symm.trans ak;injection S with S;injection S with _ S;exact S.symm);subst this;simpa using bg;rw [bU.out];exact c7.drewN _;have:=(br a oM).2;omega;rcases zBa (own c.heap.size) with n | n;exact n;have:=(br c.heap.size oM).2;omega;exact cc.drewN _
 case round=>
  obtain ⟨lv,j,Q,dt,rfl,rfl,A,a9,ad,ae,aE,aa⟩:=hrel;by_cases O:lv < 9
  .have cB:=ix9 o O;obtain ⟨v,w,cG,aJ⟩:=A.rows lv O;obtain ⟨aO,ab⟩:=eqx (2 ^ lv);obtain ⟨b,x⟩:=eqx (bF l lv);have aF:b < aO:=(by rw [<-ab,<-x];exact nY lv aI oM);have bE:b < 2 ^ lv:=(by rw [ab];exact aF);have cy:=lhd w;rw [ab] at w aJ;obtain ⟨ao,an,bl,du,dr⟩:=kj w oM;rw [bl] at cB w;obtain ⟨q,a1⟩:=eqx (gO e i l lv);obtain ⟨k,B⟩:=eqx (gO e i l (lv+1));obtain ⟨a,X⟩:=eqx (iF l lv);have aL:=nH e i l O;have ag:=c0 lv;have ar:=aHe lv b1;have au:=λd=>aBE lv d b1;have af:=rG l O;rw [x,a1,X,B] at aL;rw [x,a1,X] at ag;rw [x,a1] at ar;rw [x] at au;rw [x,X] at af;have bL:q < (aM e lv b).length:=(zAc.1 ag).1;have bK:(aM e lv b).getD q false=a:=(by rw [zAb,ag];rfl);rw [a1] at a9;rw [x];obtain ⟨cL,aG⟩:=eqx (bF l (lv+1));rw [aG] at af;have cH:b<=1000:=(zj (aN7 O bE));have bJ:TreeE wr (λa=>j a=TC lv b) (v b) (aM e lv b):=(by have:=aJ b aF;rw [zBw oM] at this;exact this);have dx:(b:Int) < aO:=oM;obtain ⟨d0,b6,cl,a6,c4,c5,ck,cg,ch⟩:=hqq9 w bJ aL bL ar au bK af aG;obtain ⟨d1,cX,cm,a5,a4,R,ai,b3,b0⟩:=hqq9 x X B A a9 ad ae aE aa;clear aJ bl ab x a1 B X aL bL ag ar au bK af aG A a9 ad ae aE aa bJ cG;obtain ⟨bO,bP,bQ⟩:=gF v lv aO b aF;have cp:wr.cell? ⟨ao,b*3,none⟩=_:=(kh w (b*3) oM).trans bO;have ak:wr.cell? ⟨ao,b*3+1,none⟩=_:=(kh w (b*3+1) oM).trans bP;have al:wr.cell? ⟨ao,b*3+2,none⟩=_:=(kh w (b*3+2) oM).trans bQ;have cK:wr.cell? c.heap.size=some (.int .i64 q):=(a4.cell 0).trans rfl;have dq:=a4.lt;clear bO bP bQ w;go_wp2_with fail;obtain ⟨aj,U⟩:=eqx ((wr.alloc (.cells #[.pointer (some ⟨v b,0,none⟩),(lv:Int),(b:Int)] 194)).alloc (.cells #[false] 4));have bp:Below wr.heap.size wr aj:=(by rw [<-U];exact (bR.alloc nL _).alloc zs _);have bo:Bk aj wr.heap.size 194 #[.pointer (some ⟨v b,0,none⟩),(lv:Int),(b:Int)]:=(by rw [<-U];exact (kd wr _ _).alloc _);have bn:Bk aj (wr.heap.size+1) 4 #[false]:=(by rw [<-U];have m:=kd (wr.alloc (.cells #[.pointer (some ⟨v b,0,none⟩),(lv:Int),(b:Int)] 194)) 4 #[false];rw [sZ0] at m;exact m);rw [U];obtain ⟨c2,c1,I⟩:=hqq3 bo bn bp;clear bo bn bp U cp ak al cK;obtain ⟨dD,be⟩:=a5.b (kb I);have bv:=a4.below I a4.lt;have bG:=b6.below I;have bx:=a5.base.2;have bs:=a5.q;have dz:=I.size;have cA:=a5.a.lt;obtain ⟨aT,c9,b5,ca,aW⟩:=hqq5 be bv bG bx bs;clear be bv bG bx bs;refine (tN lv b true aT.a b5.at (zCm a6)).mono ?_;rintro n J ⟨rfl,z⟩;obtain ⟨P,aD⟩:=eqx (((aM e lv b).take q).count true);have bD:(if a then P else q - P)=k:=(by have K:=tL ((aM e lv b).take q);have cw:((aM e lv b).take q).length=q:=(by rw [zAj];have:=a6.out;omega);have cx:=cl.out;cases a;simp;omega;simp;omega);have dv:P<=q:=(by rw [<-aD];exact zAk zBv (by rw [zAj];omega));rw [aD];obtain ⟨dE,bf⟩:=aT.b z.1;have bH:=b5.b z.1;have ay:=z.1.d c9 dC dC;have L:=z.1.d c2 dC dC;have aq:=z.1.d c1 dC dC;have dA:=z.1.size;have cN:J.cell? ⟨wr.heap.size,0,none⟩=some (.pointer (some ⟨v b,0,none⟩)):=(L.cell 0).trans rfl;have cO:J.cell? ⟨wr.heap.size,1,none⟩=some (.int .i64 lv):=(L.cell 1).trans rfl;have cP:J.cell? ⟨wr.heap.size,2,none⟩=some (.int .i64 b):=(L.cell 2).trans rfl;have dl:=L.lt;have dj:=aq.lt;have dp:=ay.lt;have cE:∀(bb:Fn) (first an:Array Value) (c:World),(Instr.makeFunc bb first an).run prog c=.ok (.func bb first an) c:=λ_ _ _ _=>rfl;obtain ⟨b2,ah,cj,aY,c3,aV,b7⟩:=hqq7 bD bf bH ay L aq z;clear aD bD bf bH ay L aq z;go_wp2_with fail;have a3:∀k,wr.heap.size<=k->¬(j k=TC lv b):=λk B g=>by have:=(aW k (by rw [g];unfold TC;omega)).2;omega
   refine (aJM lv b ah.a cj (λg=>by rw [ca.out] at g;unfold TC at g;omega) (a3 _ oM) (λk B=>(ah.q k (by rw [B];unfold TC;omega)).2) aY aV (λk B n=>a3 k oM B) a6).mono ?_;rintro n D ⟨rfl,bI,a0,Y,bT,bq⟩;rw [ck.out] at Y
   have ax:=ah.K (lv:=lv) (p:=b) (gx:=wr.heap.size+1) O bE (aC (aP cy I) λa cu _ aw=>b7.1.d aw dC dC) (by
    rcases zBa (j (wr.heap.size+1)) with n | n;omega
    .have:=(aW _ (by omega:j (wr.heap.size+1)≠0)).2;omega) (λcu aw=>absurd (aU aw aV).1 dC) bI a0 bq (L':=aK e i) c4 (λd cI=>by rw [zBw (zCl _)];exact c5 d (λn=>cI n.symm))
   have bt:(λs=>if s=lv then aK e i else if s < lv then aK e i else e)=λs=>if s < lv+1 then aK e i else e:=by
    funext s;by_cases E:s=lv
    .rw [zBx E,zBx oM]
    .by_cases am:s < lv
     .rw [zBw E,zBx am,zBx oM]
     .rw [zBw E,zBw am,zBw oM]
   rw [bt] at ax
   have bw:=a0.d aY (λg=>by
    rcases g with g | g | g;have a7:j c.heap.size=TC lv b:=g;rw [b3.out] at a7;unfold TC at a7;omega;exact cz g.symm
    .omega)
   have W:=a0.d c3 (λg=>by
    rcases g with g | g | g;exact a3 _ nL g;omega
    .omega)
   have cQ:D.cell? ⟨wr.heap.size,0,none⟩=some (.pointer (some ⟨v b,0,none⟩)):=(W.cell 0).trans rfl;have cR:D.cell? ⟨wr.heap.size,1,none⟩=some (.int .i64 lv):=(W.cell 1).trans rfl;have cS:D.cell? ⟨wr.heap.size,2,none⟩=some (.int .i64 b):=(W.cell 2).trans rfl;have cT:D.cell? ⟨wr.heap.size+1,0,none⟩=some (.bool a):=(Y.cell 0).trans rfl;have dm:=W.lt;have dk:=Y.lt;have bi:j (v b)=TC lv b:=b6.W;obtain ⟨c6,cd,aZ,aX,bW,cZ⟩:=hqq6 ax a0 bw Y bi a3;clear bI a0 bq ax bt bw W Y cN cO cP cE bi a3;go_wp2_with fail;refine (aFG (v b) lv a D cH).mono ?_;rintro n C ⟨rfl,V⟩;rw [<-cg.out];obtain ⟨cM,bc⟩:=c6.b (kb V);have Z:=aZ.below V aZ.lt;have av:=aX.below V aX.lt;have dG:C.cell? ⟨wr.heap.size+1,0,none⟩=some (.bool a):=(av.cell 0).trans rfl;have dH:C.cell? c.heap.size=some (.int .i64 q):=(Z.cell 0).trans rfl;have de:=Z.frozen 0;have dn:=Z.lt;have di:=av.lt;have bu:=Z.set 0 (.int .i64 k);have aH:eD j J.heap.size D.heap.size (TC lv b) c.heap.size=0:=(by unfold eD;rw [zBx oM];exact b3);have bd:=bc.m (w':=C.setCell c.heap.size (.int .i64 k)) (H:=λa=>a=c.heap.size) (ka (F:=λa=>a=c.heap.size) (ke _ _) (p:=c.heap.size) (.inl rfl) _) (λa n=>by rw [show a=c.heap.size from n,aH];omega);have dy:=b0.size
   have bA:Keep (λa=>a=f∨16<=own a) c (C.setCell c.heap.size (.int .i64 k)):=ka (F:=λa=>a=f∨16<=own a) ((((b0.trans (kF I)).trans' b7.2 (λa y g=>by
    rcases g with g | g;exact .inl g
    .right;rw [<-R a y,g,bW.out];unfold TC;omega)).trans' cd (λa y g=>by
    rcases g with g | g | g;right;have a7:j a=TC lv b:=g;rw [<-R a y,a7];unfold TC;omega;exact .inl g
    .omega)).trans (kF V)) (p:=c.heap.size) (.inr nL) _
   obtain ⟨bV,c8,ce,ci⟩:=hqq4 bd bu bA aH;clear V bc Z av bu bd bA aH cQ cR cS cT
   have hrel:∃(a2:Nat) (j:Nat->Nat) (Q:Int),a2<=9/\Value.int .i64 (lv+1:Nat)=.int .i64 a2/\Value.int .i64 cL=.int .i64 (bF l a2:Nat)/\WaveS (C.setCell c.heap.size (.int .i64 k)) G j f o (λs=>if s < a2 then aK e i else e) (t:Int) Q/\Bk (C.setCell c.heap.size (.int .i64 k)) c.heap.size 3 #[.int .i64 (gO e i l a2:Nat)]/\(∀a,a < c.heap.size->j a=own a)/\(∀a,c.heap.size<=a->j a≠1)/\j c.heap.size=0/\Keep (λa=>a=f∨16<=own a) c (C.setCell c.heap.size (.int .i64 k)):=by
    refine ⟨lv+1,eD j J.heap.size D.heap.size (TC lv b),cM,by omega,rfl,by rw [ch.out],bV,?_,λa y=>?_,λa y=>?_,ci,ce⟩;rw [cm.out];exact c8;unfold eD;rw [zBx oM];exact R a y
    .unfold eD;by_cases E:a < J.heap.size;rw [zBx E];exact ai a y
     .rw [zBw E];unfold TC;split <;> omega
   have b4:=lhd hrel;clear hrel;cases a with
   | true=>
    obtain rfl:P=k:=(by have:=b2.out;simpa using this);go_wp2_with fail;go_roundw
    case rel=>exact b4
    case measure=>exact zr
   | false=>
    have dw:q - P=k:=(by have:=b2.out;simpa using this);have dc:IntKind.i64.wrap (q -P)=(k:Int):=(by have cw:=a6.out;have cx:(aM e lv b).length<=e.length:=(by rw [iX];exact zBh);have df:=bX.out;rw [wI0];omega);go_wp2_with fail;go_roundw
    case rel=>exact b4
    case measure=>exact zr
  .obtain rfl:lv=9:=oM;have T:WaveS wr G j f o (λ_=>aK e i) (t:Int) Q:=⟨A.a,A.base,λs bC=>by have:=A.rows s bC;simpa [bC] using this,A.q⟩;obtain ⟨_,dF,_⟩:=T.cells;have dd:=T.a.frozen 9;have cA:=T.a.lt;have bj:=T.b8 ((t:Int) - 1);have db:IntKind.i64.wrap (t - 1)=(t:Int) - 1:=zu;have bB:Keep (λa=>a=f∨16<=own a) c (wr.setCell ⟨f,9,none⟩ (.int .i64 ((t:Int) - 1))):=ka (F:=λa=>a=f∨16<=own a) aa (p:=⟨f,9,none⟩) (.inl (.inl rfl)) _;rw [co.out];obtain ⟨bY,cf,R,ai⟩:=hqq4 bj bB ad ae;clear A T bj aa bB a9 ad ae aE;go_wp2_with fail;go_ret2;refine ⟨rfl,j,⟨o,Q,?_⟩,R,ai,cf⟩;rw [show (((aK e i).length:Nat):Int)=(t:Int) - 1 by have:=cb.out;omega];exact bY
def mA {C} {k:Nat} (c:Nat) (o:k < C.length):(bU C).set (k*2) (.int .i64 c)=bU (C.set k (c,aS C k)):=by
 apply zDs;intro a;have p:=dO C;have m:=dO (C.set k (c,aS C k));rw [zAt] at m;rw [zBm];by_cases n:a < C.length*2
 .have d:a / 2 < C.length:=oM;obtain ⟨i,j⟩:=cL C (a / 2) d;obtain ⟨f,g⟩:=cL (C.set k (c,aS C k)) (a / 2) (by rw [zAt];exact d);have er:aF (C.set k (c,aS C k)) (a / 2)=if k=a / 2 then c else aF C (a / 2):=by
   unfold aF;rw [zAb,zBm,zAb];by_cases b:k=a / 2
   .simp [b,d]
   .simp [b]
  have l:aS (C.set k (c,aS C k)) (a / 2)=aS C (a / 2):=by
   unfold aS;rw [zAb,zBm,zAb,zAb];by_cases b:k=a / 2
   .subst b;simp [d]
   .simp [b]
  rw [er] at f;rw [l] at g;by_cases q:a % 2=0
  .have e:a / 2*2=a:=oM;rw [e] at i f;rw [f];by_cases b:k*2=a
   .rw [zBx b,zBx oM,zBx oM]
   .rw [zBw b,i,zBw oM]
  .have e:a / 2*2+1=a:=oM;rw [e] at j g;rw [g,zBw oM,j]
 .rw [zBw oM,zBg oM,zBg oM]
def pR (a) (c e:Nat) (p:c < a.length):(bU a).set (c*2+1) (.int .i64 e)=bU (a.set c (aF a c,e)):=by
 apply zDs;intro b;have q:=dO a;have n:=dO (a.set c (aF a c,e));rw [zAt] at n;rw [zBm];by_cases o:b < a.length*2
 .have f:b / 2 < a.length:=oM;obtain ⟨k,l⟩:=cL a (b / 2) f;obtain ⟨i,j⟩:=cL (a.set c (aF a c,e)) (b / 2) (by rw [zAt];exact f);have er:aF (a.set c (aF a c,e)) (b / 2)=aF a (b / 2):=by
   unfold aF;rw [zAb,zBm,zAb,zAb];by_cases d:c=b / 2
   .subst d;simp [f]
   .simp [d]
  have m:aS (a.set c (aF a c,e)) (b / 2)=if c=b / 2 then e else aS a (b / 2):=by
   unfold aS;rw [zAb,zBm,zAb];by_cases d:c=b / 2
   .simp [d,f]
   .simp [d]
  rw [er] at i;rw [m] at j;by_cases r:b % 2=0
  .have g:b / 2*2=b:=oM;rw [g] at k i;rw [i,zBw oM,k]
  .have g:b / 2*2+1=b:=oM;rw [g] at l j;rw [j];by_cases d:c*2+1=b
   .rw [zBx d,zBx oM,zBx oM]
   .rw [zBw d,l,zBw oM]
 .rw [zBw oM,zBg oM,zBg oM]
def dU {a} (b:-9223372036854775808<=a) (c:a<=9223372036854775807):wrap64 a=a:=by unfold wrap64;omega
def uI {g i:World} {a d e:Nat} {b:TypeId} {f:Value} {j:List Value} (k:g.ownsRow a b e f d j) (l:i.heap=g.heap):i.ownsRow a b e f d j:=aC k λm n _ c=>by unfold Bk at c⊢;rw [l];exact c
def mW {a:List (Nat×Nat)} {b:Nat} (d:b < a.length):a.set b (aF a b,aS a b)=a:=by
 have c:(aF a b,aS a b)=a[b]:=by unfold aF aS;rw [zAb,zAa d];rfl
 rw [c,List.set_getElem_self]
def mvR (a c b:Nat):Nat:=if b=a then c else inR (bN b a) c
def aHs {t e g u m d:Nat} (a:Nat) {b i} (f:i.ownsRow t 133 2 (.slice (some e) g u) g (bU b)) (j:a < b.length) (s:Bk i m 3 #[(d:Int)]) (E:aF b a<=1000000000000):
 Calls prog 178 #[.pointer (some ⟨e,a*2,none⟩),m] i λC z=>C=.returned (.tuple #[])/\z.ownsRow t 133 2 (.slice (some e) g u) g (bU (b.set a (inR (aF b a) d,aS b a)))/\Keep (λk=>k=e) i z:=by
 obtain ⟨x,y⟩:=cL b a j;have G:b.length=g:=by have D:=f.1;rw [dO] at D;omega
 have A:=(kh f (a*2) oM).trans x;have B:=(kh f (a*2+1) oM).trans y;have Q:i.cell? m=some (.int .i64 d):=(s.cell 0).trans rfl;obtain ⟨K,n⟩:=fE f;have M:=n.frozen (a*2);have N:=n.lt;have O:=s.lt;have r:=mW j;have w:=λI=>mA I j;obtain ⟨c,q⟩:=eqx (aF b a);obtain ⟨H,o⟩:=eqx (aS b a);rw [q] at A r E;rw [o] at B r w;rw [q,o];clear j s x y n G q o;by_cases P:d<=c
 .have J:=zy ((c:Int)>=d);have L:wrap64 (c+1)=((c+1:Nat):Int):=(by unfold wrap64;omega);have v:=(kk f (a*2) (.int .i64 (c+1:Nat))).1;rw [w] at v;go_enter func178,ntmps178;go_wp2_with fail;go_quiet (fail);go_wp2_with fail;go_end0;refine ⟨rfl,?_,ka (F:=λk=>k=e) ((ke _ _).drewN _) (p:=⟨e,a*2,none⟩) (.inl rfl) _⟩;have l:inR (c) d=c+1:=(by unfold inR;rw [zBx oM]);rw [l];exact v
 .have J:=zn ((c:Int)>=d);go_enter func178,ntmps178;go_wp2_with fail;go_quiet (fail);go_wp2_with fail;go_end0;refine ⟨rfl,?_,(ke _ _).drewN _⟩;have l:inR (c) d=c:=(by unfold inR;rw [zBw oM]);rw [l,r];exact f
def aHv {t e g u m d:Nat} (a:Nat) {b i} (f:i.ownsRow t 133 2 (.slice (some e) g u) g (bU b)) (j:a < b.length) (s:Bk i m 3 #[(d:Int)]) (E:aS b a<=1000000000000):
 Calls prog 179 #[.pointer (some ⟨e,a*2,none⟩),m] i λC z=>C=.returned (.tuple #[])/\z.ownsRow t 133 2 (.slice (some e) g u) g (bU (b.set a (aF b a,inR (aS b a) d)))/\Keep (λk=>k=e) i z:=by
 obtain ⟨x,y⟩:=cL b a j;have G:b.length=g:=by have D:=f.1;rw [dO] at D;omega
 have A:=(kh f (a*2) oM).trans x;have B:=(kh f (a*2+1) oM).trans y;have Q:i.cell? m=some (.int .i64 d):=(s.cell 0).trans rfl;obtain ⟨J,n⟩:=fE f;have L:=n.frozen (a*2+1);have M:=n.lt;have N:=s.lt;have r:=mW j;have w:=λH=>pR b a H j;obtain ⟨P,q⟩:=eqx (aF b a);obtain ⟨c,o⟩:=eqx (aS b a);rw [q] at A r w;rw [o] at B r E;rw [q,o];clear j s x y n G q o;by_cases O:d<=c
 .have I:=zy ((c:Int)>=d);have K:wrap64 (c+1)=((c+1:Nat):Int):=(by unfold wrap64;omega);have v:=(kk f (a*2+1) (.int .i64 (c+1:Nat))).1;rw [w] at v;go_enter func179,ntmps179;go_wp2_with fail;go_quiet (fail);go_wp2_with fail;go_end0;refine ⟨rfl,?_,ka (F:=λk=>k=e) ((ke _ _).drewN _) (p:=⟨e,a*2+1,none⟩) (.inl rfl) _⟩;have l:inR (c) d=c+1:=(by unfold inR;rw [zBx oM]);rw [l];exact v
 .have I:=zn ((c:Int)>=d);go_enter func179,ntmps179;go_wp2_with fail;go_quiet (fail);go_wp2_with fail;go_end0;refine ⟨rfl,?_,(ke _ _).drewN _⟩;have l:inR (c) d=c:=(by unfold inR;rw [zBw oM]);rw [l,r];exact f
def qV {s r C S a5} (q:Nat->Nat->Nat×Nat) {l N O M z y d f L B m} (T:PermAt m s r C l N O M z y d f L B) (H:d.Nodup) (ax:d.length<=1000000) (ao:∀a,a∈d->aF f a<=1000000000000/\aS f a<=1000000000000) (aB:∀a4 m,(callFunc S a4).run prog m=.ok (.enter S a4) m) (au:∀(o u J a:Nat) (t:List (Nat×Nat)) (wr:World),Keep (λc=>l.ownBlock=some c) m wr->wr.ownsRow s 133 2 (.slice (some o) u J) u (bU t)->a < t.length->aF t a<=1000000000000/\aS t a<=1000000000000->
 Calls prog S (#[.pointer (some ⟨o,a*2,none⟩)]++a5) wr λj P=>j=.returned (.tuple #[])/\P.ownsRow s 133 2 (.slice (some o) u J) u (bU (t.set a (q (aF t a) (aS t a))))/\Keep (λc=>c=o) wr P):
 Calls prog 169 #[r,.func (.func S) #[] a5] m λj P=>j=.returned (.tuple #[])/\Keep (λc=>l.ownBlock=some c) m P/\∃Q,Q.length=f.length/\(∀a,a∈d->(aF Q a,aS Q a)=q (aF f a) (aS f a))/\PermAt P s r C l N O M z y d Q L B:=by
 obtain ⟨af,aj,ae,_,_⟩:=aZ T.t;have ak:m.cell? ⟨r,2,none⟩=some (.slice af d.length aj):=(T.a.cell 2).trans (by rw [ae];rfl);have aG:=T.a.lt;obtain ⟨K,V⟩:=eqx d.length;rw [V] at ak ax;have ah:=H;clear H;go_enter func169,ntmps169;go_wp2_with fail;go_loopw [11] (λa2 wr=>∃(g:Nat) (b:List (Nat×Nat)),g<=K/\a2=.int .i64 g/\b.length=f.length/\(∀a,a∈d.take g->(aF b a,aS b a)=q (aF f a) (aS f a))/\(∀a,a∈d.drop g->(aF b a,aS b a)=(aF f a,aS f a))/\PermAt wr s r C l N O M z y d b L B/\Keep (λc=>l.ownBlock=some c) m wr) (λa2 _=>K -(intOf a2).toNat)
 case atStart=>exact ⟨0,f,zAp _,rfl,rfl,λa p=>by simp at p,λa _=>rfl,T,ke _ _⟩
 case round=>
  obtain ⟨g,b,aI,rfl,ac,a8,Y,e,p⟩:=hrel;by_cases ad:g < K
  .have E:g < d.length:=(by rw [V];exact ad);obtain ⟨a,F⟩:∃a,d[g]?=some a:=⟨_,zAa E⟩;have a1:=zAd F;have a0:a < b.length:=e.lt a a1;have W:=e.t;rw [ae] at W;obtain ⟨an,aL,am,_,aE⟩:=kj W oM;injection am with e2a _ e2c;subst e2a e2c;have G:=e.u;obtain ⟨o,J,R,_,aD⟩:=kj G oM;rw [R] at G;have al:wr.cell? ⟨an,g,none⟩=some (.int .i64 a):=(kh W g oM).trans (by rw [zAf,F];rfl);have a6:wr.cell? ⟨r,1,none⟩=some (.slice (some o) b.length J):=(e.a.cell 1).trans (by rw [R];rfl);have aH:=e.a.lt;have aK:=p.size;have aa:a∈d.drop g:=(by rw [zAx E,List.getElem_eq_getElem?_get];simp [F]);have ap:(aF b a,aS b a)=(aF f a,aS f a):=Y a aa;injection ap with hCr hCp;have az:=λ(c:Nat) (j:Value.ownBlock l=some c)=>(World.ownsRow.lt e.u c j).2;obtain ⟨u,D⟩:=eqx b.length;rw [D] at G a6 a0;have aq:aF b a<=1000000000000/\aS b a<=1000000000000:=(by rw [hCr,hCp];exact ao a a1);have aJ:(a:Int) < u:=oM;have ai:=e;clear e a1 aa W az;go_wp2_with fail;refine (au o u J a b wr p G (by rw [D];exact a0) aq).mono ?_;rintro j w1 ⟨rfl,ab,w⟩
   have a7:PermAt w1 s r C l N O M z y d (b.set a (q (aF b a) (aS b a))) L B:=by
    have e:=ai;have I:∀c a3 A,a3≠133->Bk wr c a3 A->c≠o:=λc a3 A ht n j=>by subst j;obtain ⟨aA,av⟩:=fE G;exact ht (aU n av).1
    refine ⟨w.d e.a (I _ _ _ dC e.a),?_,aC e.t λc A _ n=>w.d n (I _ _ _ dC n),w.d e.V (I _ _ _ dC e.V),aC e.F λc A _ n=>w.d n (I _ _ _ dC n),aC e.M λc A _ n=>w.d n (I _ _ _ dC n),e.apart,λi k=>by rw [zAt];exact e.lt i k,e.lo⟩;rw [zAt,D,R,D];exact ab
   have a9:Keep (λc=>l.ownBlock=some c) m w1:=p.trans (w.mono λc _ j=>by rw [R,show c=o from j];rfl)
   have Z:∀i,(aF (b.set a (q (aF b a) (aS b a))) i,aS (b.set a (q (aF b a) (aS b a))) i)=if i=a then q (aF b a) (aS b a) else (aF b i,aS b i):=λi=>by
    unfold aF aS;rw [zAb,zBm];by_cases v:a=i;subst v;rw [zBx rfl,zBx rfl,zBx (by rw [D];exact a0)];rfl
    .rw [zBw v,zBw (λj=>v j.symm),zAb]
   have hrel:∃(X:Nat) (x:List (Nat×Nat)),X<=K/\Value.int .i64 (g+1:Nat)=.int .i64 X/\x.length=f.length/\(∀a,a∈d.take X->(aF x a,aS x a)=q (aF f a) (aS f a))/\(∀a,a∈d.drop X->(aF x a,aS x a)=(aF f a,aS f a))/\PermAt w1 s r C l N O M z y d x L B/\Keep (λc=>l.ownBlock=some c) m w1:=by
    refine ⟨g+1,_,by omega,rfl,by rw [zAt];exact ac,λi k=>?_,λi k=>?_,a7,a9⟩
    .rw [Z];by_cases v:i=a
     .subst v;rw [zBx rfl,hCr,hCp]
     rw [zBw v];refine a8 i ?_;rw [zAv,F] at k;simp at k;rcases k with k | k;exact k;exact absurd k v
    .rw [Z];have ay:i≠a:=λj=>by subst j;have aw:d.drop g=i::d.drop (g+1):=(by have E:g < d.length:=(by rw [V];exact ad);rw [zAx E];have U:=F;rw [zAa E] at U;injection U with U;rw [U]);have H:=(zGl g d).nodup ah;rw [aw,zDe] at H;exact H.1 k
     rw [zBw ay];exact Y i (zFz (by rw [<-zFB] at k;exact k:i∈(d.drop g).drop 1))
   clear a7 a9 Z w ab a6 al;go_wp2_with fail;go_roundw
   case rel=>exact hrel
   case measure=>exact zr
  .obtain rfl:g=K:=oM;have ag:=p;clear p Y;go_wp2_with fail;go_end0;refine ⟨rfl,ag,b,ac,λa p=>a8 a ?_,e⟩;rw [zAg (by rw [V];exact zAs _)];exact p
def aBS {m j q k l:Nat} {f t u s} {o n:Nat} {c b r p g} (w:PermAt g m j q f t u s o n c b r p) (D:c.Nodup) (C:c.length<=1000000) (F:Bk g k 3 #[(l:Int)]) (A:∀e,f.ownBlock=some e->e≠k) (x:∀a,a∈c->aF b a<=1000000000000/\aS b a<=1000000000000):
 Calls prog 169 #[j,.func (.func 178) #[] #[k]] g λi v=>i=.returned (.tuple #[])/\Keep (λe=>f.ownBlock=some e) g v/\∃d,d.length=b.length/\(∀a,a∈c->(aF d a,aS d a)=(inR (aF b a) l,aS b a))/\PermAt v m j q f t u s o n c d r p:=
 qV (λH G=>(inR H l,G)) w D C x (mM func178 kR kR) λ_ _ _ a _ _ B E y z=>aHs a E y (B.d F λi=>A _ i rfl) z.1
def aBT {m j q k l:Nat} {f t u s} {o n:Nat} {c b r p g} (w:PermAt g m j q f t u s o n c b r p) (D:c.Nodup) (C:c.length<=1000000) (F:Bk g k 3 #[(l:Int)]) (A:∀e,f.ownBlock=some e->e≠k) (x:∀a,a∈c->aF b a<=1000000000000/\aS b a<=1000000000000):
 Calls prog 169 #[j,.func (.func 179) #[] #[k]] g λi v=>i=.returned (.tuple #[])/\Keep (λe=>f.ownBlock=some e) g v/\∃d,d.length=b.length/\(∀a,a∈c->(aF d a,aS d a)=(aF b a,inR (aS b a) l))/\PermAt v m j q f t u s o n c d r p:=
 qV (λH G=>(H,inR G l)) w D C x (mM func179 kR kR) λ_ _ _ a _ _ B E y z=>aHv a E y (B.d F λi=>A _ i rfl) z.2
end Go.Proofs.YtknjfpcdhdmghaaGreatDoor
