/- Lemmas of the walk. Conditions: each its own. -/
import Derived.Test.YtlghmcogeipojaaGreatDoorPn7
set_option linter.all false
set_option maxRecDepth 100000
set_option maxHeartbeats 4000000
open Go.Proofs.Tryz
namespace Go.Proofs.YtlghmcogeipojaaGreatDoor
open Go.RowKit Go.Shelf
def TreeE.a6 {c j d e i f} (l:TreeE c e i f) (q:Keep d c j) (p:∀a,d a->∃b g,Bk c a b g/\(b=181∨b=184)):TreeE j e i f:=
 l.keep q λa b g ht n _ k=>by obtain ⟨s,r,o,m⟩:=p a k;rw [(aU n o).1] at ht;rcases m with rfl | rfl <;>(revert ht;decide)
def TreeE.typed {i j q o} (H:TreeE i j q o):TreeE i (λa=>j a/\∃f b,Bk i a f b/\f∈ [223,173,226,240,4,3]) q o:=by
 have L:∀ {l:Nat} {n:List Bool} {k:List Nat},ArenaE i j l n k->ArenaE i (λa=>j a/\∃f b,Bk i a f b/\f∈ [223,173,226,240,4,3]) l n k:=λ⟨I,v,E,u,D,c,m,g,J,K⟩=>
  ⟨⟨I,_,_,c,by decide⟩,v,E,u,D,c,m,g,λa d=>⟨J a d,by obtain ⟨b,e⟩:=fX m d;exact ⟨_,b,e,by decide⟩⟩,λa d=>⟨K a d,by obtain ⟨b,e⟩:=fX g d;exact ⟨_,b,e,by decide⟩⟩⟩
 obtain ⟨N,F,l,t,C,M,Q,n,k,O,P,c,m,g⟩:=H;refine ⟨N,F,l,t,C,M,Q,n,k,O,P,⟨⟨c.W,_,_,c.rd.a,by decide⟩,c.rd,λa d=>⟨c.own a d,by obtain ⟨b,e⟩:=fX c.rd.row d;exact ⟨_,b,e,by decide⟩⟩,L c.V,c.Y,c.au⟩,m,?_⟩;rcases g with g |⟨f,G,s,w,x,y,z,A,B⟩;exact .inl g;exact .inr ⟨f,G,s,w,x,y,z,A,λp r=>⟨B p r,by obtain ⟨b,e⟩:=s.a p r;exact ⟨_,b,e,by decide⟩⟩⟩
def ShelfE (f:World) (own:Nat->Nat) (g:Nat) (e:Value) (i:List Nat) (lv c:Nat):Prop:=
 ∃d:Nat->Nat,f.ownsRow g 184 3 e c (eG d lv c)/\(∀a,e.ownBlock=some a->own a=2)/\∀b,b < c->TreeE f (λa=>own a=TC lv b) (d b) (aM i lv b)
def ShelfE.a5 {e o b f own i n g lv m} (q:ShelfE e own f n g lv m) (l:Keep (λa=>a=b) e o) (k:Bk e b 181 i):ShelfE o own f n g lv m:=by
 obtain ⟨p,r,s,t⟩:=q;refine ⟨p,aC r λa w _ j=>l.d j λc=>?_,s,λv u=>(t v u).a6 l λa c=>?_⟩;have d:a=b:=c;subst d;exact absurd (aU j k).1 dC;have d:a=b:=c;subst d;exact ⟨_,i,k,.inl rfl⟩
def ShelfE.mono {b own j B B' l c lv i} (o:ShelfE b own B l c lv i) (hB:B'<=B) (g:∀a,a < b.heap.size->own a≠0->j a=own a):ShelfE b j B' l c lv i:=by
 obtain ⟨m,e,p,q⟩:=o;refine ⟨m,cG e hB,λa f=>?_,λk s=>(q k s).mono λa r n=>?_⟩;have:=p a f;rw [g a (e.lt a f).2 oM];exact this;have d:own a=TC lv k:=n;rw [g a r (by rw [d];unfold TC;omega)];exact d
structure RowsE (w:World) (own:Nat->Nat) (B gv:Nat) (S:Nat->Value) (L:List Nat) (lv:Nat):Prop where
 q:∀b,own b≠0->B<=b/\b < w.heap.size
 dn:own gv=2
 rows:∀j,j < lv->ShelfE w own B (S j) L j (2 ^ j)
def aMT {b c f:Nat} (g:c<=b/\b < f):∀a,(if a=b then 2 else 0)≠0->c<=a/\a < f:=λa e=>by
 by_cases d:a=b;subst d;exact g;rw [zBw d] at e;exact absurd rfl e
def aBz (own:Nat->Nat) (d:Nat) (e:Option Nat) (c b a:Nat):Nat:=if a < d then own a else if e=some a then 2 else if a < c then b else 0
def ShelfE.next {e g own n l lv b r k o f H} (M:lv < 9) (N:b < 2 ^ lv) (E:e.ownsRow n 184 3 r b (eG f lv b)) (z:∀a,r.ownBlock=some a->own a=2) (A:∀d,d < b->TreeE e (λa=>own a=TC lv d) (f d) (aM o lv d)) (C:∀a,own a≠0->a < e.heap.size) (G:Keep H e g) (B:∀a,H a->∃m t,Bk e a m t/\(m=181∨m=184)) (ht:TreeE g (λa=>e.heap.size<=a) l (aM o lv b)) (x:g.ownsRow n 184 3 k (b+1) (eG f lv b++ [.pointer (some l),.int .i64 lv,.int .i64 b])) (F:k.ownBlock=r.ownBlock∨∃q,k.ownBlock=some q/\e.heap.size<=q):ShelfE g (aBz own e.heap.size k.ownBlock g.heap.size (TC lv b)) n k o lv (b+1):=by
 have w:∀a,a < e.heap.size->aBz own e.heap.size k.ownBlock g.heap.size (TC lv b) a=own a:=λa c=>by unfold aBz;rw [zBx c]
 refine ⟨λj=>if j=b then l else f j,?_,λa c=>?_,λd O=>?_⟩;rw [jT,aCP (λj=>if j=b then l else f j) f lv b (λj L=>zBw oM),zBx rfl];exact x
 .rcases F with i |⟨q,i,K⟩;rw [i] at c;rw [w a (E.lt a c).2];exact z a c
  .rw [i] at c;injection c with c;subst c;unfold aBz;rw [zBw oM,zBx i]
 show TreeE g _ (if d=b then l else f d) _;by_cases s:d=b;subst s;rw [zBx rfl];refine ht.typed.mono λa v p=>?_;obtain ⟨J,m,t,c,y⟩:=p;unfold aBz;rw [zBw oM,zBw (λi=>?_),zBx v];obtain ⟨I,D⟩:=fX x i;rw [(aU c D).1] at y;revert y;decide;rw [zBw s];refine ((A d oM).a6 G B).mono λa v p=>?_;have u:own a=TC lv d:=p;have c:=C a (by rw [u];unfold TC;omega);rw [w a c];exact u
def aKW {own e d c f v} (k:∀a,own a≠0->f<=a/\a < e) (m:e<=d) (hB:f<=e) (l:∀a,v=some a->a < d):∀a,aBz own e v d c a≠0->f<=a/\a < d:=λa b=>by
 unfold aBz at b;by_cases g:a < e;rw [zBx g] at b;have:=k a b;exact ⟨this.1,by omega⟩;rw [zBw g] at b;by_cases i:v=some a;have:=l a i;exact ⟨by omega,this⟩;rw [zBw i] at b;by_cases j:a < d;exact ⟨by omega,j⟩;rw [zBw j] at b;exact absurd rfl b
def aDv {bo Z} (bu) {bp t B} (be:Rd B bp 1 bo Z (t.map sv)) (hB:bp<=B.heap.size) (aj:Z<=896) (bx:∀O∈t,O < 257):
 Calls prog 135 #[.slice bo Z bu] B λl aH=>∃e own,l=.returned (.tuple #[.pointer (some ⟨e,0,none⟩),o0])/\WaveE aH B.heap.size own e t/\Below B.heap.size B aH:=by
 have bM:t.length=Z:=by simpa using be.1
 have am:=lhd bM;obtain ⟨e,bH⟩:=eqx B.heap.size;obtain ⟨ah,aw⟩:=eqx (B.alloc (.cells #[(),(),(),(),(),(),(),(),(),(Z:Int),o0] 181));have a2:Bk ah e 181 (wcells (λ_=>.slice none 0 0) (Z:Int) 0):=by rw [<-aw,<-bH];have S:=kd B 181 #[(),(),(),(),(),(),(),(),(),(Z:Int),o0];unfold wcells;exact S
 have aX:Below B.heap.size B ah:=by rw [<-aw];exact bR.alloc nL _
 have aJ:=a2;obtain ⟨bY,av⟩:=hqq2 aw bH;clear bM a2 aw;go_enter func135,ntmps135;go_wp2_with fail;rw [bY.out]
 try rw [av.out]
 go_loopw [20] (λj wr=>∃r:Nat,r<=Z/\j=.int .i64 r/\Below ah.heap.size ah wr) (λj _=>Z -(intOf j).toNat)
 case atStart=>exact ⟨0,by omega,rfl,kg _ _⟩
 case round=>
  obtain ⟨r,aA,rfl,k⟩:=hrel;have bg:=k.size;have bQ:=aX.size;by_cases bN:r < Z
  .have cG:r < t.length:=(by rw [am.out];exact bN);obtain ⟨O,ac⟩:∃O,t[r]?=some O:=⟨t[r],zAa cG⟩;obtain ⟨a,da,dl,rfl,cx,ag,b2⟩:=(((be.mono hB).below aX).below (k.mono bQ)).get bN;rw [zAf,ac] at ag;simp at ag;subst ag;have ar:O < 257:=bx O (zAd ac);unfold sv at b2;clear ac;go_wp2_with fail;refine (fW _ ar).mono ?_;rintro l w1 ⟨rfl,cr⟩;have aa:=k.trans (cr.mono bg);go_wp2_with fail;go_roundw
   case rel=>exact ⟨r+1,by omega,by go_num,aa⟩
   case measure=>exact zr
  .have cH:r=Z:=oM;subst cH;have bq:=k;clear k;go_wp2_with fail;go_loopw [28] (λj wr=>∃lv:Nat,lv<=9/\j=.int .i64 lv/\Below B.heap.size B wr/\ah.heap.size<=wr.heap.size/\∃R mL,Bk wr e 181 (wcells R (r:Int) 0)/\RowsE wr mL B.heap.size e R t lv/\(∀I,lv<=I->R I=.slice none 0 0)) (λj _=>9 -(intOf j).toNat)
   case atStart=>exact ⟨0,by omega,rfl,aX.trans (bq.mono bQ),bg,_,λa=>if a=e then 2 else 0,aJ.below bq aJ.lt,⟨aMT ⟨by have:=av.out;omega,zAl aJ.lt bg⟩,zBx rfl,λI bK=>absurd bK oM⟩,λI _=>rfl⟩
   case round=>
    obtain ⟨lv,dH,rfl,a2,cn,R,mL,ai,a4,ba⟩:=hrel;by_cases aD:lv < 9
    .obtain ⟨y,cp⟩:∃y,y=wr:=⟨_,rfl⟩;subst cp;obtain ⟨A,aj⟩:=eqx (2 ^ lv);have dK:A<=512:=(by rw [<-aj];exact zAk (zBp dC (by omega:lv<=9)) dC);have dL:=aKy A oM;have dI:(2:Int)^ lv=A:=(by rw [<-aj];push_cast;rfl);obtain ⟨J,bE⟩:=eqx y.heap.size;obtain ⟨ad,ax⟩:∃ad,y.alloc (.cells (rowC (λ_=>.slice none 0 0) A) 119)=ad:=⟨_,rfl⟩;have bD:Bk ad J 119 (rowC (λ_=>.slice none 0 0) A):=(by rw [<-ax,<-bE];exact kd _ _ _);have cw:=Bits.start ad y.heap.size J A bD;have cv:Below y.heap.size y ad:=(by rw [<-ax];exact bR.alloc nL _);obtain ⟨bt,bZ,c0,aK⟩:=hqq4 ba ax bE aj;clear ba ax bD aj;go_wp2_with fail;rw [bZ.out];obtain ⟨d7,cD,d4,d5,d6⟩:=info_parts nE;have cz:=zy ((lv:Int) < 9);rw [cz];go_loopw [37] (λj bn=>∃(I:Nat) (aN:Nat->Value),I<=r/\j=.int .i64 I/\Bits bn y.heap.size J A aN (λd=>aM (t.take I) lv d)/\Below y.heap.size y bn/\ad.heap.size<=bn.heap.size) (λj _=>r -(intOf j).toNat)
     case atStart=>exact ⟨0,_,by omega,rfl,by rw [zDN];exact cw,cv,zAs _⟩
     case round=>
      obtain ⟨I,aN,bK,rfl,b0,aa,dQ⟩:=hrel;have bS:=aa.size;by_cases bL:I < r
      .have cF:I < t.length:=(by rw [am.out];exact bL);obtain ⟨O,ac⟩:∃O,t[I]?=some O:=⟨t[I],zAa cF⟩;have aU:Below B.heap.size B wr:=a2.trans (aa.mono a2.size);obtain ⟨dq,da,dl,rfl,cx,ag,b2⟩:=((be.mono hB).below aU).get bL;rw [zAf,ac] at ag;simp at ag;subst ag;have ar:O < 257:=bx O (zAd ac);have bU:t.take (I+1)=t.take I++ [O]:=(by rw [zAv,ac];rfl);have cY:(t.take I).length<=896:=(by rw [zAj];omega);unfold sv at b2;have bX:=lhd bU;have dE:=aU;clear ac bU aU;go_wp2_with fail;refine (mI lv _ ar oM).mono ?_;rintro l w1 ⟨rfl,V⟩;obtain ⟨d,a3⟩:=eqx (bF O lv);rw [a3];have af:d < A:=(by rw [<-aK.out,<-a3];exact nY lv ar oM);have cL:(d:Int) < A:=oM;have ay:=b0.below V;obtain ⟨Q,a5⟩:=eqx (aM (t.take I) lv d);obtain ⟨s,ab⟩:=eqx Q.length;have cN:s<=896:=(by rw [<-ab,<-a5,iX];exact zAk zBh cY);have X:=ay.own d af;simp only [a5,ab] at X;obtain ⟨K,L,a9,bO,_⟩:=aZ X;have aR:=X.lt;rw [a9] at X aR;have bW:y.heap.size<=w1.heap.size:=zAk bS V.size;have bl:(Value.slice K s L).ownBlock≠some J:=λl=>bC X ay.a dC l.symm;have b1:=ay.a;have b3:w1.cell? ⟨J,d,none⟩=some (.slice K s L):=(by rw [<-a9];exact (b1.cell d).trans (pO _ af));have b6:=b1.lt;obtain ⟨a,bz⟩:=eqx (iF O lv);obtain ⟨bs,c1,aL,c2,br⟩:=hqq5 bz a3 a5 ab a9;clear bz a3 a5 ab a9;go_wp2_with fail;refine wp_region_any kR<|cQ 12 [44,45,46,47,48,49,50,51,52,53,54,55] (λa=>(Value.slice K s L).ownBlock=some a) 10 [10] (λn x=>x.ownsRow y.heap.size 4 1 n (s+1) (Q.map Value.bool++ [.bool a])/\(n.ownBlock=(Value.slice K s L).ownBlock∨∃w,n.ownBlock=some w/\w1.heap.size<=w)) [is (.slice (some ⟨J,0,none⟩) A A),is (d:Int),is (.slice (some ⟨J,0,none⟩) A A),is (d:Int),is (.pointer (some ⟨J,d,none⟩)),is (.slice K s L),is (O:Int),is (lv:Int),is (.bool a),pT (λa=>(Value.slice K s L).ownBlock=some a) 4 #[.bool a] λw=>.slice (some ⟨w,0,none⟩) 1 1,cO,is (.pointer (some ⟨J,d,none⟩))] _ rfl dC kR kR kR (X) (λx dn S _ b5=>aP S b5) (λ_ _ _ ⟨a7,a8⟩ r=>⟨aP a7 r,a8⟩) tA3 ?_ ?_
       .refine bB<|pH3 8 (.slice (some ⟨J,0,none⟩) A A)<|pH3 11 (.int .i64 d)<|pH3 8 (.slice (some ⟨J,0,none⟩) A A)<|pH3 11 (.int .i64 d)<|pW3 2 46 3 47<|pL3 4 48 (λq g=>have g:Keep (λa=>(Value.slice K s L).ownBlock=some a) w1 q:=kD g;((g.cell (p:=⟨J,d,none⟩) b6 bl).trans b3:q.cell? ⟨J,d,none⟩=some (.slice K s L))) ?_;refine pH3 10 (.int .i64 O)<|pH3 7 (.int .i64 lv)<|sC3 (λ_ q _ _ _ _ _ u _ _ _ N=>?_) ?_
        .have dt:_=_:=u 6 50 kR rfl;have du:_=_:=u 7 51 kR rfl;go_simp;refine (oQ q ar aD).mono ?_;rintro l dp ⟨rfl,aV⟩;rw [bs.out];exact N _ _ (aE aV) rfl
        refine sC3 (λ_ q g _ _ _ _ u _ _ _ N=>?_) ?_
        .replace g:Keep (λa=>(Value.slice K s L).ownBlock=some a) w1 q:=kD g;have dv:_=_:=u 8 52 kR rfl;go_simp;exact N _ _ (aE (bR.alloc nL _)) ⟨_,rfl,kd _ _ _,λS=>by have:=(aR _ S).2;have:=g.size;omega⟩
        refine sC3 (λP q g aS _ _ _ u _ _ aT N=>?_) ?_;replace g:Keep (λa=>(Value.slice K s L).ownBlock=some a) w1 q:=kD g;have bc:=aS rfl;have c5:_=_:=u 5 49 kR rfl;have dd:(pT (λa=>(Value.slice K s L).ownBlock=some a) 4 #[.bool a] λw=>.slice (some ⟨w,0,none⟩) 1 1) (P (.tmp 53)) q:=u 9 53 kR rfl;obtain ⟨cd,c6,cs,dM⟩:=dd;subst aT;have bh:y.heap.size<=q.heap.size:=zAk bW g.size;have d3:=g.size;refine fK q (.tmp 49) (.tmp 53) _ rfl y.heap.size 4 d7 (.bool false) 1 1 underlying119 cD d4 d5 d6 rfl dC (.slice K s L) s (Q.map Value.bool) c5 bc q.heap.size (some ⟨cd,0,none⟩) 1 1 [.bool a] c6 (aGt cs) (by simp [Value.oneCell']) zx oM bh ?_;intro dm o Y W a0;refine N _ _ (aW ⟨W.os,W.tape,W.output,W.size,λr aA b9=>W.block r aA (λl=>b9 l.symm)⟩) ⟨Y,?_⟩;rcases a0 with aQ | aQ;exact .inl aQ;exact .inr ⟨_,aQ,d3⟩;refine pW3 0 44 1 45 ?_;exact aB
       .intro P o z g u;replace g:Keep (λa=>(Value.slice K s L).ownBlock=some a) w1 o:=kD g;have de:(λn x=>x.ownsRow y.heap.size 4 1 n (s+1) (Q.map Value.bool++ [.bool a])/\(n.ownBlock=(Value.slice K s L).ownBlock∨∃w,n.ownBlock=some w/\w1.heap.size<=w)) (P (.tmp 54)) o:=u 10 54 dC rfl;have c8:P (.tmp 55)=.pointer (some ⟨J,d,none⟩):=u 11 55 dC rfl;simp only [zqq];rw [c8];clear u;obtain ⟨Y,a0⟩:=de;have bd:=Bits.push (v:=P (.tmp 54)) (b:=a) ay af (by rw [br.out];exact g) (by simp only [aL.out,c2.out];exact Y) (by rw [br.out];exact a0);obtain ⟨C,E,c7,_,_⟩:=aZ Y;rw [c7] at bd⊢;have a1:=g.d b1 bl;have dr:o.cell? ⟨J,d,none⟩=some (.slice K s L):=(g.cell (p:=⟨J,d,none⟩) b6 bl).trans b3;have dB:=a1.frozen d;have dF:=a1.lt;clear a1 Y a0;change wpAny prog Region.Mode.any _ _ (1+z) (bT 12 13) _ o;rw [zCt 1 z];refine aY (f:=z) (i:=12) kR ?_;refine bJ rfl rfl ?_;generalize N:wpAny prog _ _ _ z _=K5;go_simp;subst N;refine bG kR ?_
        have ct:Below y.heap.size y (o.setCell ⟨J,d,none⟩ (.slice C (s+1) E)):=
         ((aa.trans (V.mono bS)).trans (g.e bW (λa k S=>by have:=(aR _ S).1;omega))).setCell (by rw [c0.out];exact zAs _) _
        have cR:ad.heap.size<=(o.setCell ⟨J,d,none⟩ (.slice C (s+1) E)).heap.size:=by have a7:=V.size;have a8:=g.size;have an:(o.setCell ⟨J,d,none⟩ (.slice C (s+1) E)).heap.size=o.heap.size:=(by simp [World.setCell]);omega
        have cy:=bd.congr (R':=λbm=>aM (t.take (I+1)) lv bm) (λbm dO=>by
         rw [bX.out,aJr,c1.out,bs.out];by_cases l:bm=d
         .subst l;simp
         .simp [l])
        clear bd;go_wp2_with fail;go_roundw
        case rel=>exact ⟨I+1,_,by omega,by go_num,cy,ct,cR⟩
        case measure=>exact zr
      .have cE:I=r:=oM;subst cE;have ck:t.take I=t:=zAg (by rw [am.out];omega);rw [ck] at b0;obtain ⟨U,cm⟩:∃U,U=wr:=⟨_,rfl⟩;subst cm;have d2:B.heap.size<=U.heap.size:=zAk a2.size aa.size;have al:=lhd aa;clear aa;obtain ⟨d8,cf,cg,ch,ci⟩:=info_parts aGi;go_wp2_with fail;go_loopw [59] (λj ak=>∃(d:Nat) (n:Value),d<=A/\j=.int .i64 d/\Bits ak y.heap.size J A aN (λd=>aM t lv d)/\Keep (λa=>a=e) y ak/\U.heap.size<=ak.heap.size/\Bk ak e 181 (wcells (λj=>if j=lv then n else R j) (I:Int) 0)/\∃a6:Nat->Nat,(∀a,a < y.heap.size->a6 a=mL a)/\(∀a,a6 a≠0->B.heap.size<=a/\a < ak.heap.size)/\ShelfE ak a6 U.heap.size n t lv d) (λj _=>A -(intOf j).toNat)
       case atStart=>
        refine ⟨0,.slice none 0 0,by omega,rfl,b0,(kF al),zAs _,?_,mL,λ_ _=>rfl,λa k=>⟨(a4.q a k).1,zAl (a4.q a k).2 al.size⟩,(λ_=>0),ki _ _ _ _,λa k=>(by cases k),λd a3=>absurd a3 oM⟩
        have cl:(λj=>if j=lv then Value.slice none 0 0 else R j)=R:=by
         funext j;by_cases l:j=lv
         .rw [zBx l,l,bt lv nL]
         .rw [zBw l]
        rw [cl];exact ai.below al ai.lt
       case round=>
        obtain ⟨d,n,a3,rfl,ap,aq,bP,V,a6,aF,az,bf⟩:=hrel;by_cases af:d < A
        .have X:=ap.own d af;obtain ⟨Q,a5⟩:=eqx (aM t lv d);obtain ⟨s,ab⟩:=eqx Q.length;have cN:s<=896:=(by rw [<-ab,<-a5,iX];exact zAk zBh (by rw [am.out];exact aj));simp only [a5,ab] at X;obtain ⟨K,L,a9,bO,_⟩:=aZ X;rw [a9] at X;have b3:wr.cell? ⟨J,d,none⟩=some (.slice K s L):=(by rw [<-a9];exact (ap.a.cell d).trans (pO _ af));obtain ⟨aI,ae,d1,cZ⟩:=bf;obtain ⟨D,G,d0,dP,_⟩:=aZ ae;subst d0;have ao:=ae.lt;have b7:(Value.slice D d G).ownBlock≠some e:=λl=>bC ae V dC l.symm;have b4:∀T,184≠T->∀a M,Bk wr a T M->(Value.slice D d G).ownBlock≠some a:=λT ht a M k l=>bC ae k ht l.symm;have cB:∀a,(Value.slice D d G).ownBlock=some a->∃T M,Bk wr a T M/\(T=181∨T=184):=λa k=>by obtain ⟨M,S⟩:=fX ae k;exact ⟨_,M,S,.inr rfl⟩
         have bv:wr.cell? ⟨e,lv,none⟩=some (.slice D d G):=(V.cell lv).trans (by rw [vZ _ _ _ aD,zBx rfl]);have bI:=V.lt;have b6:=ap.a.lt;have dJ:d+1<=512:=oM;have cL:(d:Int) < A:=oM;have dR:=al.size;have aL:=lhd a5;clear a5 a9 ab;go_wp2_with fail;refine wp_region_any kR<|cQ 18 [64,65,66,67,68,69,70,71,72,73,74,75,76,77,78,79,80,81] (λa=>(Value.slice D d G).ownBlock=some a) 14 [14] (λn x=>∃m,TreeB x wr.heap.size m Q/\x.ownsRow U.heap.size 184 3 n (d+1) (eG aI lv d++ [.pointer (some ⟨m,0,none⟩),.int .i64 lv,.int .i64 d])/\(n.ownBlock=(Value.slice D d G).ownBlock∨∃w,n.ownBlock=some w/\wr.heap.size<=w)) [is (.pointer (some ⟨e,0,none⟩)),is (lv:Int),is (.pointer (some ⟨e,0,none⟩)),is (lv:Int),is (.pointer (some ⟨e,0,none⟩)),is (.pointer (some ⟨e,0,none⟩)),is (.pointer (some ⟨e,lv,none⟩)),is (.slice D d G),is (.slice K s L),λn x=>∃m,n=.pointer (some ⟨m,0,none⟩)/\TreeB x wr.heap.size m Q,is (lv:Int),is (d:Int),λn x=>∃m,n=.agg #[.pointer (some ⟨m,0,none⟩),(lv:Int),(d:Int)]/\TreeB x wr.heap.size m Q,λn x=>∃w m,n=.slice (some ⟨w,0,none⟩) 1 1/\Bk x w 184 #[.pointer (some ⟨m,0,none⟩),(lv:Int),(d:Int)]/\(Value.slice D d G).ownBlock≠some w/\TreeB x wr.heap.size m Q,cO,is (.pointer (some ⟨e,0,none⟩)),is (.pointer (some ⟨e,0,none⟩)),is (.pointer (some ⟨e,lv,none⟩))] _ rfl dC kR kR kR (ae) (λx dn S _ b5=>aP S b5) (λ_ _ _ ⟨m,a7,a8,an⟩ r=>⟨m,a7.below r,aP a8 r,an⟩) (by repeat' (first | exact gK _ _ | exact fB _ | exact λ_ _ _ ⟨m,a7,a8⟩ r=>⟨m,a7,a8.keep r (λa k=>(ao a k).2)⟩| exact λ_ _ _ ⟨w,m,a7,a8,an,cj⟩ r=>⟨w,m,a7,r.d a8 an,an,cj.keep r (λa k=>(ao a k).2)⟩|(refine zAe.2 ⟨?_,?_⟩)|(intro d a3;cases a3))) ?_ ?_
         .refine bB<|pH3 4 (.pointer (some ⟨e,0,none⟩))<|pH3 7 (.int .i64 lv)<|pH3 4 (.pointer (some ⟨e,0,none⟩))<|pH3 7 (.int .i64 lv)<|pV3 2 66<|pV3 4 68<|pW3 5 69 3 67<|pL3 6 70 (λq g=>have g:Keep (λa=>(Value.slice D d G).ownBlock=some a) wr q:=kD g;((g.cell (p:=⟨e,lv,none⟩) bI b7).trans bv:q.cell? ⟨e,lv,none⟩=some (.slice D d G))) ?_;refine pH3 13 (.slice K s L)<|sC3 (λ_ q g _ _ _ _ u _ _ _ N=>?_) ?_
          .replace g:Keep (λa=>(Value.slice D d G).ownBlock=some a) wr q:=kD g;have dw:_=_:=u 8 72 kR rfl;go_simp;have dc:=aC X (λa M k bA=>g.d bA (b4 _ dC a M bA));refine (aFk (Rd.s dc) nL oM bO).mono ?_;rintro l dp ⟨m,rfl,cX,aV⟩;exact N _ _ (aE aV) ⟨m,rfl,cX.mono g.size⟩
          refine pH3 7 (.int .i64 lv)<|pH3 12 (.int .i64 d)<|sC3 (λP q _ _ _ _ _ u _ _ _ N=>?_) ?_
          .have df:(λn x=>∃m,n=.pointer (some ⟨m,0,none⟩)/\TreeB x wr.heap.size m Q) (P (.tmp 73)) q:=u 9 73 kR rfl;have dy:_=_:=u 10 74 kR rfl;have dz:_=_:=u 11 75 kR rfl;obtain ⟨m,dx,cU⟩:=df;go_simp;exact N _ _ (aE bR) ⟨m,rfl,cU⟩
          refine sC3 (λP q g _ _ _ _ u _ _ _ N=>?_) ?_
          .replace g:Keep (λa=>(Value.slice D d G).ownBlock=some a) wr q:=kD g;have dg:(λn x=>∃m,n=.agg #[.pointer (some ⟨m,0,none⟩),(lv:Int),(d:Int)]/\TreeB x wr.heap.size m Q) (P (.tmp 76)) q:=u 12 76 kR rfl;obtain ⟨m,dA,cV⟩:=dg;go_simp;exact N _ _ (aE (bR.alloc nL _)) ⟨_,m,rfl,kd _ _ _,λS=>by have:=(ao _ S).2;have:=g.size;omega,cV.below (bR.alloc nL _)⟩
          refine sC3 (λP q g aS _ _ _ u _ _ aT N=>?_) ?_;replace g:Keep (λa=>(Value.slice D d G).ownBlock=some a) wr q:=kD g;have bc:=aS rfl;have c9:_=_:=u 7 71 kR rfl;have dh:(λn x=>∃w m,n=.slice (some ⟨w,0,none⟩) 1 1/\Bk x w 184 #[.pointer (some ⟨m,0,none⟩),(lv:Int),(d:Int)]/\(Value.slice D d G).ownBlock≠some w/\TreeB x wr.heap.size m Q) (P (.tmp 77)) q:=u 13 77 kR rfl;obtain ⟨ce,m,ca,cu,dN,cW⟩:=dh;subst aT;have bh:U.heap.size<=q.heap.size:=zAk bP g.size;refine fK q (.tmp 71) (.tmp 77) _ rfl U.heap.size 184 d8 _ 3 24 underlying178 cf cg ch ci rfl dC (.slice D d G) d (eG aI lv d) c9 bc q.heap.size (some ⟨ce,0,none⟩) 1 1 _ ca (aAf cu rfl) (by simp [Value.oneCell']) zx oM bh ?_;intro dm o Y W a0;have bV:Keep (λa=>(Value.slice D d G).ownBlock=some a) q o:=⟨W.os,W.tape,W.output,W.size,λr aA b9=>W.block r aA (λl=>b9 l.symm)⟩;exact N _ _ (aW bV) ⟨m,cW.keep bV (λa k=>(ao a k).2),Y,a0.elim .inl λl=>.inr ⟨_,l,g.size⟩⟩;refine pV3 0 64<|pV3 15 79<|pW3 16 80 1 65 ?_;exact aB
         .intro P o z g u;replace g:Keep (λa=>(Value.slice D d G).ownBlock=some a) wr o:=kD g;have di:(λn x=>∃m,TreeB x wr.heap.size m Q/\x.ownsRow U.heap.size 184 3 n (d+1) (eG aI lv d++ [.pointer (some ⟨m,0,none⟩),.int .i64 lv,.int .i64 d])/\(n.ownBlock=(Value.slice D d G).ownBlock∨∃w,n.ownBlock=some w/\wr.heap.size<=w)) (P (.tmp 78)) o:=u 14 78 dC rfl;have cc:P (.tmp 81)=.pointer (some ⟨e,lv,none⟩):=u 17 81 dC rfl;simp only [zqq];rw [cc];clear u;obtain ⟨m,cT,Y,a0⟩:=di;obtain ⟨C,E,cb,_,_⟩:=aZ Y;rw [cb] at Y a0⊢;have a1:=g.d V b7;have ds:o.cell? ⟨e,lv,none⟩=some (.slice D d G):=(g.cell (p:=⟨e,lv,none⟩) bI b7).trans bv;have dD:=a1.frozen lv;have dG:=a1.lt;change wpAny prog Region.Mode.any _ _ (1+z) (bT 18 19) _ o;rw [zCt 1 z];refine aY (f:=z) (i:=18) kR ?_;refine bJ rfl rfl ?_;generalize N:wpAny prog _ _ _ z _=K5;go_simp;subst N;refine bG kR ?_;have au:Keep (λa=>a=e) o (o.setCell ⟨e,lv,none⟩ (.slice C (d+1) E)):=ka (F:=λa=>a=e) (ke _ _) (p:=⟨e,lv,none⟩) (.inl rfl) _;have aG:∀T,181≠T->∀a M,Bk o a T M->Bk (o.setCell ⟨e,lv,none⟩ (.slice C (d+1) E)) a T M:=λT ht a M k=>k.m (λl=>Bk.ne a1 k ht l.symm) _;have d9:Keep (λa=>a=e) y (o.setCell ⟨e,lv,none⟩ (.slice C (d+1) E)):=(aq.trans' g (λa k z=>by have:=(ao a z).1;omega)).trans au;have c3:=ap.same (w':=o.setCell ⟨e,lv,none⟩ (.slice C (d+1) E)) (λa M k=>aG _ dC _ _ (g.d k (b4 _ dC a M k))) (λa M k=>aG _ dC _ _ (g.d k (b4 _ dC a M k)));have aO:=a1.set lv (.slice C (d+1) E);rw [aF0 _ _ _ aD] at aO
          have bw:(λbi=>if bi=lv then Value.slice C (d+1) E else if bi=lv then Value.slice D d G else R bi)=(λj=>if j=lv then Value.slice C (d+1) E else R j):=by
           funext j;by_cases l:j=lv
           .rw [zBx l,zBx l]
           .rw [zBw l,zBw l,zBw l]
          rw [bw] at aO;have bj:Keep (λa=>(Value.slice D d G).ownBlock=some a∨a=e) wr (o.setCell ⟨e,lv,none⟩ (.slice C (d+1) E)):=(g.mono λa _ z=>.inl z).trans (au.mono λa _ z=>.inr z);have cS:o.heap.size=(o.setCell ⟨e,lv,none⟩ (.slice C (d+1) E)).heap.size:=(by simp [World.setCell]);have bb:=aC (w':=o.setCell ⟨e,lv,none⟩ (.slice C (d+1) E)) Y λa M _ k=>aG _ dC _ _ k;have dj:ShelfE (o.setCell ⟨e,lv,none⟩ (.slice C (d+1) E)) (aBz a6 wr.heap.size (Value.slice C (d+1) E).ownBlock (o.setCell ⟨e,lv,none⟩ (.slice C (d+1) E)).heap.size (TC lv d)) U.heap.size (.slice C (d+1) E) t lv (d+1):=(by refine ShelfE.next (H:=λa=>(Value.slice D d G).ownBlock=some a∨a=e) aD (by rw [aK.out];exact af) ae d1 cZ (λa k=>(az a k).2) bj (λa z=>?_) ?_ bb a0;rcases z with z | z;exact cB a z;subst z;exact ⟨_,_,V,.inl rfl⟩;rw [aL.out];exact cT.own.a6 au λa l=>⟨_,_,(show a=e from l)▸ a1,.inl rfl⟩);have db:∀a,a < y.heap.size->aBz a6 wr.heap.size (Value.slice C (d+1) E).ownBlock (o.setCell ⟨e,lv,none⟩ (.slice C (d+1) E)).heap.size (TC lv d) a=mL a:=λa k=>by unfold aBz;rw [zBx (zj al.size)];exact aF a k
          have c4:=aKW (v:=(Value.slice C (d+1) E).ownBlock) (c:=TC lv d) az bj.size oM (λa k=>(bb.lt a k).2);clear bb bj cS;have dk:U.heap.size<=(o.setCell ⟨e,lv,none⟩ (.slice C (d+1) E)).heap.size:=zAk bP (zAk g.size au.size);clear au aG bw;go_wp2_with fail;go_roundw
          case rel=>exact ⟨d+1,_,by omega,by go_num,c3,d9,dk,aO,_,db,c4,dj⟩
          case measure=>exact zr
        .have cM:d=A:=oM;subst cM;have cq:Below B.heap.size B wr:=a2.trans (aq.e a2.size (λa k l=>by have:=av.out;omega));have co:ah.heap.size<=wr.heap.size:=zAk cn aq.size;have cP:RowsE wr a6 B.heap.size e (λj=>if j=lv then n else R j) t (lv+1):=(by have cC:e < y.heap.size:=ai.lt;refine ⟨az,by rw [aF e cC];exact a4.dn,λj b8=>?_⟩;show ShelfE wr a6 B.heap.size (if j=lv then n else R j) t j (2 ^ j);by_cases l:j=lv;subst l;rw [zBx rfl,aK.out];exact bf.mono d2 λ_ _ _=>rfl;rw [zBw l];exact ((a4.rows j oM).a5 aq ai).mono nL λa _ cJ=>aF a (a4.q a cJ).2);have cK:∀j,lv+1<=j->(if j=lv then n else R j)=.slice none 0 0:=(by intro j b8;rw [zBw oM];exact bt j oM);clear ap aq bf aF az;go_wp2_with fail;go_roundw
         case rel=>exact ⟨lv+1,by omega,by go_num,cq,co,_,a6,V,cP,cK⟩
         case measure=>exact zr
    .have cI:lv=9:=oM;subst cI;have cA:WaveE wr B.heap.size mL e t:=⟨R,0,by rw [am.out];exact ai,⟨by have:=av.out;omega,a4.dn⟩,λj b8=>a4.rows j b8,a4.q⟩;clear ai a4 ba;go_wp2_with fail;go_ret2;exact ⟨e,mL,rfl,cA,a2⟩
def aAU {c gk:Nat} {e} {n l:Nat} (d:Nat) {o} (Y:WalkAt o c gk e) (R:d < 257) (au:n<=l) (Z:l<=e.length) (P:∀N∈e,N < 257) (y:e.length<=1000):
 Calls prog 117 #[gk,(n:Int),(l:Int),(d:Int)] o λp a5=>p=.returned (.tuple #[.int .i64 (cR e d n:Nat),.int .i64 (cR e d l:Nat)])/\VB c o a5:=by
 obtain ⟨C,D⟩:=eqx e.length;obtain ⟨j,E⟩:∃j,e.countP (λN=>decide (N < d))=j:=⟨_,rfl⟩;obtain ⟨t,H⟩:=eqx ((e.take n).count d);obtain ⟨u,I⟩:=eqx ((e.take l).count d);have a7:j<=1000:=by rw [<-E];exact zAk zBh y
 have b1:t<=1000:=by rw [<-H];exact zAk zBv (by rw [zAj];omega)
 have b2:u<=1000:=by rw [<-I];exact zAk zBv (by rw [zAj];omega)
 unfold cR;rw [E,H,I];obtain ⟨q,X,r,K,T⟩:=Y;have A:Hid (WalkAt o c gk e):=lhd ⟨q,X,r,K,T⟩;have aw:C<=1000:=oM;have av:l<=C:=oM;have z:=R;have a1:max (n:Int) 0=(n:Int):=oM;have a2:min (n:Int) (C:Int)=(n:Int):=oM;have a3:min (l:Int) (C:Int)=(l:Int):=oM;have a4:max (l:Int) (n:Int)=(l:Int):=oM;clear T Z;go_enter func117,ntmps117;go_wp2_with fail;refine (fW (s:=d) _ R).mono ?_;rintro p w1 ⟨rfl,Q⟩;have m:VB c o w1:=kc Q;clear Q;go_wp2_with fail;refine (mH (B:=c) (gk:=gk) (L:=e) (A.b m.1)).mono ?_;rintro p k ⟨rfl,rfl⟩;rw [D];go_wp2_with fail;refine (mH (B:=c) (gk:=gk) (L:=e) (A.b m.1)).mono ?_;rintro p k ⟨rfl,rfl⟩;rw [D];go_wp2_with fail;clear a1 a2 a3 a4;obtain ⟨k,a0⟩:∃k,k=w1:=⟨_,rfl⟩;subst a0;refine wp_region_any kR<|aQ (S:=(VB c)) (V:=(Vs [is gk,is (d:Int),is (j:Int),is gk,is gk,is gk,is q,is (n:Int),is (d:Int),is (t:Int),is (.int .i64 (j+t:Nat)),is gk,is (d:Int),is (j:Int),is gk,is gk,is gk,is q,is (l:Int),is (d:Int),is (u:Int),is (.int .i64 (j+u:Nat)),is (.int .i64 (j+t:Nat)),is (.int .i64 (j+u:Nat))])) [28,29,30,31,32,33,34,35,36,37,38,39,40,41,42,43,44,45,46,47,48,49,8,9] _ rfl kR vR (λ_ _=>VisK.trans) (dI tA0) ?_ ?_
 .refine aL<|pH 0 (.pointer (some gk))<|pH 3 (.int .i64 d)<|sC (λ_ g a _ _ _ b _ _ _ f=>?_) ?_
  .have a8:_=_:=b 0 28 kR rfl;have a9:_=_:=b 1 29 kR rfl;replace a:(VB c) k g:=bD a;go_simp;refine (jQ (B:=c) (gk:=gk) (L:=e) (s:=d) (w:=g) (A.b (m.trans a).1) z y).mono ?_;rintro p M ⟨rfl,G⟩;rw [E];exact f _ _ (kc G) rfl
  refine pH 0 (.pointer (some gk))<|sC (λ_ g a _ _ _ b _ _ _ f=>?_) ?_
  .have ab:_=_:=b 3 31 kR rfl;replace a:(VB c) k g:=bD a;have i:=(m.trans a).1.d r dC dC;have v:=i.cell 0;have x:=i.cell 1;go_simp;exact f _ _ vR rfl
  refine sC (λ_ g a _ _ _ b _ _ _ f=>?_) ?_
  .have ac:_=_:=b 4 32 kR rfl;replace a:(VB c) k g:=bD a;have i:=(m.trans a).1.d r dC dC;have v:=i.cell 0;have x:=i.cell 1;go_simp;exact f _ _ vR rfl
  refine sC (λ_ g a _ _ _ b _ _ _ f=>?_) ?_
  .have ad:_=_:=b 5 33 kR rfl;replace a:(VB c) k g:=bD a;have i:=(m.trans a).1.d r dC dC;have v:=i.cell 0;have x:=i.cell 1;go_simp;exact f _ _ vR rfl
  refine pH 1 (.int .i64 n)<|pH 3 (.int .i64 d)<|sC (λ_ g a _ _ _ b _ _ _ f=>?_) ?_
  .have ae:_=_:=b 6 34 kR rfl;have af:_=_:=b 7 35 kR rfl;have ag:_=_:=b 8 36 kR rfl;replace a:(VB c) k g:=bD a;go_simp;refine (iZ (B:=c) (gv:=q) (L:=e) (s:=d) (w:=g) n (K.b (m.trans a).1) z (by rw [D];omega) P y).mono ?_;rintro p M ⟨rfl,J⟩;rw [H];exact f _ _ J rfl
  refine sC (λ_ _ _ _ _ _ b _ _ _ f=>?_) ?_
  .have aa:_=_:=b 2 30 kR rfl;have ah:_=_:=b 9 37 kR rfl;have F:IntKind.i64.wrap (j+t)=((j+t:Nat):Int):=zu;go_simp;exact f _ _ vR (by first | rfl | exact F | simp [is])
  refine pH 0 (.pointer (some gk))<|pH 3 (.int .i64 d)<|sC (λ_ g a _ _ _ b _ _ _ f=>?_) ?_
  .have ai:_=_:=b 11 39 kR rfl;have aj:_=_:=b 12 40 kR rfl;replace a:(VB c) k g:=bD a;go_simp;refine (jQ (B:=c) (gk:=gk) (L:=e) (s:=d) (w:=g) (A.b (m.trans a).1) z y).mono ?_;rintro p M ⟨rfl,G⟩;rw [E];exact f _ _ (kc G) rfl
  refine pH 0 (.pointer (some gk))<|sC (λ_ g a _ _ _ b _ _ _ f=>?_) ?_
  .have al:_=_:=b 14 42 kR rfl;replace a:(VB c) k g:=bD a;have i:=(m.trans a).1.d r dC dC;have v:=i.cell 0;have x:=i.cell 1;go_simp;exact f _ _ vR rfl
  refine sC (λ_ g a _ _ _ b _ _ _ f=>?_) ?_
  .have am:_=_:=b 15 43 kR rfl;replace a:(VB c) k g:=bD a;have i:=(m.trans a).1.d r dC dC;have v:=i.cell 0;have x:=i.cell 1;go_simp;exact f _ _ vR rfl
  refine sC (λ_ g a _ _ _ b _ _ _ f=>?_) ?_
  .have an:_=_:=b 16 44 kR rfl;replace a:(VB c) k g:=bD a;have i:=(m.trans a).1.d r dC dC;have v:=i.cell 0;have x:=i.cell 1;go_simp;exact f _ _ vR rfl
  refine pH 2 (.int .i64 l)<|pH 3 (.int .i64 d)<|sC (λ_ g a _ _ _ b _ _ _ f=>?_) ?_
  .have ao:_=_:=b 17 45 kR rfl;have ap:_=_:=b 18 46 kR rfl;have aq:_=_:=b 19 47 kR rfl;replace a:(VB c) k g:=bD a;go_simp;refine (iZ (B:=c) (gv:=q) (L:=e) (s:=d) (w:=g) l (K.b (m.trans a).1) z (by rw [D];omega) P y).mono ?_;rintro p M ⟨rfl,J⟩;rw [I];exact f _ _ J rfl
  refine sC (λ_ _ _ _ _ _ b _ _ _ f=>?_) ?_
  .have ak:_=_:=b 13 41 kR rfl;have ar:_=_:=b 20 48 kR rfl;have F:IntKind.i64.wrap (j+u)=((j+u:Nat):Int):=zu;go_simp;exact f _ _ vR (by first | rfl | exact F | simp [is])
  refine pV 10 38<|pV 21 49 ?_;exact aB
 .intro O a6 a b;replace a:(VB c) k a6:=bD a;have U:O (.tmp 8)=.int .i64 (j+t:Nat):=b 22 8 rfl;have W:O (.tmp 9)=.int .i64 (j+u:Nat):=b 23 9 rfl;simp only [zqq];rw [U];rw [W];clear b;go_wp2_with fail;go_ret2;exact ⟨rfl,m.trans a⟩
def vG {A n} (d) {B b w} (r:Rd w B 1 A n (b.map bv)) (hB:B<=w.heap.size) (a3:n<=1000000):
 Calls prog 64 #[.slice A n d] w λe Q=>∃t C,e=.returned (.slice t (eE b).length C)/\Made Q w.heap.size 5 1 t (eE b).length C ((eE b).map bv)/\Below w.heap.size w Q:=by
 have I:b.length=n:=by have:=r.1;simpa using this
 obtain ⟨k0,q⟩:=eqx ((bW n).length);have a2:k0<=11:=by rw [<-q];exact bX n
 obtain ⟨o,p⟩:=eqx ((eE b).length);have a0:o<=2000000:=by rw [<-p,kW,I,q];omega
 have R:=(r.mono hB);have a1:=vA b;rw [p];clear r;go_enter func64,ntmps64;go_wp2_with fail;refine (aBd (l:=[n]) (bs:=(bW n)) (k:=k0) _ (tH n) q (Rd.made _ _ 1 1 _ rfl) nL zt oM).mono ?_;rintro e w1 ⟨u,D,rfl,K,F⟩;have i:=((kg w.heap.size w).alloc nL _).trans (F.mono zs);have O:=K.rd;have j:=(R.below i);have s:=i.size;clear K F;go_wp2_with fail;refine (xL (A:=A) (n:=n) (c:=d) (b:=b) _ (((j.alloc s _).mono zt)) oM (Rd.made _ _ 1 1 _ rfl)).mono ?_;rintro e a7 ⟨rfl,G⟩;have f:=((kg w1.heap.size w1).alloc nL _).trans (G.mono zs);have x:=(j.below (f.mono s));have z:=(O.below f);have y:=(i.trans (f.mono s));have a4:=f.size;clear f G j O i;go_wp2_with fail;refine (aCI (lP b) _).mono ?_;rintro e a ⟨v,E,rfl,L,g⟩;have X:=L.rd;have S:=(x.below (g.mono oM));have W:=(z.below (g.mono oM));have m:=(y.trans (g.mono oM));have a5:=g.size;clear g L x z y;go_wp2_with fail
 have J:=oX (A0:=(some ⟨a.heap.size,0,none⟩)) (m0:=3) (B:=(a.heap.size+1)) (ss:=[⟨u,k0,D,bW n⟩,⟨A,n,d,b⟩,⟨v,4,E,nD (lP b)⟩]) (T:=(eE b)) (N:=o) (w:=(a.alloc (.cells #[.slice u k0 D,.slice A n d,.slice v 4 E] 22))) 3 (by unfold eE;rw [I];simp [iV]) p ((Rd.made a _ 1 3 _ rfl).mono zs) (by
  intro a6 P;simp at P;rcases P with rfl | rfl | rfl;exact (W.mono oM).alloc oM _ |>.mono oM;exact (S.mono oM).alloc oM _ |>.mono oM
  .exact (X.alloc oM _).mono oM) zs oM oM
 refine J.mono ?_;clear J;rintro e a8 ⟨Y,Z,rfl,M,H⟩;have V:=(M.mono (B':=w.heap.size) (by simp;have:=m.size;omega));have U:=(m.trans ((((kg a.heap.size a).alloc nL _).trans (H.mono zs)).mono m.size));clear M H;go_wp2_with fail;go_ret;exact ⟨_,_,rfl,V,U⟩
def aFy {t e g u m d:Nat} (a:Nat) {b i} (f:i.ownsRow t 121 2 (.slice (some e) g u) g (bU b)) (j:a < b.length) (s:Bk i m 3 #[(d:Int)]) (E:aF b a<=1000000000000):
 Calls prog 155 #[.pointer (some ⟨e,a*2,none⟩),m] i λC z=>C=.returned (.tuple #[])/\z.ownsRow t 121 2 (.slice (some e) g u) g (bU (b.set a (bN (aF b a) d,aS b a)))/\Keep (λk=>k=e) i z:=by
 obtain ⟨x,y⟩:=cL b a j;have G:b.length=g:=by have D:=f.1;rw [dO] at D;omega
 have A:=(kh f (a*2) oM).trans x;have B:=(kh f (a*2+1) oM).trans y;have Q:i.cell? m=some (.int .i64 d):=(s.cell 0).trans rfl;obtain ⟨K,n⟩:=fE f;have M:=n.frozen (a*2);have N:=n.lt;have O:=s.lt;have r:=mW j;have w:=λI=>mA I j;obtain ⟨c,q⟩:=eqx (aF b a);obtain ⟨H,o⟩:=eqx (aS b a);rw [q] at A r E;rw [o] at B r w;rw [q,o];clear j s x y n G q o;by_cases P:d < c
 .have J:=zy ((c:Int) > d);have L:IntKind.i64.wrap (c - 1)=((c - 1:Nat):Int):=zu;have v:=(kk f (a*2) (.int .i64 (c - 1:Nat))).1;rw [w] at v;go_enter func155,ntmps155;go_wp2_with fail;go_quiet (fail);go_wp2_with fail;go_end0;refine ⟨rfl,?_,ka (F:=λk=>k=e) ((ke _ _).drewN _) (p:=⟨e,a*2,none⟩) (.inl rfl) _⟩;have l:bN (c) d=c - 1:=(by unfold bN;rw [zBx oM]);rw [l];exact v
 .have J:=zn ((c:Int) > d);go_enter func155,ntmps155;go_wp2_with fail;go_quiet (fail);go_wp2_with fail;go_end0;refine ⟨rfl,?_,(ke _ _).drewN _⟩;have l:bN (c) d=c:=(by unfold bN;rw [zBw oM]);rw [l,r];exact f
def aFA {t e g u m d:Nat} (a:Nat) {b i} (f:i.ownsRow t 121 2 (.slice (some e) g u) g (bU b)) (j:a < b.length) (s:Bk i m 3 #[(d:Int)]) (E:aS b a<=1000000000000):
 Calls prog 157 #[.pointer (some ⟨e,a*2,none⟩),m] i λC z=>C=.returned (.tuple #[])/\z.ownsRow t 121 2 (.slice (some e) g u) g (bU (b.set a (aF b a,bN (aS b a) d)))/\Keep (λk=>k=e) i z:=by
 obtain ⟨x,y⟩:=cL b a j;have G:b.length=g:=by have D:=f.1;rw [dO] at D;omega
 have A:=(kh f (a*2) oM).trans x;have B:=(kh f (a*2+1) oM).trans y;have Q:i.cell? m=some (.int .i64 d):=(s.cell 0).trans rfl;obtain ⟨J,n⟩:=fE f;have L:=n.frozen (a*2+1);have M:=n.lt;have N:=s.lt;have r:=mW j;have w:=λH=>pR b a H j;obtain ⟨P,q⟩:=eqx (aF b a);obtain ⟨c,o⟩:=eqx (aS b a);rw [q] at A r w;rw [o] at B r E;rw [q,o];clear j s x y n G q o;by_cases O:d < c
 .have I:=zy ((c:Int) > d);have K:IntKind.i64.wrap (c - 1)=((c - 1:Nat):Int):=zu;have v:=(kk f (a*2+1) (.int .i64 (c - 1:Nat))).1;rw [w] at v;go_enter func157,ntmps157;go_wp2_with fail;go_quiet (fail);go_wp2_with fail;go_end0;refine ⟨rfl,?_,ka (F:=λk=>k=e) ((ke _ _).drewN _) (p:=⟨e,a*2+1,none⟩) (.inl rfl) _⟩;have l:bN (c) d=c - 1:=(by unfold bN;rw [zBx oM]);rw [l];exact v
 .have I:=zn ((c:Int) > d);go_enter func157,ntmps157;go_wp2_with fail;go_quiet (fail);go_wp2_with fail;go_end0;refine ⟨rfl,?_,(ke _ _).drewN _⟩;have l:bN (c) d=c:=(by unfold bN;rw [zBw oM]);rw [l,r];exact f
def aBp {m j q k l:Nat} {f t u s} {o n:Nat} {c b r p g} (w:PermAt g m j q f t u s o n c b r p) (D:c.Nodup) (C:c.length<=1000000) (F:Bk g k 3 #[(l:Int)]) (A:∀e,f.ownBlock=some e->e≠k) (x:∀a,a∈c->aF b a<=1000000000000/\aS b a<=1000000000000):
 Calls prog 154 #[j,.func (.func 155) #[] #[k]] g λi v=>i=.returned (.tuple #[])/\Keep (λe=>f.ownBlock=some e) g v/\∃d,d.length=b.length/\(∀a,a∈c->(aF d a,aS d a)=(bN (aF b a) l,aS b a))/\PermAt v m j q f t u s o n c d r p:=
 qV (λH G=>(bN H l,G)) w D C x (mM func155 kR kR) λ_ _ _ a _ _ B E y z=>aFy a E y (B.d F λi=>A _ i rfl) z.1
def aBq {m j q k l:Nat} {f t u s} {o n:Nat} {c b r p g} (w:PermAt g m j q f t u s o n c b r p) (D:c.Nodup) (C:c.length<=1000000) (F:Bk g k 3 #[(l:Int)]) (A:∀e,f.ownBlock=some e->e≠k) (x:∀a,a∈c->aF b a<=1000000000000/\aS b a<=1000000000000):
 Calls prog 154 #[j,.func (.func 157) #[] #[k]] g λi v=>i=.returned (.tuple #[])/\Keep (λe=>f.ownBlock=some e) g v/\∃d,d.length=b.length/\(∀a,a∈c->(aF d a,aS d a)=(aF b a,bN (aS b a) l))/\PermAt v m j q f t u s o n c d r p:=
 qV (λH G=>(H,bN G l)) w D C x (mM func157 kR kR) λ_ _ _ a _ _ B E y z=>aFA a E y (B.d F λi=>A _ i rfl) z.2
def aKT {c e} (g:IsSuf c e) (d a) {b} (p:b < e.length):Pq c d a e[b]=decide (b < Nq c d a):=by
 have n:e.countP (Pq c d a)=Nq c d a:=g.count _;have ht:=wH (P:=Pq c d a) g.B (λj v s t=>aDM a s t);rw [n] at ht;rw [zEd,zCa];constructor;intro m;by_cases k:b < Nq c d a;exact k;exfalso;have o:∀j∈e.take (b+1),Pq c d a j=true:=(by intro j r;obtain ⟨i,q,rfl⟩:=zBo.1 r;rw [zAj] at q;rw [zEC];rcases zBe i b with f | f;exact aDM a (zAr.1 g.B i b oM p f) m;obtain rfl:i=b:=oM;exact m);have f:=zDJ.2 o;rw [zAj] at f;have u:(e.take (b+1)).countP (Pq c d a)<=e.countP (Pq c d a):=(zEY _ _).countP_le;omega;intro k;have l:e[b]∈e.take (Nq c d a):=(by rw [List.mem_take_iff_getElem];exact ⟨b,by omega,rfl⟩);rw [ht,zCx] at l;exact l.2
def aMN {c f} (g:IsSuf c f) (a) {b} (j:b < f.length):wJ c a f[b]=true↔Nq c false a<=b/\b < Nq c true a:=by
 obtain ⟨d,i⟩:=aMg c a f[b];rw [aKT g false a j,aKT g true a j] at d;rw [aKT g false a j] at i;constructor;intro l;rw [l] at d i;constructor;rcases zBe b (Nq c false a) with e | e;exact absurd ⟨zBz e,rfl⟩ i;exact e;simpa using d;rintro ⟨e,k⟩;rw [zBz k,zBy oM] at d;simpa using d.symm
def aGI {α:Type} (d:α->Bool) (b:List α) {a c} (q:a<=c) (r:c<=b.length) (k:∀j (s:j < b.length),d b[j]=true↔a<=j/\j < c):(b.drop a).take (c - a)=b.filter d:=by
 have m:b=b.take a++((b.drop a).take (c - a)++(b.drop a).drop (c - a)):=by rw [zAu,zAu]
 conv=>rhs;rw [m]
 rw [zEe,zEe];have n:(b.take a).filter d= []:=zFS.2 λl g f=>by obtain ⟨i,e,rfl⟩:=zBo.1 g;rw [zAj] at e;rw [zEC] at f;have:=(k i oM).1 f;omega
 have o:((b.drop a).take (c - a)).filter d=(b.drop a).take (c - a):=List.filter_eq_self.2 λl g=>by obtain ⟨i,e,rfl⟩:=zBo.1 g;rw [zAj,zAw] at e;rw [zEC,zED];exact (k (a+i) oM).2 ⟨by omega,by omega⟩
 have p:((b.drop a).drop (c - a)).filter d= []:=zFS.2 λl g f=>by obtain ⟨i,e,rfl⟩:=zBo.1 g;rw [zAw,zAw] at e;rw [zED,zED] at f;have:=(k (a+(c - a+i)) oM).1 f;omega
 rw [n,o,p];simp
def gZ (a b:List UInt8):List Nat:=(List.range (a.length+1)).filter (wJ (aG a) (dQ b))
def aEu {b d} (c:IsSuf (aG b) d) (a):((d.drop (Nq (aG b) false (dQ a))).take (Nq (aG b) true (dQ a) - Nq (aG b) false (dQ a))).Perm (gZ b a):=by
 have e:Nq (aG b) false (dQ a)<=Nq (aG b) true (dQ a):=by rw [aHx];omega
 rw [aGI (wJ (aG b) (dQ a)) d e (by rw [c.len];exact aNR _ _ _) (λg f=>aMN c (dQ a) f)];have:=c.perm.filter (wJ (aG b) (dQ a));rw [aO] at this;exact this
def uX:∀(c d:List Int),c.Pairwise (λa b=>a<=b)->d.Pairwise (λa b=>a<=b)->c.Perm d->c=d
 | [],d,_,_,e=>e.nil_eq.symm ▸ rfl
 | a::c, [],_,_,e=>by simp at e
 | a::c,b::d,ha,hb,e=>by obtain ⟨j,k⟩:=zEf.1 ha;obtain ⟨l,m⟩:=zEf.1 hb;have n:a=b:=(by have g:a∈b::d:=e.mem_iff.1 (by simp);have i:b∈a::c:=e.mem_iff.2 (by simp);rcases zDf.1 g with f | g;exact f;rcases zDf.1 i with f | i;exact f.symm;have:=j b i;have:=l a g;omega);subst n;rw [uX c d k m (List.perm_cons a |>.1 e)]
def aEp {b e} (d:IsSuf (aG b) e) (a):(((e.drop (Nq (aG b) false (dQ a))).take (Nq (aG b) true (dQ a) - Nq (aG b) false (dQ a))).map λc:Nat=>(c:Int)).mergeSort (λf g=>decide (f<=g))=(gZ b a).map λc:Nat=>(c:Int):=by
 refine uX _ _ ?_ ?_ ((List.mergeSort_perm _ _).trans ((aEu d a).map _));have:=List.pairwise_mergeSort (le:=λf g:Int=>decide (f<=g)) (λi j k l m=>by simp at*;omega) (λi j=>by simp;omega) (((e.drop (Nq (aG b) false (dQ a))).take (Nq (aG b) true (dQ a) - Nq (aG b) false (dQ a))).map λc:Nat=>(c:Int));exact this.imp λd=>by simpa using d
 rw [zDm];unfold gZ;refine (List.Pairwise.filter _ List.pairwise_lt_range).imp λ{i j} d=>?_;omega
attribute [local go_sem] Oper.semAt_some
def aD8 (b d c a):
 Calls prog 116 #[.slice b d c] a λe f=>e=.returned (.func (.func 171) #[] #[a.heap.size])/\f=a.alloc (.cells #[.slice b d c] 22):=by
 go_enter func116,ntmps116;go_wp2_with fail;go_ret;exact ⟨rfl,rfl⟩
def pK (a:List Nat) (c:Nat×Nat) (b:UInt8):Nat×Nat:=(cR a (b.toNat+1) c.1,cR a (b.toNat+1) c.2)
def iP (a:List Nat) (b:List UInt8):Nat×Nat:=b.reverse.foldl (pK a) (0,a.length)
def aH5 (b:List Nat) (c:List UInt8):∀a:Nat×Nat,a.1<=a.2->a.2<=b.length->(c.foldl (pK b) a).1<=(c.foldl (pK b) a).2/\(c.foldl (pK b) a).2<=b.length:=by
 induction c with
 | nil=>intro a d e;exact ⟨d,e⟩
 | cons g c f=>intro a d e;exact f _ (aIV b _ d) (zG b _ _)
def aNu (a):(bkL a a.length).map (·.2)=a.reverse:=by
 apply List.ext_getElem
 .simp [bkL]
 .intro b c e;have d:b < a.length:=(by simpa [bkL] using c);simp [bkL,List.getElem_reverse,d,show a.length - 1 - b < a.length by omega]
def aHR (a:Oper):Bool:=match a.op with
 | .defer _=>false
 | _=>true
def aK6 {d:Array Oper} (e:d.toList.all aHR=true):∀(c:Nat) (a:Oper),d[c]?=some a->∀b,a.op≠.defer b:=by
 intro c a g b f;have:=zBf.1 e a (zDv.2 (zFq g));unfold aHR at this;rw [f] at this;cases this
structure FInv (w0:World) (Bw gl gb glo gs b3:Nat) (sl:Value) (L:List Nat) (pre:List (Nat×UInt8)) (W:World):Prop where
 lo:Bk W glo 3 #[.int .i64 ((((pre.map (·.2)).foldl (pK L) (0,L.length)).1:Nat):Int)]
 hi:Bk W (glo+1) 3 #[.int .i64 ((((pre.map (·.2)).foldl (pK L) (0,L.length)).2:Nat):Int)]
 lv:LvW W Bw gl L
 box:Bk W gb 49 #[gl]
 bs:Bk W gs 22 #[sl]
 bm:∃t cs,Bk W b3 t cs/\t∈ [5,22]
 b:VB Bw w0 W
def FInv.own {w0 q v u w x t p C r} (hB:w0.heap.size<=p):OwnFrom p (λB k=>FInv w0 q v u w x t C r B k):=by
 intro E k s row a d n;have g:∀b i f,Bk k b i f->Bk s b i f:=by intro b i f e;refine (d.block b e.lt λc=>?_).trans e;obtain ⟨_,D,j,A⟩:=n b c.symm;unfold Bk at e;rw [e] at j;injection j with j;subst j;cases A
 obtain ⟨i,f,y,z⟩:=a.bm;refine ⟨g _ _ _ a.lo,g _ _ _ a.hi,a.lv.same g,g _ _ _ a.box,g _ _ _ a.bs,⟨i,f,g _ _ _ y,z⟩,⟨d.os.trans a.b.1.os,d.tape.trans a.b.1.tape,d.output.trans a.b.1.output,zAk a.b.1.size d.size,λb e m=>?_⟩,⟨d.os.trans a.b.1.os,d.tape.trans a.b.1.tape,d.output.trans a.b.1.output,zAk a.b.1.size d.size,λb e m=>(d.block b (zAl e a.b.1.size) λc=>?_).trans (a.b.2.block b e m)⟩⟩;rcases a.b.1.block b e m with c |⟨f,o,c,l⟩|⟨f,o,c,l⟩;refine .inl ((d.block b (zAl e a.b.1.size) λc=>?_).trans c);have:=(n b c.symm).1;omega;exact .inr (.inl ⟨f,o,c,g _ _ _ l⟩);exact .inr (.inr ⟨f,o,c,g _ _ _ l⟩);have:=(n b c.symm).1;omega
def aBB {g f k} (j:VisF g f k) (m:∀b e,g b->f.heap[b]?=some e->e.isCells=true):KeepsOthers f k:=by
 refine ⟨j.size,λb e c d=>?_⟩;by_cases i:g b
 .rw [m b e i c] at d;cases d
 .have n:b < f.heap.size:=(zAh.1 c).1;rcases j.block b n i with a |⟨l,o,a,_⟩|⟨l,o,a,_⟩;exact a.trans c
  .unfold Bk at a;rw [c] at a;injection a with a;subst a;cases d
  .unfold Bk at a;rw [c] at a;injection a with a;subst a;cases d
def vS {u y d n ak ah} (ap) {aH b4 t C} (bQ:iV b4=t) (ba:t.length=C) {l} (o:LvW l u y d) (W:d.length=n+1) (bZ:n<=900) (bP:∀H∈d,H < 257) (c4:Rd l aH 1 ak ah (b4.map slV)) (c5:∀ai∈b4,Rd l aH 1 ai.A ai.n (ai.l.map bv)) (hB:aH<=l.heap.size) (cE:ah<=1000000) (cF:C<=1000000):
 Calls prog 55 #[y,.slice ak ah ap] l λc bw=>c=.returned (.tuple #[.int .i64 ((iP d t).1:Nat),.int .i64 ((iP d t).2:Nat)])/\VB u l bw:=by
 refine (callsIn_wide (n:=6)).1 ?_;refine callsIn_of_wp_marks func55 rfl trivial ?_ rfl;simp only [ntmps55,List.size_toArray,zCg,zDM,Nat.reduceAdd,Nat.reduceSub,Array.replicate_succ,Array.replicate_zero,List.push_toArray,List.append_toArray,zDH,zEm];refine wpIn_wide.2 ?_;have cz:=o.lt;have b6:=o;clear o;go_wp2_with fail;have ae:Below l.heap.size l (l.alloc (.cells #[y] 49)):=bR.alloc nL _;refine (cD (b6.b (kb ae)) W oM).mono ?_;rintro c bw ⟨rfl,rfl⟩;have L:IntKind.i64.wrap (n+1)=((n+1:Nat):Int):=zu
 obtain ⟨a4,c1⟩:=eqx (n+1);have aq:(n:Int)+1=a4:=oM;have a8:=kd l 49 #[y];obtain ⟨a1,aQ⟩:=eqx l.heap.size;rw [aQ] at a8;rw [aQ];generalize l.alloc (.cells #[y] 49)=w1 at ae a8⊢;have Hn:=W;clear W aQ;go_wp2_with fail;have M:=(kd w1 3 #[o0]).alloc (.cells #[(a4:Int)] 3);have J:=kd (w1.alloc (.cells #[o0] 3)) 3 #[(a4:Int)];rw [sZ0] at J;have au:Below w1.heap.size w1 ((w1.alloc (.cells #[o0] 3)).alloc (.cells #[(a4:Int)] 3)):=(bR.alloc nL _).alloc zs _;obtain ⟨e,ab⟩:=eqx w1.heap.size;rw [ab] at M J;rw [ab];generalize (w1.alloc (.cells #[o0] 3)).alloc (.cells #[(a4:Int)] 3)=aG at M J au⊢;have X:=ae.trans (au.mono ae.size);have aw:=a8.below au a8.lt;have bY:l.heap.size<=e:=by rw [<-ab];exact ae.size
 have cy:a1 < e:=by rw [<-ab];exact a8.lt
 have bf:=oX ap bQ ba (c4.keep λb3 E=>X.cell oM) (λai aX=>(c5 ai aX).keep λb3 E=>X.cell oM) (zj X.size) oM oM;have ao:=M;have an:=J;clear M J au ab L aq;refine bf.mono ?_;clear bf;rintro c a5 ⟨K,V,rfl,bn,Q⟩;have P:=Q;clear Q;go_wp2_with fail;refine (aD8 K C V a5).mono ?_;rintro c Z ⟨rfl,aC⟩;have S:=kd a5 22 #[.slice K C V];rw [<-aC] at S;have R:Below a5.heap.size a5 Z:=aC ▸bR.alloc nL _;have cG:Z.heap.size=a5.heap.size+1:=by rw [aC];simp
 obtain ⟨I,bl⟩:=eqx a5.heap.size;rw [bl] at S;rw [bl];clear aC;have bm:=(ao.below P ao.lt).below R (zAl ao.lt P.size);have aR:=(an.below P an.lt).below R (zAl an.lt P.size);have be:=(aw.below P aw.lt).below R (zAl aw.lt P.size);have aA:Below l.heap.size l Z:=(X.trans (P.mono X.size)).trans (R.mono (zk X.size P.size));have az:=bn.below R;clear R ao an X aw bn;go_wp2_with fail;obtain ⟨B,Q⟩:∃B,(∀b aF,K=some ⟨b,aF,none⟩->0 < C->b=B)/\∃w z,Bk Z B w z/\w∈ [5,22]:=by rcases az.own.2 with ⟨c,bM⟩|⟨aM,bK,bL,c,_,bj,_⟩;exact ⟨I,λb aF _ ar=>by omega,_,_,S,by simp⟩;injection c with c;exact ⟨aM,λb aF o _=>by rw [c] at o;injection o with o;injection o with o _;exact o.symm,_,_,bj,by simp⟩
 have aO:0 < C->K=some ⟨B,0,none⟩:=by
  intro ar;rcases az.own.2 with ⟨c,bM⟩|⟨aM,bK,bL,c,_,bj,_⟩;omega
  .injection c with c;rw [c,Q.1 aM 0 c ar]
 have bg:∀T,T < t.length->Z.cell? ⟨B,0+T,none⟩=some (.int .u8 ((t.getD T 0).toNat:Int)):=by intro T ay;have c3:=az.rd;obtain ⟨b,aF,c,_,bV⟩:=c3.2 oM;rw [aO oM] at c;injection c with c;injection c with L aq;subst L aq;refine bV T _ ?_;rw [zAf,zAa ay];simp [bv,zAb,zAa ay]
 have aZ:SeqStopsK Fence.wide (6 - 1) prog 171 #[I] (λH:Nat×UInt8=>#[(H.1:Int),.int .u8 H.2.toNat]) (KpB I B) (λbx=>bx=bkL t t.length) (λ_=>True) C Z:=by intro aE cb bH j bb cv cw bS ar;have bW:=Q.2;obtain ⟨w,z,aa,ax⟩:=bW;exact aD9 Fence.wide (6 - 1) trivial rfl oM aE I B 0 V K t (λo=>aO oM) oM bH (λG H bI a6 b8=>bS G H bI a6 oM) (by rw [ba];exact (S.below bb S.lt).cell 0) (λT ay=>(bb.cell (p:=⟨B,0+T,none⟩) aa.lt).trans (bg T ay)) ar
 have aN:FInv l u y a1 e I B (.slice K C V) d [] Z:=⟨bm,by
  have:=aR;rw [show (([]:List (Nat×UInt8)).map (·.2)).foldl (pK d) (0,d.length)=(0,d.length) from rfl,Hn,c1];exact this,b6.b (kb aA),be,S,Q.2,kc aA⟩
 have cB:=S.lt;have R:=Q.2;have cA:=aR.lt;obtain ⟨cJ,ce,bh,bX⟩:=R;have cx:=bh.lt;clear bg aO Q bh bX bm aR be az S;refine (wpIn_wide (n:=6)).1 ?_
 refine wpIn_rangeFunc_ownF (F:=Fence.wide) (n:=6) rfl oM (gf:=171) (lb:=#[.pointer (some I)]) rfl trivial (enters_of func171 kR rfl) aZ (λo af=>o.trans af)
  (λj aE c8 cH bZ aT _ _ b3 E=>zDd (World.putObj_heap_other (λc=>by rcases E with E | E <;> omega))) bR (λ_=>rfl)
  (λG j=>FInv l u y a1 e I B (.slice K C V) d G j) (λ_ _ _=>False) (FInv.own aA.size) (λ_ _ _ _ _ aX _ _=>aX) aN
  (λH=> { tmps:=#[.pointer (some y),.slice ak ah ap,.pointer (some a1),undef,.int .i64 0,.int .i64 0,.pointer (some e),.pointer (some ⟨e+1,0,none⟩),undef,.int .u8 H.2.toNat,.pointer (some y),.bool false,.pointer (some y),.int .i64 n,.int .i64 a4,.slice ak ah ap,.slice K C V,.func (.func 171) #[] #[I],.int .i64 H.1,.int .u8 H.2.toNat,undef,undef,undef,undef,undef,undef,undef,undef,undef,undef,undef,undef,undef,undef],defers:= [] }) ?assign ?body ?done ?stop
 case assign=>
  intro aE H j cc g
  gi_wp2
  exact g
 case body=>
  rintro aE G ⟨bq,x⟩ j r _;obtain ⟨gk,bt,bu,cI,aS,c7⟩:=r.lv;obtain ⟨ag,M⟩:=eqx (((G.map (·.2)).foldl (pK d) (0,d.length)).1);obtain ⟨ad,J⟩:=eqx (((G.map (·.2)).foldl (pK d) (0,d.length)).2);have aP:=aH5 d (G.map (·.2)) (0,d.length) (zAp _) nL;rw [M,J] at aP;obtain ⟨Y,bc⟩:=eqx (cR d (x.toNat+1) ag);obtain ⟨U,s⟩:=eqx (cR d (x.toNat+1) ad);have a3:=r.lo;have ac:=r.hi;rw [M] at a3;rw [J] at ac;have bC:=r.box;have am:Hid (cR d (x.toNat+1) ag=Y/\cR d (x.toNat+1) ad=U):=lhd ⟨bc,s⟩;have bz:=r;have bE:Hid (((G.map (·.2)).foldl (pK d) (0,d.length))=(ag,ad)):=lhd (by rw [<-M,<-J]);clear bc s r M J aN aZ
  gi_wp2
  refine wpIn_region_any kR<|aFZ (λ⟨_,_,o⟩=>o) (aK6 kR) _ _ _ _ ?_;refine cC (pJ:=(λ_ aG=>Bk aG e 3 #[(Y:Int)])) u 13 [21,22,23,24,25,26,27,28,29,20,30,31] (λb=>b=e) 12 [0,1,2,3,4,5,6,7,8,9,10,12] [is y,is y,is y,is gk,is (ag:Int),is (ad:Int),is (.int .u8 x.toNat),is (.int .i64 (x.toNat+1:Nat)),is (.tuple #[(Y:Int),(U:Int)]),is (.tuple #[(Y:Int),(U:Int)]),is (Y:Int),is (U:Int),cO] _ rfl dC kR kR kR (kc bR.drew) (λ_ _ o _ af=>o.trans af) (λ_ _ _ o af=>af.1.d o dC dC) tA0 ?_ ?_
  .refine bB<|sC3 (λD v _ k _ _ N _ _ _ _ g=>?_) ?_
   .have a:=k rfl;have aq:D (.tmp 2)=.pointer (some a1):=N 2 kR;replace a:VB u j v:=(by first|exact a|exact bD a);have a0:=(a.1.d bC dC dC).cell 0;go_simp;exact g _ _ (aI vR) rfl
   refine sC3 (λ_ v _ k _ _ _ q _ _ _ g=>?_) ?_
   .have a:=k rfl;have cg:_=_:=q 0 21 kR rfl;replace a:VB u j v:=(by first|exact a|exact bD a);have a0:=(a.1.d aS dC dC).cell 0;go_simp;exact g _ _ (aI vR) rfl
   refine sC3 (λ_ v _ k _ _ _ q _ _ _ g=>?_) ?_
   .have a:=k rfl;have ch:_=_:=q 1 22 kR rfl;replace a:VB u j v:=(by first|exact a|exact bD a);have a0:=(a.1.d aS dC dC).cell 0;go_simp;exact g _ _ (aI vR) rfl
   refine sC3 (λ_ v _ k _ _ _ q _ _ _ g=>?_) ?_
   .have a:=k rfl;have ci:_=_:=q 2 23 kR rfl;replace a:VB u j v:=(by first|exact a|exact bD a);have a0:=(a.1.d aS dC dC).cell 0;go_simp;exact g _ _ (aI vR) rfl
   refine sC3 (λD v _ k _ _ N _ _ _ _ g=>?_) ?_
   .have a:=k rfl;have bO:D (.tmp 6)=.pointer (some e):=N 6 kR;replace a:VB u j v:=(by first|exact a|exact bD a);have a0:=(a.1.d a3 dC dC).cell 0;go_simp;exact g _ _ (aI vR) rfl
   refine sC3 (λD v _ k _ _ N _ _ _ _ g=>?_) ?_
   .have a:=k rfl;have cq:D (.tmp 7)=.pointer (some ⟨e+1,0,none⟩):=N 7 kR;replace a:VB u j v:=(by first|exact a|exact bD a);have a0:=(a.1.d ac dC dC).cell 0;go_simp;exact g _ _ (aI vR) rfl
   refine sC3 (λD _ _ k _ _ N _ _ _ _ g=>?_) ?_
   .have a:=k rfl;have cr:D (.tmp 9)=.int .u8 x.toNat:=N 9 kR;go_simp;exact g _ _ (aI vR) rfl
   refine sC3 (λ_ v _ k _ _ _ q _ _ _ g=>?_) ?_
   .have a:=k rfl;have cm:_=_:=q 6 27 kR rfl;go_simp;refine (rZ x v).mono ?_;rintro c ca ⟨rfl,bU⟩;exact g _ _ (aI (kc bU)) rfl
   refine sC3 (λ_ v _ k _ _ _ q _ _ _ g=>?_) ?_
   .have a:=k rfl;have cj:_=_:=q 3 24 kR rfl;have ck:_=_:=q 4 25 kR rfl;have cl:_=_:=q 5 26 kR rfl;have cn:_=_:=q 7 28 kR rfl;replace a:VB u j v:=(by first|exact a|exact bD a);go_simp;refine (aAU (x.toNat+1) (c7.b a.1) (zj x.toNat_lt) aP.1 aP.2 bP (by rw [Hn];omega)).mono ?_;rintro c ca ⟨rfl,c6⟩;rw [am.1,am.2];exact g _ _ (aI c6) rfl
   refine sC3 (λ_ _ _ k _ _ _ q _ _ _ g=>?_) ?_
   .have a:=k rfl;have co:_=_:=q 8 29 kR rfl;go_simp;exact g _ _ (aI vR) rfl
   refine sC3 (λ_ _ _ k _ _ _ q _ _ _ g=>?_) ?_
   .have a:=k rfl;have cf:_=_:=q 9 20 kR rfl;go_simp;exact g _ _ (aI vR) rfl
   refine pV3 9 20<|sC3 (λD v _ k _ _ N q _ _ _ g=>?_) ?_
   .have a:=k rfl;have bO:D (.tmp 6)=.pointer (some e):=N 6 kR;have cp:_=_:=q 10 30 kR rfl;replace a:VB u j v:=(by first|exact a|exact bD a);have b1:=a.1.d a3 dC dC;have a0:=b1.cell 0;have ct:=b1.frozen 0;go_simp;exact g (.bool true) _ (lC (VFB.put (F:=λb=>b=e) (VFB.i vR) (p:=e) (.inl rfl) _)) (b1.set 0 _)
   exact aB
  .intro D aj m a7 q bd;replace a7:VFB u (λb=>b=e) j aj:=fD a7;have bN:D (.tmp 31)=.int .i64 U:=q 11 31 dC rfl;obtain ⟨c9,br⟩:=bd 12 dC;have b2:(λ_ aG=>Bk aG e 3 #[(Y:Int)]) c9 aj:=br;clear br bd;simp only [zqq];rw [bN];clear q;have aD:=a7.1.d ac dC dC (λc=>by omega);have cd:=aD.cell 0;have cs:=aD.frozen 0;change wpAny prog Region.Mode.any _ _ (1+m) (bT 13 14) _ aj;rw [zCt 1 m];refine aY (f:=m) (i:=13) kR ?_;refine bJ rfl rfl ?_;generalize g:wpAny prog _ _ _ m _=K5;go_simp;subst g;refine bG kR ?_;have bi:((G++ [(bq,x)]).map (·.2)).foldl (pK d) (0,d.length)=(Y,U):=(by rw [zAz,zFt,bE.out];show (cR d (x.toNat+1) ag,cR d (x.toNat+1) ad)=_;rw [am.1,am.2]);have b0:l.heap.size<=e:=bY;have c2:e≠e+1:=oM;have bp:VFB u (λb=>b=e∨b=e+1) j (aj.setCell ⟨e+1,0,none⟩ (.int .i64 U)):=(by exact VFB.put (a7.wider λb c=>.inl c) (.inl (.inr rfl)) _);have bo:=bp.1;have r:=bz;obtain ⟨w,z,aa,ax⟩:=r.bm;have a2:w≠223/\w≠181/\w≠3:=by simp at ax;rcases ax with rfl | rfl <;> decide
   have a9:∀b w z,Bk j b w z->w≠223->w≠181->w≠3->Bk (aj.setCell ⟨e+1,0,none⟩ (.int .i64 U)) b w z:=λb w z s a6 b8 b9=>bo.d s a6 b8 (λm=>by
    rcases m with m | m;subst m;exact b9 (aU s a3).1
    .subst m;exact b9 (aU s ac).1)
   have c0:=r.lv.cz a7.1 a3 b2;change KeepsOthers j _/\KpB I B j _/\FInv l u y a1 e I B (.slice K C V) d (G++ [(bq,x)]) _;refine ⟨aBB bo (λb c8 m aT=>?_),?_,?_,?_,?_,a9 _ _ _ r.box dC dC dC,a9 _ _ _ r.bs dC dC dC,⟨w,z,a9 _ _ _ aa a2.1 a2.2.1 a2.2.2,ax⟩,?_⟩;rcases m with m | m;subst m;have:=a3;unfold Bk at this;rw [aT] at this;injection this with this;subst this;rfl;subst m;have:=ac;unfold Bk at this;rw [aT] at this;injection this with this;subst this;rfl
   .intro b3 E;rcases E with E | E
    .have L:=(a9 _ _ _ r.bs dC dC dC).trans r.bs.symm;rw [<-E] at L;exact zDd L
    .have L:=(a9 _ _ _ aa a2.1 a2.2.1 a2.2.2).trans aa.symm;rw [<-E] at L;exact zDd L
   rw [bi];exact b2.m (p:=⟨e+1,0,none⟩) c2 _;rw [bi];exact aD.set 0 _;exact c0.bh λb w z ht s=>s.m (p:=⟨e+1,0,none⟩) (λc=>by subst c;exact ht (aU s aD).1) _;have a6:VFB u (λb=>b=e∨b=e+1) l j:=VFB.i r.b;exact (a6.trans bp).y (λb s m=>by rcases m with m | m <;> omega)
 case done=>
  rintro al bx j cu rfl r g;have aJ:=r.lo.cell 0;have aK:=r.hi.cell 0;rw [aNu] at aJ aK;change j.cell? e=some (.int .i64 ((iP d t).1:Nat)) at aJ;change j.cell? ⟨e+1,0,none⟩=some (.int .i64 ((iP d t).2:Nat)) at aK;obtain ⟨bt,aV⟩:=eqx ((iP d t).1);obtain ⟨bu,aW⟩:=eqx ((iP d t).2);rw [aV] at aJ;rw [aW] at aK;have bF:=r.b;have b7:Hid ((iP d t).1=bt/\(iP d t).2=bu):=lhd ⟨aV,aW⟩;clear r aN aZ aV aW;go_wp2_with fail;go_quiet (fail);go_wp2_with fail;have bA:(j.drewN nq).heap[al]?=some (.deferred (some [])):=g;refine ⟨by simp,.inl ⟨_,_,rfl,run_takeDeferred bA,?_⟩⟩;refine ⟨_,results_tmp2 rfl _ _ _,by rw [b7.1,b7.2];rfl,?_⟩;have O:=bF;have av:∀b,b < l.heap.size->((j.drewN nq).putObj al (.deferred none)).heap[b]?=j.heap[b]?:=λb s=>World.putObj_heap_other (zj aA.size);have b0:l.heap.size<=((j.drewN nq).putObj al (.deferred none)).heap.size:=by have:=O.1.size;simpa using this
  refine ⟨⟨O.1.os,O.1.tape,O.1.output,b0,λb s W=>?_⟩,⟨O.1.os,O.1.tape,O.1.output,b0,λb s W=>(av b s).trans (O.2.block b s W)⟩⟩;rcases O.1.block b s W with c |⟨z,b5,c,aL⟩|⟨z,b5,c,aL⟩;exact .inl ((av b s).trans c);exact .inr (.inl ⟨z,b5,c,(av b s).trans aL⟩);exact .inr (.inr ⟨z,b5,c,(av b s).trans aL⟩)
 case stop=>intro al x G j _ _ o _;exact o.elim
def aEv {a d l} (c:IsSuf a d) (f:EndOk a l) (b):iP (aH a d) b=(Nq a false (dQ b),Nq a true (dQ b)):=by
 have j:(aH a d).length=a.length:=by rw [bY,c.len]
 unfold iP;rw [j]
 induction b with
 | nil=>
  obtain ⟨g,i⟩:=aOX a;show (0,a.length)=(Nq a false [],Nq a true []);rw [g,i]
 | cons e b k=>
  rw [List.reverse_cons,zFt,k];show (cR _ (e.toNat+1) (Nq a false (dQ b)),cR _ (e.toNat+1) (Nq a true (dQ b)))=_;rw [aHT c f _ _ _ oM,aHT c f _ _ _ oM];rfl
def aJk {a c} (d:IsSuf (aG a) c) (b):(iP (aH (aG a) c) b).2 -(iP (aH (aG a) c) b).1=occ (aG a) (dQ b):=by
 rw [aEv d (fA a),aHx];omega
def aBR {m q a z k g} (o) {e j b n} (D:iV j=b) (C:b.length=n) {c} (r:LvW c m q a) (G:a.length=z+1) (E:z<=900) (s:∀J∈a,J < 257) (w:Rd c e 1 k g (j.map slV)) (x:∀i∈j,Rd c e 1 i.A i.n (i.l.map bv)) (hB:e<=c.heap.size) (F:g<=1000000) (H:n<=1000000):
 Calls prog 19 #[q,.slice k g o] c λp B=>p=.returned (.int .i64 ((iP a b).2 -(iP a b).1:Nat))/\VB m c B:=by
 have v:=vS o D C r G E s w x hB F H;have d:=aH5 a b.reverse (0,a.length) (zAp _) nL;change (iP a b).1<=(iP a b).2/\(iP a b).2<=a.length at d;obtain ⟨y,u⟩:=eqx ((iP a b).1);obtain ⟨f,t⟩:=eqx ((iP a b).2);rw [u,t] at v d⊢;have L:=d.1;have M:f<=1000:=oM;have K:IntKind.i64.wrap (f -y)=((f - y:Nat):Int):=zu
 clear r w x u t d s;go_enter func19,ntmps19;go_wp2_with fail;refine v.mono ?_;rintro p B ⟨rfl,I⟩;go_wp2_with fail;go_ret;exact ⟨fM oM,I⟩
def aGA (e b:List UInt8):e.isPrefixOf b=true↔∀(d:Nat) (c:UInt8),e[d]?=some c->b[d]?=some c:=by
 rw [zEn];constructor;rintro ⟨i,rfl⟩ d c a;rw [zAn (by obtain ⟨j,_⟩:=zAc.1 a;exact j)];exact a
 .intro a
  induction e generalizing b with
  | nil=>exact List.nil_prefix
  | cons f e m=>
   cases b with
   | nil=>exact absurd (a 0 f rfl) zs
   | cons n b=>
    have g:=a 0 f rfl;simp at g;subst g;obtain ⟨i,l⟩:=m b λd c k=>by simpa using a (d+1) c (by simpa using k)
    exact ⟨i,by rw [zEm,l]⟩
def aEI (g f e):wJ (aG g) (dQ f) e=f.isPrefixOf (g.drop e):=by
 rw [zEd,aGC,aGA];constructor;intro b d a c;rw [zBt];exact b d a c;intro b d a c;have:=b d a c;rw [zBt] at this;exact this
def aGO (b c):∀a,b.length+1 - c.length<=a->a<=b.length+1->fY b c a=dY b c:=by
 intro a e
 induction a with
 | zero=>
  intro _;have:b.length+1 - c.length=0:=oM;rw [dY,this]
 | succ a g=>
  intro i;rcases zFL e with d | d
  .rw [dY,d]
  .rw [wQ,g oM oM];cases f:c.isPrefixOf (b.drop a) with
   | false=>rfl
   | true=>
    exfalso;have:=(zEn.1 f).length_le;rw [zAw] at this;omega
def uH (a b):gZ a b=dY a b:=by
 rw [<-aGO a b (a.length+1) oM nL];unfold gZ fY;congr 1;funext i;exact aEI a b i
def aGD (b a):(gZ b a).length=occ (aG b) (dQ a):=by
 unfold gZ occ;rw [zFk,aO]
def rW (a:List UInt8):(⟨a.toArray⟩:ByteArray).size=a.length:=by simp [ByteArray.size]
def aGe {c:List UInt8} {b:Nat} {d:UInt8} (e:c[b]?=some d):∀a,(Instr.index 9 (.string ⟨c.toArray⟩) (.int .i64 b)).run prog a=.ok (.int .u8 d.toNat) a:=λa=>by
 obtain ⟨f,g⟩:=zAc.1 e;rw [aEq (P:=prog) 9 underlying9 ⟨c.toArray⟩ b (by rw [rW];exact f) a];congr 4
def aEk {a b c d e} (j:a[b]?=some d) (k:a[c]?=some e):sufLt (aG a) b c↔d.toNat < e.toNat∨(d.toNat=e.toNat/\sufLt (aG a) (b+1) (c+1)):=by
 rw [jF,rY j,rY k];constructor;rintro (g |⟨i,f⟩);exact .inl oM;exact .inr ⟨by omega,f⟩;rintro (g |⟨i,f⟩);exact .inl oM;exact .inr ⟨by omega,f⟩
def aGb {t b} (a:b < t.length):sufLt (aG t) t.length b:=by
 rw [jF,aMa,rY (zAa a)];exact .inl oM
def aGa {t a} (c:a < t.length):¬sufLt (aG t) a t.length:=by
 rw [jF,aMa,rY (zAa c)];rintro (b |⟨b,_⟩);omega;omega
def aMi (f:List UInt8) (b c:Nat) (g:World) (d:Ending) (i:World):Prop:=∃a:Bool,d=.returned (.bool a)/\(a=true↔sufLt (aG f) b c)/\∃e,i=g.drewN e
def aLo {g} (k l:Nat) {f:Nat} (y) (m:g.length=f) (M:f<=1000) (E:k<=f) (H:l<=f) (F:k≠l):
 Calls prog 67 #[.string ⟨g.toArray⟩,(k:Int),(l:Int)] y (aMi g k l y):=by
 have P:(⟨g.toArray⟩:ByteArray).size=f:=(rW g).trans m;go_enter func67,ntmps67;go_wp2_with fail;go_loopw [1,2] (λz J wr=>∃e i v:Nat,e<=f/\i<=f/\e≠i/\z=.int .i64 e/\J=.int .i64 i/\(sufLt (aG g) k l↔sufLt (aG g) e i)/\wr=y.drewN v) (λz _ _=>f -(intOf z).toNat)
 case atStart=>exact ⟨k,l,0,E,H,F,rfl,rfl,Iff.rfl,rfl⟩
 case round=>
  obtain ⟨e,i,v,K,L,N,rfl,rfl,x,rfl⟩:=hrel;by_cases p:e < f/\i < f
  .obtain ⟨n,B⟩:=p;have q:g[e]?=some (g[e]'(by rw [m];exact n)):=zAa _;have r:g[i]?=some (g[i]'(by rw [m];exact B)):=zAa _;generalize g[e]'(by rw [m];exact n)=c at q;generalize g[i]'(by rw [m];exact B)=d at r;have C:=aEk q r;have I:=aGe q;have O:=aGe r;have A:(e:Int) < f:=oM;have D:(i:Int) < f:=oM;clear q r;by_cases s:c.toNat=d.toNat
   .have w:(c.toNat:Int)=d.toNat:=oM;rw [w] at I;have G:sufLt (aG g) k l↔sufLt (aG g) (e+1) (i+1):=(by rw [x,C];constructor;rintro (j | j);omega;exact j.2;exact λj=>.inr ⟨s,j⟩);clear w s;go_wp2_with fail;go_quiet (fail);go_wp2_with fail;go_roundw
    case rel=>exact ⟨e+1,i+1,_,by omega,by omega,by omega,by go_num,by go_num,G,rfl⟩
    case measure=>exact zr
   .have w:¬(c.toNat:Int)=d.toNat:=oM;have u:decide (c.toNat < d.toNat)=true↔sufLt (aG g) k l:=(by rw [x,C,zCa];constructor;exact λj=>.inl j;rintro (j | j);exact j;exact absurd j.1 s);clear s;go_wp2_with fail;go_quiet (fail);go_wp2_with fail;go_quiet (fail);go_wp2_with fail;go_ret;exact ⟨decide (c.toNat < d.toNat),bH zs,u,_,by rw [zEA,zEA]⟩
  .have u:decide ((i:Int) < e)=true↔sufLt (aG g) k l:=(by rw [x,zCa];by_cases n:e < f;obtain rfl:i=f:=(by have:¬i < f:=λj=>p ⟨n,j⟩;omega);constructor;intro j;omega;intro j;have o:=aGa (t:=g) (a:=e) (by rw [m];exact n);rw [m] at o;exact absurd j o;obtain rfl:e=f:=oM;have o:=aGb (t:=g) (b:=i) (by rw [m];omega);rw [m] at o;exact ⟨λ_=>o,λ_=>by omega⟩);by_cases n:e < f
   .have A:(e:Int) < f:=oM;have D:¬(i:Int) < f:=(by have:¬i < f:=λj=>p ⟨n,j⟩;omega);clear p;go_wp2_with fail;go_ret;exact ⟨decide ((i:Int) < e),bH zs,u,v,rfl⟩
   .have A:¬(e:Int) < f:=oM;clear p;go_wp2_with fail;go_ret;exact ⟨decide ((i:Int) < e),bH zs,u,v,rfl⟩
def TpAt (j:World) (e f:Nat) (a:List UInt8) (i:Nat):Prop:=
 ∃d gk g c,IsSuf (aG a) d/\LiveG j e f gk g i (a.length+1) (aH (aG a) d) c/\(∀b∈c,d[b.1]?=some b.2)/\(∃b∈c,b.2=0)/\a.length<=895
def TpAt.b {e w' a b d c} (g:TpAt e a b d c) (l:Vis e w'):TpAt w' a b d c:=by
 obtain ⟨n,gk,f,m,i,j,k⟩:=g;exact ⟨n,gk,f,m,i,j.b l,k⟩
def VB.grow {l k w1 m} (b:VB l k w1) (a:Below k.heap.size w1 m):VB l k m:=
 ⟨⟨a.os.trans b.1.os,a.tape.trans b.1.tape,a.output.trans b.1.output,zAk b.1.size a.size,λd c i=>by
  rcases b.1.block d c i with n |⟨e,j,f,g⟩|⟨e,j,f,g⟩;exact .inl ((a.block d c).trans n);exact .inr (.inl ⟨e,j,f,g.below a c⟩)
  .exact .inr (.inr ⟨e,j,f,g.below a c⟩)⟩,
  ⟨a.os.trans b.2.os,a.tape.trans b.2.tape,a.output.trans b.2.output,zAk b.2.size a.size,λd c i=>(a.block d c).trans (b.2.block d c i)⟩⟩
def TpAt.mono {d B B' a c b} (f:TpAt d B a c b) (hB:B'<=B):TpAt d B' a c b:=by
 obtain ⟨l,gk,e,k,g,i,j⟩:=f;exact ⟨l,gk,e,k,g,i.mono hB,j⟩
def aHK (a:World) (c:TypeId) (b:Array Value) (d:Nat×Nat) (e:Nat) (f:b.size=e):Rd (a.alloc (.cells b c d)) (a.heap.size+1) 1 (some ⟨a.heap.size,0,none⟩) e b.toList:=by
 refine ⟨by simp [f],λ_=>⟨_,0,rfl,by omega,λi j g=>?_⟩⟩;rw [zBi,cell_of_row (a.alloc (.cells b c d)) a.heap.size i b c d (heap_alloc_new a _)];simpa using g
def kU (b:World) (a:Array Value) (d c:Nat):(convert 22 22 (.slice (some b.heap.size) d c)).run prog (b.alloc (.cells a 5))=.ok (.slice (some b.heap.size) d c) (b.alloc (.cells a 5 (a.size,a.size+1))):=
 Lib.run_convert_bytes_const (P:=prog) b 22 5 a d c underlying22 underlying5
def qE (b:List Nat) (c a:Nat):Array Value:=((b.take a).map sv++List.replicate (c - a) (Value.int .i64 0)).toArray
def aGP (b a):qE b a 0=Array.replicate a (Value.int .i64 0):=by
 unfold qE;apply zFs;simp
def aJa {a b} (c:a.length=b):qE a b b=(a.map sv).toArray:=by
 unfold qE;rw [zAg oM,zDK];simp
def aGQ {b a} (c) (d:b.length=a) (e:c<=a):(qE b a c).size=a:=by
 unfold qE;simp;omega
def aI9 {b} {c a e:Nat} (i:b.length=c) (d:b[a]?=some e):(qE b c a).setIfInBounds a (.int .i64 e)=qE b c (a+1):=by
 have j:=(zAc.1 d).1;apply zFs;unfold qE;rw [zFv,zAv,d];have f:c - a=(c -(a+1))+1:=oM;rw [f,List.replicate_succ];have g:((b.take a).map sv).length=a:=by rw [zBc,zAj];omega
 show List.set ((b.take a).map sv++(Value.int .i64 0::List.replicate (c -(a+1)) (Value.int .i64 0))) a _=_;rw [zEs _ _ oM,g,zDK,zAz,zCo];rfl
def kB (d:World) (f:Nat) (a:List Nat) (g:Ending) (e:World):Prop:=∃b c,g=.returned (.slice b a.length c)/\Made e d.heap.size 3 1 b a.length c (a.map sv)/\VB f d e
def aFe {f g e b} (x:WaveAt b f g e) (M:∀U∈e,U < 257) (D:e.length<=1000):
 Calls prog 186 #[g] b (kB b f e):=by
 have T:=x;obtain ⟨L,r,o,j,Q⟩:=x;obtain ⟨c,d⟩:=eqx e.length;rw [d] at j;have K:b.cell? ⟨g,9,none⟩=some (.int .i64 c):=(j.cell 9).trans (cK r c o).2.2.2.2.2.2.2.2.2.1;have w:b.cell? ⟨g,10,none⟩=some (.int .i64 o):=(j.cell 10).trans (cK r c o).2.2.2.2.2.2.2.2.2.2;have a1:=j.lt;have P:=pN c oM;have Hn:=D;rw [d] at D;clear Q;unfold kB;go_enter func186,ntmps186;go_wp2_with fail;have z:Bk (b.alloc (.cells (Array.replicate c (.int .i64 0)) 3)) b.heap.size 3 (qE e c 0):=by rw [aGP];exact kd _ _ _
 have G:VB f b (b.alloc (.cells (Array.replicate c (.int .i64 0)) 3)):=vR.alloc _;go_loopw [19] (λv wr=>∃a:Nat,a<=c/\v=.int .i64 a/\Bk wr b.heap.size 3 (qE e c a)/\VB f b wr) (λv _=>c -(intOf v).toNat)
 case atStart=>exact ⟨0,zAp _,rfl,z,G⟩
 case round=>
  obtain ⟨a,a0,rfl,y,l⟩:=hrel;clear z G P K w;have a2:=l.1.size;by_cases s:a < c
  .obtain ⟨m,F⟩:∃m,e[a]?=some m:=⟨_,zAa (by rw [d];exact s)⟩;go_wp2_with fail;refine (eR a m (T.b l.1) (by rw [d];exact s) (zAc.1 F).2 M Hn).mono ?_;rintro V J ⟨rfl,t⟩;have k:=t.1.d y dC dC;have u:=l.trans t;have Z:=k.lt;have X:=k.frozen a;have A:=k.set a (.int .i64 m);rw [aI9 d F] at A;have N:∃H,J.cell? ⟨b.heap.size,a,none⟩=some H:=⟨_,(k.cell a).trans (zAq (by rw [aGQ a d oM];exact s))⟩;obtain ⟨H,a3⟩:=N;have R:VB f b (J.setCell ⟨b.heap.size,a,none⟩ (.int .i64 m)):=⟨Vis.fresh u.1 (p:=⟨b.heap.size,a,none⟩) nL _,ka u.2 (p:=⟨b.heap.size,a,none⟩) (.inr nL) _⟩;clear k t u;go_wp2_with fail;go_roundw
   case rel=>exact ⟨a+1,by omega,by go_num,A,R⟩
   case measure=>exact zr
  .obtain rfl:a=c:=oM;have q:=y;rw [aJa d] at q;obtain ⟨I,i⟩:=l.1.Q j;have w:wr.cell? ⟨g,10,none⟩=some (.int .i64 I):=(i.cell 10).trans (cK r a I).2.2.2.2.2.2.2.2.2.2;have W:=i.frozen 10;have Y:=i.lt;have S:=l.trans (VB.N i L o);have E:=Bk.ne q i dC;have C:=q.m (p:=⟨g,10,none⟩) E (.int .i64 o);have O:=aAp (B:=b.heap.size) (n:=a) C nL (by rw [zBc];exact d) zx;clear q i C E;go_wp2_with fail;go_ret;exact ⟨_,_,by rw [d];rfl,by rw [d];exact O,S⟩
def aFh {d gk a c} (l:WalkAt c d gk a) (n:∀q∈a,q < 257) (g:a.length<=1000):
 Calls prog 128 #[gk] c (kB c d a):=by
 obtain ⟨u,t,e,f,m⟩:=l;have r:=e.cell 0;have b:=aFe f n g;unfold kB at b⊢;obtain ⟨v,i⟩:=eqx a.length;rw [i] at b⊢;clear e f m i g;go_enter func128,ntmps128;go_wp2_with fail;refine b.mono ?_;rintro s w ⟨j,k,rfl,o,p⟩;clear b;go_wp2_with fail;go_ret;exact ⟨j,k,rfl,o,p⟩
def vP {Bw gl gk gp N rate L g w} (b:LiveG w Bw gl gk gp rate N L g) (j:∀m∈L,m < 257) (d:L.length<=1000):
 Calls prog 61 #[gl] w (kB w Bw L):=by
 obtain ⟨p,c⟩:=b.a;have n:=c.cell 0;have a:=aFh b.walk j d;clear c;unfold kB at a⊢;obtain ⟨q,e⟩:=eqx L.length;rw [e] at a⊢;clear b e d;go_enter func61,ntmps61;go_wp2_with fail;refine a.mono ?_;rintro o r ⟨f,i,rfl,k,l⟩;clear a;go_wp2_with fail;go_ret;exact ⟨f,i,rfl,k,l⟩
def oW {Bw gl gk gp e rate L c w} (a:LiveG w Bw gl gk gp rate e L c):
 Calls prog 62 #[gl] w λd f=>d=.returned (.int .i64 rate)/\w=f:=by
 obtain ⟨i,b⟩:=a.a;have g:=b.cell 2;clear a b;go_enter func62,ntmps62;go_wp2_with fail;go_ret;exact ⟨rfl,rfl⟩
def aNN (a):a.map sv=(jC a).map iv:=by
 unfold jC;rw [zCh];rfl
def gJ (d:World) (f:Nat) (a:List UInt8) (g:Ending) (e:World):Prop:=
 ∃b c,g=.returned (.tuple #[.slice b a.length c,o0])/\Made e d.heap.size 5 1 b a.length c (a.map bv)/\VB f d e
def vF {Bw gl gk gp rate aA t rs C w} (u:LiveG w Bw gl gk gp rate (t.length+1) (aH (aG t) rs) C) (bA:∀m∈C,rs[m.1]?=some m.2) (x:IsSuf (aG t) rs) (bo:t.length<=895) (bw:1<=rate) (cI:rate<=64) (ca:t.length<=aA) (cA:aA<=2147483648):
 Calls prog 24 #[gl,(aA:Int)] w (gJ w Bw (fC (aH (aG t) rs) rs aA rate t.length)):=by
 obtain ⟨bM,bf,bJ,bK,bL⟩:=info_parts mB;obtain ⟨f,ap⟩:=eqx (aH (aG t) rs);have J:=dR (rs:=rs) (eX t);have I:f.length=t.length+1:=by rw [<-ap,bY,x.len,aO]
 have bz:∀e w1,VB Bw w w1->e*rate<=t.length->Calls prog 51 #[gl,.int .i64 (e*rate:Nat)] w1 λg cr=>g=.returned (.int .i64 (rs.idxOf (e*rate):Nat))/\VB Bw w1 cr:=λe w1 o bg=>by have cc:e*rate∈rs:=x.mem (by rw [aO];omega);exact gP (t:=t) (rs:=rs) (C:=C) (i:=(rs.idxOf (e*rate))) (p:=(e*rate)) Bw gl gk gp rate w1 (u.b o.1) bA x bo (zAc.2 ⟨zDk.2 cc,zFl _⟩)
 rw [ap] at u J⊢;obtain ⟨d,b7⟩:=eqx t.length;have c7:∀m,rs.idxOf m<=896:=λm=>by have:=List.idxOf_le_length (a:=m) (l:=rs);rw [x.len,aO] at this;omega
 have a4:=vP (Bw:=Bw) (gl:=gl) (gk:=gk) (gp:=gp) (N:=(t.length+1)) (rate:=rate) (L:=f) (w:=w) u J oM;unfold kB at a4;rw [b7] at I bz ca bo⊢;rw [I] at a4;have c9:=u.ai;have cj:=aAz J;have bd:=oK f;rw [I] at bd;have cs:=J;have co:¬aA < d:=oM;have cT:=zBy co;have cp:¬((aA:Int) > 2147483648):=oM;have cU:=zBy cp;have cQ:0 < w.heap.size:=zDF (zAp _) u.lt;clear bA J ap x b7;unfold gJ;go_enter func24,ntmps24;go_wp2_with fail;refine (cD (B:=Bw) (gl:=gl) (n:=d) (w:=w) c9 I oM).mono ?_;rintro g w1 ⟨rfl,rfl⟩;go_wp2_with fail;refine a4.mono ?_;clear a4;rintro g w1 ⟨bQ,bZ,rfl,bi,aI⟩;have aF:=aHq (B:=w1.heap.size) (w:=w1) bQ (d+1) bZ (jC f) (by rw [<-aNN];exact bi.rd) nL oM;rw [cj] at aF;clear bi;go_wp2_with fail;refine aF.mono ?_;clear aF;rintro g y ⟨ci,b8⟩;obtain ⟨b5,aL,b6,S,rfl,ax⟩:=ci.resolve_right (λ⟨ce,_⟩=>by cases ce);injection S with S;obtain ⟨aa,a3⟩:=eqx ((gS f).length);rw [<-S,a3] at ax;rw [<-S,a3];rw [a3] at bd;have V:VB Bw w y:=aI.below b8;have aY:=(ax.mono (B':=w.heap.size) aI.1.size);clear b8 S ax aI;go_wp2_with fail;go_loopw [8,9] (λcq a9 wr=>∃e q:Nat,e<=d / rate+1/\a9=.int .i64 (e*rate:Nat)/\wr.ownsRow y.heap.size 5 1 cq q ((uC rs rate e).map bv)/\VB Bw y wr) (λ_ a9 _=>(d+65 -(intOf a9).toNat))
 case atStart=>exact ⟨0,0,zAp _,by simp,ki _ _ _ _,VisK.refl _ _⟩
 case round=>
  obtain ⟨e,q,bg,rfl,K,o⟩:=hrel;have cG:q<=12000:=by have c3:=K.1;have ct:=pM rs rate e;have cu:d / rate<=d:=zDZ _ _;simp at c3;omega
  obtain ⟨M,aC⟩:=eqx (e*rate);have W:=V.trans o;have a5:=cD (B:=Bw) (gl:=gl) (n:=d) (w:=wr) (u.b W.1).ai I oM;have cN:=W.1.size;have cO:=o.1.size;by_cases J:M<=d
  .have a7:=bz e wr W oM;have bp:=qZ rs rate e;obtain ⟨m,aJ⟩:=eqx (rs.idxOf (e*rate));have cR:m<=896:=(by rw [<-aJ];exact c7 _);have cd:=aK8 bw (by omega:e*rate<=d);have ch:(e+1)*rate=M+rate:=(by rw [Nat.add_mul,aC,Nat.one_mul]);rw [aJ] at a7 bp;rw [aC] at a7;rw [aC];obtain ⟨ab,bh⟩:=eqx ((bW m).length);have cz:ab<=11:=(by rw [<-bh];exact bX m);have cF:M<=895:=oM;clear W aJ;go_wp2_with fail;refine a5.mono ?_;clear a5;rintro g O ⟨rfl,rfl⟩;go_wp2_with fail;refine a7.mono ?_;clear a7;rintro g O ⟨rfl,a8⟩;have bt:=a8.1.own K dC dC;have bI:=o.trans a8;have cP:=a8.1.size;clear a8 K o;go_wp2_with fail;refine (aBd (l:=[m]) (bs:=(bW m)) (k:=ab) _ (tH m) bh (Rd.made _ _ 1 1 _ rfl) nL zt oM).mono ?_;rintro g j ⟨P,Q,rfl,U,R⟩;have r:=((kg O.heap.size O).alloc nL (.cells #[.int .u64 m] 64)).trans (R.mono zs);have D:j.ownsRow y.heap.size 5 1 u8 q ((uC rs rate e).map bv):=aP (bt) r;have bC:=r.size;have Y:=U.rd;have al:=(jI (bW m));have bG:=bI.below r;have bD:y.heap.size<=j.heap.size:=oM;clear U R r bt bI;go_wp2_with (at_builtin;refine bE _ rfl (.tmp 41) (.tmp 47) _ rfl y.heap.size 5 bM (.int .u8 0) 1 1 underlying22 bf bJ bK bL rfl dC u8 q _ rfl D j.heap.size P ab Q _ rfl Y al zx oM bD ?_;intro cX aK cg be c5);have s:=aX (kg y.heap.size j) D be bD;have bH:=VB.grow bG s;clear D be c5 s bG;have bx:=oW (Bw:=Bw) (gl:=gl) (gk:=gk) (gp:=gp) (rate:=rate) (L:=f) (w:=aK) (u.b (V.trans bH).1);go_wp2_with fail;refine bx.mono ?_;clear bx;rintro g bO ⟨rfl,rfl⟩;have cw:IntKind.i64.wrap (M+rate)=((M+rate:Nat):Int):=zu;go_wp2_with fail;go_roundw
   case rel=>
    refine ⟨e+1,q+ab,cd,?_,?_,bH⟩
    .rw [ch]
     first | rfl | exact cS oM
    rw [bp,zAz];exact cg
   case measure=>exact zr
  .go_wp2_with fail;refine a5.mono ?_;clear a5;rintro g O ⟨rfl,rfl⟩;have c8:=aOj bw bg oM;subst c8;rw [<-zB] at K;clear W;go_wp2_with fail;refine (oW (Bw:=Bw) (gl:=gl) (gk:=gk) (gp:=gp) (rate:=rate) (L:=f) (w:=wr) (u.b (V.trans o).1)).mono ?_;rintro g O ⟨rfl,rfl⟩;go_wp2_with fail;refine (cD (B:=Bw) (gl:=gl) (n:=d) (w:=wr) (u.b (V.trans o).1).ai I oM).mono ?_;rintro g O ⟨rfl,rfl⟩;go_wp2_with fail;obtain ⟨X,aw⟩:=eqx ((dZ [aA,rate,d]).length);have cy:X<=33:=(by rw [<-aw];have:=aAD [aA,rate,d];simpa using this);refine (aBd (l:=[aA,rate,d]) (bs:=(dZ [aA,rate,d])) (k:=X) _ rfl aw (Rd.made _ _ 1 3 _ rfl) nL zt oM).mono ?_;rintro g j ⟨P,Q,rfl,U,R⟩;have r:=((kg wr.heap.size wr).alloc nL (.cells #[.int .u64 aA,.int .u64 rate,.int .u64 d] 64)).trans (R.mono zs);have bC:=r.size;have D:j.ownsRow y.heap.size 5 1 u8 q ((yO rs rate d).map bv):=aP (K) r;have br:j.ownsRow w.heap.size 5 1 (.slice aL aa b6) aa ((gS f).map bv):=aP (o.1.own aY.own dC dC) r;obtain ⟨bT,c2,rfl,bk⟩:=aR D;have aZ:=bk.rd;have b3:=(Rd.s br);have Y:=U.rd;have b4:=((V.trans o).below r);have bu:(yO rs rate d).length=q:=(by have:=D.1;simpa using this);clear U R r D br bk K aY o;have cn:=kU j;go_wp2_with fail;have a6:=aHK j 5 #[.int .u8 83,.int .u8 75,.int .u8 82,.int .u8 49] (4,5) 4 rfl;obtain ⟨F,a2⟩:=eqx j.heap.size;rw [a2] at a6;have s:Below j.heap.size j (j.alloc (.cells #[.int .u8 83,.int .u8 75,.int .u8 82,.int .u8 49] 5 (4,5))):=(kg j.heap.size j).alloc nL _;have cl:(j.alloc (.cells #[.int .u8 83,.int .u8 75,.int .u8 82,.int .u8 49] 5 (4,5))).heap.size=F+1:=(by simp [a2]);have Z:=b3.below s;have a0:=aZ.below s;have a1:=Y.below s;have aq:=b4.below s;rw [a2] at Z a0 a1 s bC⊢;generalize j.alloc (.cells #[.int .u8 83,.int .u8 75,.int .u8 82,.int .u8 49] 5 (4,5))=aK at a6 s cl Z a0 a1 aq⊢;clear s b3 aZ Y b4 a2 cn;have cv:d / rate<=d:=zDZ _ _;have ck:=pM rs rate (d / rate+1);rw [<-zB,bu] at ck;have cH:q<=12000:=oM;obtain ⟨ac,ay⟩:=eqx ((eE (gS f)).length);obtain ⟨ad,az⟩:=eqx ((eE (yO rs rate d)).length);have cB:ac<=30000:=(by rw [<-ay,kW,a3];have:=bX aa;omega);have cC:ad<=30000:=(by rw [<-az,kW,bu];have:=bX q;omega);have aD:=vG (A:=aL) (n:=aa) (B:=F) (b:=(gS f)) (w:=aK) b6 Z oM oM;rw [ay] at aD;refine aD.mono ?_;clear aD;rintro g bO ⟨ae,am,rfl,bl,G⟩;have cJ:=G.size;have b1:=(a6.below (G.mono oM));have aM:=(a0.below (G.mono oM));have aN:=(a1.below (G.mono oM));have aS:=bl.rd;have aW:=(aq.below G);clear G bl a6 Z a0 a1 aq;go_wp2_with fail;have aE:=vG (A:=bT) (n:=q) (B:=F) (b:=(yO rs rate d)) (w:=bO) c2 aM oM oM;rw [az] at aE;refine aE.mono ?_;clear aE;rintro g v ⟨af,an,rfl,bm,H⟩;have cK:=H.size;have b2:=(b1.below (H.mono oM));have aQ:=(aN.below (H.mono oM));have aT:=(aS.below H);have aU:=bm.rd;have ah:=(aW.below H);clear H bm b1 aM aN aS aW;go_wp2_with fail;obtain ⟨z,av⟩:=eqx (qI f rs aA rate d);obtain ⟨E,aB⟩:=eqx z.length;have cE:E<=100000:=by rw [<-aB,<-av];unfold qI;rw [zAi,zAi,zAi,aw,ay,az];have:gA.length=4:=rfl;omega
   have bc:=oX (A0:=(some ⟨v.heap.size,0,none⟩)) (m0:=4) (B:=(v.heap.size+1)) (ss:=[⟨some ⟨F,0,none⟩,4,4,gA⟩,⟨P,X,Q,dZ [aA,rate,d]⟩,⟨ae,ac,am,eE (gS f)⟩,⟨af,ad,an,eE (yO rs rate d)⟩]) (T:=z) (N:=E) (w:=(v.alloc (.cells #[.slice (some F) 4 4,.slice P X Q,.slice ae ac am,.slice af ad an] 22))) 4 (by rw [<-av];unfold qI;simp [iV]) aB ((Rd.made v _ 1 4 _ rfl).mono zs) (by
    intro cV x;simp at x;rcases x with rfl | rfl | rfl | rfl;exact ((b2.mono (B':=v.heap.size) oM).alloc nL _).mono oM;exact ((aQ.mono (B':=v.heap.size) oM).alloc nL _).mono oM;exact ((aT.mono (B':=v.heap.size) oM).alloc nL _).mono oM
    .exact (aU.alloc nL _).mono oM) zs oM oM
   refine bc.mono ?_;clear bc;rintro g bP ⟨ag,ao,rfl,bn,ba⟩;have b9:=((kg v.heap.size v).alloc nL (.cells #[.slice (some F) 4 4,.slice P X Q,.slice ae ac am,.slice af ad an] 22)).trans (ba.mono zs);have ai:=(ah.below b9);have cL:=ai.1.size;have ak:=(bn.mono (B':=w.heap.size) (by simp;have:=ah.1.size;omega));clear bn ba b9 ah b2 aQ aT aU;go_wp2_with fail;refine (xL (A:=ag) (n:=E) (c:=ao) (b:=z) _ ((ak.rd.alloc oM _).mono zs) oM (Rd.made _ _ 1 1 _ rfl)).mono ?_;rintro g cZ ⟨rfl,bb⟩;have au:=((kg bP.heap.size bP).alloc nL (.cells #[.slice ag E ao] 22)).trans (bb.mono zs);have b0:=(ak.below au);have aj:=(ai.below au);have cM:=aj.1.size;clear bb au ak ai;go_wp2_with fail;refine (aCI (lP z) _).mono ?_;rintro g bN ⟨bR,c0,rfl,bj,ar⟩;have bV:=(b0.below ar);have aV:=(aj.below ar);have bB:=aV.1.size;have bU:=bj.rd;have bq:=bV.own;have al:=(jI (nD (lP z)));clear bj ar b0 aj;go_wp2_with (at_builtin;refine bE _ rfl (.tmp 68) (.tmp 72) _ rfl w.heap.size 5 bM (.int .u8 0) 1 1 underlying22 bf bJ bK bL rfl dC (.slice ag E ao) E _ rfl bq bN.heap.size bR 4 c0 _ rfl bU al zx oM bB ?_;intro cW cY cf c6 cx);have c4:=VB.grow aV (aX (kg w.heap.size bN) bq c6 bB);obtain ⟨bS,c1,rfl,cb⟩:=aR cf;go_ret2;have bF:fC f rs aA rate d=z++nD (lP z):=(by unfold fC;rw [av]);have cm:(fC f rs aA rate d).length=E+4:=(by rw [bF,zAi,aB,lM]);rw [cm,bF,zAz];exact ⟨bS,c1,rfl,cb,c4⟩
def aDj {a:List Nat} {c b:Nat} (d:a[c]?=some b):(a.take c).count b < a.count b:=by
 have e:a.count b=(a.take (c+1)).count b+(a.drop (c+1)).count b:=by rw [<-zCc,zAu]
 have f:(a.take (c+1)).count b=(a.take c).count b+1:=by rw [zAv,d,zCc];simp
 omega
def aK1 {a b} (n:IsSuf (aG a) b) {e m d c} (p:b[e]?=some (d+1)) (q:b[m]?=some d) (i:a[d]?=some c):
 (aH (aG a) b)[e]?=some (c.toNat+1)/\cR (aH (aG a) b) (c.toNat+1) e=m:=by
 obtain ⟨j,k⟩:=zAc.1 p;obtain ⟨r,s⟩:=zAc.1 q;have l:=(zAc.1 i).1;have o:(aG a).getD d 0=c.toNat+1:=by unfold aG dQ;rw [zAb,zAn (by simpa using l),zAf,i];rfl
 have f:=lf n (fA a) j r k s;have g:=uT (fA a) j k l;rw [o] at f g;exact ⟨zAc.2 ⟨_,g⟩,f⟩
def sN {B gk L i j s w} (d:WalkAt w B gk L) (b:L[i]?=some s) (g:cR L s i=j) (f:∀c∈L,c < 257) (t:L.length<=1000):
 Calls prog 53 #[gk,(j:Int)] w λa l=>a=.returned (.int .i64 s)/\Below w.heap.size w l:=by
 have u:s < 257:=f _ (zAd b);have q:=aDj b;have k:L.countP (λc=>decide (c < s))+(L.take i).count s=j:=g;have r:j < L.length:=by have:=zG L s L.length;unfold cR at this;rw [zFf] at this;omega
 have o:=d;obtain ⟨y,x,e,m,n⟩:=d;have v:=e.cell 1;clear e m g f b;go_enter func53,ntmps53;go_wp2_with fail;refine (aAV o r).mono ?_;rintro a w1 ⟨rfl,rfl⟩;go_wp2_with fail;refine (aA1 j n u (zj k) (zk k q) t).mono ?_;rintro a l ⟨rfl,p⟩;go_wp2_with fail;go_ret;exact ⟨rfl,p⟩
def yG {c} {s:Nat} (g:s=c.toNat+1) (a):
 Calls prog 52 #[(s:Int)] a λb j=>b=.returned (.tuple #[bv c,true])/\Below a.heap.size a j:=by
 have f:=c.toNat_lt;have k:¬((s:Int)=0):=oM;have l:((s:Int)==0)=false:=by rw [zCb];omega
 have m:IntKind.i64.wrap (s - 1)=(c.toNat:Int):=zu
 have n:IntKind.u8.wrap c.toNat=(c.toNat:Int):=by rw [IntKind.wrap_u8];omega
 have d:¬s=0:=oM;have o:=zBy d;have i:s < 257:=oM;clear g f;go_enter func52,ntmps52;go_wp2_with fail;refine (fW a i).mono ?_;rintro b w1 ⟨rfl,e⟩;go_wp2_with fail;go_ret2;exact ⟨rfl,e⟩
def tM {e gk b d f a k} (z:WalkAt k e gk b) (F:b[d]?=some a) (E:cR b a d=f) (C:∀H∈b,H < 257) (y:b.length<=1000) (K:TabW k) (A:0 < e):
 Calls prog 54 #[gk,(f:Int)] k λv a6=>v=.returned (.int .i64 d)/\VB e k a6:=by
 have a2:a < 257:=C _ (zAd F);have N:=sN (B:=e) (gk:=gk) (L:=b) (i:=d) (j:=f) (s:=a) (w:=k) z F E C y;obtain ⟨n,G⟩:∃n,b.countP (λH=>decide (H < a))=n:=⟨_,rfl⟩;obtain ⟨p,D⟩:=eqx ((b.take d).count a);have a1:n+p=f:=by rw [<-G,<-D];exact E
 have ah:n<=1000:=by rw [<-G];exact zAk zBh y
 have ai:p<=1000:=by rw [<-D];exact zAk zBv (by rw [zAj];omega)
 have Z:=z;obtain ⟨x,ag,J,X,Y⟩:=z;have aj:=J.lt;clear Y E;have ak:decide ((a:Int) < 0)=false:=zs
 go_enter func54,ntmps54;go_wp2_with fail;refine N.mono ?_;rintro v o ⟨rfl,M⟩;clear N;have m:VB e k o:=kc M;have T:=(Z.b m.1);have Q:=(m.1.d J dC dC);have R:=(X.b m.1);have I:=(K.G m A K.pos);have al:=m.1.size;clear M;go_wp2_with fail;refine wp_region_any kR<|aQ (S:=(VB e)) (V:=(Vs [is gk,is gk,is gk,is x,is (f:Int),is gk,is (a:Int),is (n:Int),is (p:Int),is (a:Int),is (d:Int),is (d:Int)])) [11,12,13,14,15,16,17,18,19,20,21,4] _ rfl kR vR (λ_ _=>VisK.trans) (dI tA0) ?_ ?_
 .refine aL<|pH 0 (.pointer (some gk))<|pV 0 11<|pV 1 12<|pL 2 13 (λl c=>have c:(VB e) o l:=bD c;(((c.1.d Q dC dC).cell 0).trans rfl:l.cell? gk=some (.pointer (some x)))) ?_;refine pH 1 (.int .i64 f)<|pH 0 (.pointer (some gk))<|pH 5 (.int .i64 a)<|sC (λ_ l c _ _ _ g _ _ _ q=>?_) ?_
  .have ab:_=_:=g 5 16 kR rfl;have ac:_=_:=g 6 17 kR rfl;replace c:(VB e) o l:=bD c;go_simp;refine (jQ (B:=e) (gk:=gk) (L:=b) (s:=a) (w:=l) (T.b c.1) a2 y).mono ?_;rintro v a8 ⟨rfl,a0⟩;rw [G];exact q _ _ (kc a0) rfl
  refine sC (λ_ _ _ _ _ _ g _ _ _ q=>?_) ?_
  .have aa:_=_:=g 4 15 kR rfl;have ad:_=_:=g 7 18 kR rfl;have am:IntKind.i64.wrap (f -n)=(p:Int):=(by rw [wI0];have:=a1;omega);go_simp;exact q _ _ vR rfl
  refine pH 5 (.int .i64 a)<|sC (λ_ l c _ _ _ g _ _ _ q=>?_) ?_
  .have a9:_=_:=g 3 14 kR rfl;have ae:_=_:=g 8 19 kR rfl;have af:_=_:=g 9 20 kR rfl;replace c:(VB e) o l:=bD c;go_simp;refine (aAR (B:=e) (gv:=x) (L:=b) (r:=d) (j:=p) (s:=a) (w:=l) (R.b c.1) F D C y (I.G c A I.pos) A).mono ?_;rintro v a8 ⟨rfl,a4⟩;exact q _ _ a4 rfl
  refine pV 10 21 ?_;exact aB
 .intro W a7 c g;replace c:(VB e) o a7:=bD c;have U:W (.tmp 4)=.int .i64 d:=g 11 4 rfl;simp only [zqq];rw [U];clear g;have a3:=m.trans c;go_wp2_with fail;go_ret;exact ⟨rfl,a3⟩
@[irreducible] def zerC (u:Nat):Array Value:=lW .i64 u λ_=>0
@[irreducible] def filC (b:List Nat) (t:Nat):Array Value:=lW .i64 257 λa=>if a < t then cR b a 0 else 0
@[irreducible] def firC (b:List Nat) (t:Nat):Array Value:=lW .i64 257 λa=>cR b a t
@[irreducible] def toC (b:List Nat) (u t:Nat):Array Value:=lW .i64 u λd=>if d < t then cR b (b.getD d 0) d else 0
@[irreducible] def seenC (a5:List Nat) (u f:Nat):Array Value:=lW .i64 u λd=>if f < a5.getD d 0 then 1 else 0
@[irreducible] def txtC (P:List UInt8) (f:Nat):Array Value:=lW .u8 P.length λO=>if O < f then 0 else (P.getD O 0).toNat
def aHE (a):Array.replicate a (Value.int .i64 0)=zerC a:=by unfold zerC;exact rX _ _
def aJe (a):Array.replicate 257 (Value.int .i64 0)=filC a 0:=by
 unfold filC;rw [rX];exact dP λc b=>by rw [zBw oM]
def aLG {L a} (e:a < 257):(filC L a).setIfInBounds a (.int .i64 (L.countP (λf=>decide (f < a)):Nat))=filC L (a+1):=by
 unfold filC;rw [nJ e];refine dP λd g=>?_;by_cases b:d=a
 .subst b;rw [zBx rfl,zBx oM];unfold cR;simp
 .rw [zBw b];by_cases c:d < a
  .rw [zBx c,zBx oM]
  .rw [zBw c,zBw oM]
def aLI (a):filC a 257=firC a 0:=by
 unfold filC firC;exact dP λc b=>by rw [zBx b]
def aLH {L k a} (b:a < 257):∃c,(filC L k)[a]?=some c:=by
 unfold filC;exact ⟨_,gX b⟩
def aLF {b c a} (d:a < 257):(firC b c)[a]?=some (.int .i64 (cR b a c:Nat)):=by
 unfold firC;exact gX d
def aLE {b c a} (f:b[c]?=some a) (e:a < 257):(firC b c).setIfInBounds a (.int .i64 (cR b a c+1:Nat))=firC b (c+1):=by
 unfold firC;rw [nJ e];refine dP λg i=>?_;rw [aIU f];by_cases d:g=a
 .subst d;simp
 .rw [zBw d,zBw d]
def aJ5 (b a):zerC a=toC b a 0:=by
 unfold zerC toC;exact dP λd c=>by rw [zBw oM]
def aHH {b d c a} (e:a < d):(toC b d c)[a]?=some (.int .i64 (((if a < c then cR b (b.getD a 0) a else 0:Nat)):Int)):=by
 unfold toC;exact gX e
def aMu {b c a g} (j:b[a]?=some g) (i:a < c):(toC b c a).setIfInBounds a (.int .i64 (cR b g a:Nat))=toC b c (a+1):=by
 unfold toC;rw [nJ i];refine dP λf k=>?_;by_cases d:f=a;subst d;rw [zBx rfl,zBx oM,zAb,j];rfl
 .rw [zBw d];by_cases e:f < a
  .rw [zBx e,zBx oM]
  .rw [zBw e,zBw oM]
def aGl {b d c} (f:∀a∈b,a<=c):zerC d=seenC b d c:=by
 unfold zerC seenC;refine dP λg i=>?_;rw [zBw];rw [zAb];cases e:b[g]? with
 | none=>simp
 | some a=>simpa using f a (zAd e)
def aIF {d c b a} (e:a < c) (f:d[a]?=some b):(seenC d c b)[a]?=some (.int .i64 0):=by
 unfold seenC;rw [gX e,zAb,f];simp
def aIE {a n b c o} (m:IsSuf o a) (q:a.length=n) (l:c < n) (g:a[c]?=some (b+1)):(seenC a n (b+1)).setIfInBounds c (.int .i64 (1:Nat))=seenC a n b:=by
 unfold seenC;rw [nJ l];refine dP λj p=>?_;by_cases e:j=c
 .subst e;rw [zBx rfl,zAb,g,zBx zs]
 .rw [zBw e];obtain ⟨d,i⟩:∃d,a[j]?=some d:=⟨_,zAa oM⟩;have r:d≠b+1:=λk=>e (zC m (by rw [i,k]) g);rw [zAb,i];simp only [zFd];by_cases f:b+1 < d
  .rw [zBx f,zBx oM]
  .rw [zBw f,zBw oM]
def aIi (a):Array.replicate a.length (Value.int .u8 0)=txtC a a.length:=by
 unfold txtC;rw [rX];exact dP λc b=>by rw [zBx b]
def aJ2 {b a c} (f:b[a]?=some c):(txtC b (a+1)).setIfInBounds a (bv c)=txtC b a:=by
 have i:=(zAc.1 f).1;unfold txtC bv;rw [nJ i];refine dP λg j=>?_;by_cases d:g=a;subst d;rw [zBx rfl,zBw oM,zAb,f];rfl
 .rw [zBw d];by_cases e:g < a
  .rw [zBx e,zBx oM]
  .rw [zBw e,zBw oM]
def aJ3 {t j a} (b:a < t.length):∃c,(txtC t j)[a]?=some c:=by
 unfold txtC;exact ⟨_,gX b⟩
def aJ4 (b):(txtC b 0).toList=b.map bv:=by
 unfold txtC;rw [aJw];apply zDs;intro c;rw [zAf,zAf];by_cases a:c < b.length
 .rw [zCk a,zAa a];simp [bv,a]
 rw [zBg (by simpa using a),zBg (by simpa using a)];rfl
def aIj (a b):(txtC a b).size=a.length:=by unfold txtC;exact nI _ _ _
def aIK (a:Nat) (j:a<=1000000) (b):(Instr.makeSlice 22 (.int .i64 a) (.int .i64 a)).run prog b=.ok (.slice (some b.heap.size) a a) (b.alloc (.cells (Array.replicate a (.int .u8 0)) 5)):=by
 obtain ⟨i,d,e,f,g⟩:=info_parts yY;have:=run_make (P:=prog) b 22 5 i (.int .u8 0) underlying22 d e .i64 .i64 a a oM (zFF _) (by rw [g];omega) oM;rw [this,f];have c:madeCells #[.int .u8 0] a=Array.replicate a (.int .u8 0):=by apply zFs;rw [toList_madeCells_one];simp
 simp only [Value.cells,zBr,zBl];rw [c]
def aA9 (a2 Q) {B t rs w} (aj:IsSuf (aG t) rs) (ai:Rd w B 1 a2 (t.length+1) ((aH (aG t) rs).map sv)) (hB:B<=w.heap.size) (c7:t.length<=895):
 Calls prog 125 #[.slice a2 (t.length+1) Q] w λr bg=>∃bi bl,r=.returned (.tuple #[.slice bi t.length bl,true])/\Made bg w.heap.size 5 1 bi t.length bl (t.map bv)/\Below w.heap.size w bg:=by
 obtain ⟨e,au⟩:=eqx (aH (aG t) rs);have z:=dR (rs:=rs) (eX t);have aR:=aG3 aj;have b0:e.length=t.length+1:=by rw [<-au,bY,aj.len,aO]
 rw [au] at ai z aR;obtain ⟨v,ad⟩:=eqx t.length;obtain ⟨b,b3⟩:=eqx (v+1);rw [ad,b3] at ai b0;rw [ad] at c7;have bA:=vD (A:=a2) (m:=b) (B:=B) (L:=e) (w:=w) Q ai hB oM z;obtain ⟨U,Z,rfl,bU,br⟩:=ai.2 oM;have aS:∀wr,Below w.heap.size w wr->∀(a l:Nat),e[a]?=some l->wr.cell? ⟨U,Z+a,none⟩=some (.int .i64 l):=λwr g a l J=>(g.cell (p:=⟨U,Z+a,none⟩) (zAl bU hB)).trans (br a _ (by rw [zAf,J];rfl));have bM:=z;obtain ⟨an,al,a3,bL⟩:=hqq4 b0 au ad aR;rw [ad,b3];clear br z b0 au ad aR;go_enter func125,ntmps125;go_wp2_with fail;refine bA.mono ?_;clear bA;rintro r w1 ⟨R,rfl,cy,av,aM⟩;go_wp2_with fail;have b4:=yE (gt:=R) (L:=e) (w:=w1) 0 av oM;rw [bL.out] at b4;refine b4.mono ?_;clear b4;rintro r a6 ⟨rfl,aN⟩;have aC:=(av.below aN av.lt);have am:=(aM.trans (aN.mono aM.size));clear aN av aM;go_wp2_with fail;have cE:b<=896:=oM;refine wp_region_any kR<|zQ (fs:=[31,34]) (C:=(Below a6.heap.size a6)) [29,30,31,32,33,34,6,7] 8 (Grow) [k0 (is (.slice (some ⟨U,Z,none⟩) b Q)),k0 (is (b:Int)),k0 (λa0 a1=>∃i,a0=.slice (some ⟨i,0,none⟩) b b/\a6.heap.size<=i/\Bk a1 i 3 (zerC b)),k0 (is (.slice (some ⟨U,Z,none⟩) b Q)),k0 (is (b:Int)),k0 (λa0 a1=>∃i,a0=.slice (some ⟨i,0,none⟩) b b/\a6.heap.size<=i/\Bk a1 i 3 (zerC b)),kEq 31,kEq 34] rfl kR kR (bR.drew) (aAQ (by rfl)) (λw bg aq a=>a.elim (λa=>aq.trans (a.mono aq.size)) (λa=>aq.trans (a.mono aq.size))) (by repeat' (first | exact aGY _ | exact aH7 _ |(refine zAe.2 ⟨?_,?_⟩)|(intro d F;cases F))) (by repeat' (first | exact yZ _ _ | exact tZ _ _ | exact kM (λ_ _ _ ⟨i,aI,aJ,ac⟩ a=>⟨i,aI,aJ,ac.below a ac.lt⟩)|(refine zAe.2 ⟨?_,?_⟩)|(intro d F;cases F))) (by simp only [List.eraseIdx_cons_zero,List.eraseIdx_cons_succ,List.eraseIdx_nil];repeat' (first | exact yZ _ _ | exact tZ _ _ | exact kM (λ_ _ _ ⟨i,aI,aJ,ac⟩ a=>⟨i,aI,aJ,ac.below a ac.lt⟩)|(refine zAe.2 ⟨?_,?_⟩)|(intro d F;cases F))) ?_ ?_
 .refine aL<|aD (cY rfl rfl λx _ _ _ _ _ o _ _ _ _ u=>?_) ?_
  .have bQ:x (.tmp 0)=.slice (some ⟨U,Z,none⟩) b Q:=o 0 kR;clear o;go_simp;exact u _ _ (dX bR rfl rfl) rfl
  refine aD (cY rfl rfl λ_ _ _ _ _ _ o G _ _ _ u=>?_) ?_
  .have cm:_=_:=G 0 29 kR rfl;clear o;go_simp;exact u _ _ (dX bR rfl rfl) rfl
  refine aD (cY rfl rfl λ_ _ aK _ _ _ o G _ _ _ u=>?_) ?_
  .obtain ⟨V,ar⟩:=aK;have cn:_=_:=G 1 30 kR rfl;clear o;have be:=pN b oM;go_simp;exact u _ _ (kY (bR.alloc nL _) rfl (λi ag=>by simp [blk?] at ag;subst ag;simp)) ⟨_,rfl,V.size,by rw [<-aHE];exact kd _ _ _⟩
  refine aD (cY rfl rfl λx _ _ _ _ _ o _ _ _ _ u=>?_) ?_
  .have bQ:x (.tmp 0)=.slice (some ⟨U,Z,none⟩) b Q:=o 0 kR;clear o;go_simp;exact u _ _ (dX bR rfl rfl) rfl
  refine aD (cY rfl rfl λ_ _ _ _ _ _ o G _ _ _ u=>?_) ?_
  .have co:_=_:=G 3 32 kR rfl;clear o;go_simp;exact u _ _ (dX bR rfl rfl) rfl
  refine aD (cY rfl rfl λ_ _ aK _ _ _ o G _ _ _ u=>?_) ?_
  .obtain ⟨V,ar⟩:=aK;have cp:_=_:=G 4 33 kR rfl;clear o;have be:=pN b oM;go_simp;exact u _ _ (kY (bR.alloc nL _) rfl (λi ag=>by simp [blk?] at ag;subst ag;simp)) ⟨_,rfl,V.size,by rw [<-aHE];exact kd _ _ _⟩
  refine aD (cY rfl rfl λ_ _ _ _ _ _ o _ _ _ _ u=>?_) ?_
  .clear o;go_simp;exact u _ _ (dX bR rfl rfl) rfl
  refine aD (cY rfl rfl λ_ _ _ _ _ _ o _ _ _ _ u=>?_) ?_
  .clear o;go_simp;exact u _ _ (dX bR rfl rfl) rfl
  exact aB
 .intro x ak V ar G bS;have bn:x (.tmp 6)=x (.tmp 31):=G 6 6 rfl;have bo:x (.tmp 7)=x (.tmp 34):=G 7 7 rfl;have ca:(λa0 a1=>∃i,a0=.slice (some ⟨i,0,none⟩) b b/\a6.heap.size<=i/\Bk a1 i 3 (zerC b)) (x (.tmp 31)) ak:=G 2 31 rfl;have cb:(λa0 a1=>∃i,a0=.slice (some ⟨i,0,none⟩) b b/\a6.heap.size<=i/\Bk a1 i 3 (zerC b)) (x (.tmp 34)) ak:=G 5 34 rfl;simp only [zqq];clear G bS;obtain ⟨y,b6,b7,ay⟩:=ca;obtain ⟨q,P,ah,aw⟩:=cb;have bs:y≠q:=λr=>ar.2 31 zs 34 zs dC y (by rw [b6];rfl) (by rw [P,r];rfl);have aP:=am.trans (V.mono am.size);have af:=aC.below V aC.lt;have cv:=am.size;rw [bn,bo,b6,P];generalize x (.tmp 29)=u29;generalize x (.tmp 30)=u30;generalize x (.tmp 32)=u32;generalize x (.tmp 33)=u33;clear ar bn bo b6 P V;go_wp2_with fail;obtain ⟨E,a7⟩:=eqx ak.heap.size;have aU:Bk (ak.alloc (.cells Tryz.zeroCells195 195)) E 195 (filC e 0):=(by rw [<-a7,<-aJe];exact kd _ _ _);have S:=ay.alloc (.cells Tryz.zeroCells195 195);have X:=aw.alloc (.cells Tryz.zeroCells195 195);have ba:=af.alloc (.cells Tryz.zeroCells195 195);have W:=aP.alloc aP.size (.cells Tryz.zeroCells195 195);have bX:y < E:=(by rw [<-a7];exact ay.lt);have cw:q < E:=(by rw [<-a7];exact aw.lt);have cx:R < E:=(by rw [<-a7];exact af.lt);have cA:R≠y:=Bk.ne af ay dC;have cz:R≠q:=Bk.ne af aw dC;rw [a7];generalize ak.alloc (.cells Tryz.zeroCells195 195)=W1 at aU S X ba W⊢;clear ay aw aP af aC am a7;go_loopw [35] (λK wr=>∃a:Nat,a<=257/\K=.int .i64 a/\Bk wr E 195 (filC e a)/\Bk wr y 3 (zerC b)/\Bk wr q 3 (zerC b)/\Bk wr R 197 (tcells e)/\Below w.heap.size w wr) (λK _=>257 -(intOf K).toNat)
  case atStart=>exact ⟨0,by omega,rfl,aU,S,X,ba,W⟩
  case round=>
   clear aU S X ba W;obtain ⟨a,aW,rfl,N,H,D,ht,g⟩:=hrel;by_cases z:a < 257
   .have cD:((a:Int) < 257):=oM;have aQ:=lR (gt:=R) (L:=e) (s:=a) (w:=wr) ht z (by rw [an.out];omega);obtain ⟨f,Y⟩:∃f,e.countP (λl=>decide (l < a))=f:=⟨_,rfl⟩;have b8:=aLG (L:=e) z;rw [Y] at aQ b8;have bN:=lhd b8;clear b8 Y;go_wp2_with fail;refine aQ.mono ?_;clear aQ;rintro r cH ⟨rfl,ae⟩;have aV:=N.below ae N.lt;obtain ⟨cd,az⟩:=aLH (L:=e) (k:=a) z;have cg:=(aV.cell a).trans az;have cs:=aV.frozen a;clear az;go_wp2_with fail;go_roundw
    case rel=>exact ⟨a+1,by omega,by go_num,by rw [<-bN.out];exact aV.set a _,(H.below ae H.lt).m zt _,(D.below ae D.lt).m zt _,(ht.below ae ht.lt).m zt _,(g.trans (ae.mono g.size)).setCell zt _⟩
    case measure=>exact zr
   .have aX:a=257:=oM;subst aX;rw [aLI] at N;have bm:((257:Nat):Int)=257:=rfl;rw [bm];clear bm;have bj:=N;have a5:=H;have a4:=D;have T:=g;clear N H D ht g z aW;go_wp2_with fail;have c0:w.heap.size<=q:=oM;have c2:w.heap.size<=y:=oM;have bW:w.heap.size<=E:=oM;have bx:E≠q:=oM;have bz:q≠E:=oM;go_loopw [46] (λK wr=>∃a:Nat,a<=b/\K=.int .i64 a/\Bk wr E 195 (firC e a)/\Bk wr y 3 (zerC b)/\Bk wr q 3 (toC e b a)/\Below w.heap.size w wr) (λK _=>b -(intOf K).toNat)
    case atStart=>exact ⟨0,by omega,rfl,bj,a5,by rw [<-aJ5];exact a4,T⟩
    case round=>
     clear bj a5 a4 T;obtain ⟨a,aW,rfl,N,H,D,g⟩:=hrel;by_cases z:a < b
     .obtain ⟨l,J⟩:∃l,e[a]?=some l:=⟨_,zAa (by rw [an.out];exact z)⟩;have bI:=bM l (zAd J);have ao:=aS wr g a l J;obtain ⟨f,Y⟩:=eqx (cR e l a);have cF:f<=1000:=(by have:=zG e l a;rw [Y,an.out] at this;omega);have ce:wr.cell? ⟨E,l,none⟩=some (.int .i64 f):=(by rw [<-Y];exact (N.cell l).trans (aLF bI));have cq:=N.frozen l;have cf:wr.cell? ⟨q,a,none⟩=some (.int .i64 (((if a < a then cR e (e.getD a 0) a else 0:Nat)):Int)):=(D.cell a).trans (aHH z);have cr:=D.frozen a;have a9:=aMu J z;have aa:=aLE J bI;rw [Y] at a9 aa;have cu:IntKind.i64.wrap (f+1)=((f+1:Nat):Int):=zu;obtain ⟨aE,aF⟩:=hqq2 a9 aa;clear a9 aa Y;go_wp2_with fail;go_roundw
      case rel=>exact ⟨a+1,by omega,by go_num,by rw [<-aF.out];exact (N.m (p:=⟨q,a,none⟩) bx _).set l _,(H.m (p:=⟨q,a,none⟩) bs _).m (p:=⟨E,l,none⟩) (zGh bX) _,by rw [<-aE.out];exact (D.set a _).m (p:=⟨E,l,none⟩) bz _,(g.setCell (p:=⟨q,a,none⟩) c0 _).setCell (p:=⟨E,l,none⟩) bW _⟩
      case measure=>exact zr
     .have aX:b=a:=oM;subst aX;have a5:=H;have a4:=D;have T:=g;have bV:=g.size;clear N H D g z aW bx bz;have ct:((b:Int) - 1)=(v:Int):=oM;have be:=aIK v oM;go_wp2_with fail;obtain ⟨I,a8⟩:=eqx wr.heap.size;have bb:Bk (wr.alloc (.cells (Array.replicate v (.int .u8 0)) 5)) I 5 (txtC t v):=(by rw [<-a8,<-a3.out,<-aIi];exact kd _ _ _);have S:=a5.alloc (.cells (Array.replicate v (.int .u8 0)) 5);have X:=a4.alloc (.cells (Array.replicate v (.int .u8 0)) 5);have W:=T.alloc T.size (.cells (Array.replicate v (.int .u8 0)) 5);have bw:y≠I:=zGh (by rw [<-a8];exact a5.lt);have bu:q≠I:=zGh (by rw [<-a8];exact a4.lt);have bt:w.heap.size<=I:=(by rw [<-a8];exact T.size);rw [a8];generalize wr.alloc (.cells (Array.replicate v (.int .u8 0)) 5)=W2 at bb S X W⊢;clear a5 a4 T a8 be bV;have bG:rs.length=b:=(by have:=congrArg List.length al;rw [bY,an.out] at this;exact this);have c6:∀d∈rs,d<=v:=λd F=>by have:=aj.lt F;rw [aO,a3.out] at this;omega
      rw [aGl c6] at S;have b5:=aEw aj;rw [a3.out] at b5;have bk:=lhd bG;have ab:=aj;clear bG;go_loopw [13,14] (λcc K wr=>∃O d:Nat,O<=v/\rs[d]?=some O/\cc=.int .i64 d/\K=.int .i64 ((O:Int) - 1)/\Bk wr y 3 (seenC rs b O)/\Bk wr q 3 (toC e b b)/\Bk wr I 5 (txtC t O)/\Below w.heap.size w wr) (λ_ K _=>(intOf K+1).toNat)
      case atStart=>exact ⟨v,0,by omega,b5,rfl,by first | rfl | go_num,S,X,bb,W⟩
      case round=>
       clear S X bb W b5;obtain ⟨O,d,cC,F,rfl,rfl,H,D,J,g⟩:=hrel;have ax:d < b:=(by rw [<-bk.out];exact (zAc.1 F).1);by_cases c4:O=0
       .subst c4;have aY:=aI0 ab F;rw [al.out] at aY;have ao:=aS wr g d 0 aY;have c5:(((0:Nat):Int) - 1)=-1:=rfl;rw [c5];have b2:=aHW (B:=w.heap.size) J bt ((aIj t 0).trans a3) zx;rw [aJ4] at b2;clear H D J aY;have aZ:=qO (A:=(some ⟨I,0,none⟩)) (m:=v) (B:=wr.heap.size) (t:=t) (w:=wr) v b2.rd nL oM;rw [b3] at aZ;go_wp2_with fail;refine aZ.mono ?_;clear aZ;rintro r bh ⟨cG,bJ,bP,b7,rfl,b1,M⟩;have c9:=b7.unique ab;subst c9;rw [al.out] at b1;have bH:=aA8 (A:=bJ) (A2:=(some ⟨U,Z,none⟩)) (n:=b) (B:=bh.heap.size) (L:=e) (w:=bh) bP Q b1.rd (((ai.below (g.mono hB)).below (M.mono (zj g.size))).mono (zk g.size M.size)) nL oM;clear b1 b7 ao;go_wp2_with fail;refine bH.mono ?_;clear bH;rintro r cI ⟨rfl,bT⟩;go_wp2_with fail;go_ret2;have bp:=M.trans (bT.mono M.size);exact ⟨_,_,rfl,b2.below bp,g.trans (bp.mono g.size)⟩
       .obtain ⟨f,rfl⟩:∃f,O=f+1:=⟨O - 1,by omega⟩;have c8:(((f+1:Nat):Int) - 1)=(f:Int):=oM;rw [c8];have bF:f < t.length:=(by rw [a3.out];omega);obtain ⟨ap,aT⟩:∃ap,t[f]?=some ap:=⟨_,zAa bF⟩;obtain ⟨bf,bE,bD⟩:=ab.row (p:=f) (by rw [aO,a3.out];omega);have bC:rs[bf]?=some f:=(by rw [zAa bE,bD]);obtain ⟨P,ah⟩:=aK1 ab F bC aT;rw [al.out] at P ah;have ao:=aS wr g d _ P;obtain ⟨aA,b9⟩:=eqx (ap.toNat+1);have bq:=yG (c:=ap) (s:=aA) b9.symm wr;rw [b9] at P ah ao;have a9:=aIE (n:=b) ab bk ax F;have aa:=aJ2 aT;have bZ:(toC e b b)[d]?=some (.int .i64 bf):=(by rw [aHH ax,zBx ax,zAb,P];show some (Value.int .i64 (cR e aA d:Nat))=_;rw [ah]);obtain ⟨cd,az⟩:=aJ3 (t:=t) (j:=f+1) bF;obtain ⟨aE,aF⟩:=hqq2 a9 aa;have bO:=(aIF ax F);clear bD bE P ah b9 a9 aa aT;go_wp2_with fail;refine bq.mono ?_;clear bq;rintro r bh ⟨rfl,M⟩;have bd:=H.below M H.lt;have bB:=D.below M D.lt;have bc:=J.below M J.lt;have ch:=(bd.cell d).trans bO;have ci:=bd.frozen d;have cj:=(bB.cell d).trans bZ;have ck:=(bc.cell f).trans az;have cl:=bc.frozen f;have c1:q≠y:=λr=>bs r.symm;have c3:I≠y:=λr=>bw r.symm;have cB:I≠q:=λr=>bu r.symm;have bK:=(g.trans (M.mono g.size));clear M g;unfold bv;go_wp2_with fail;go_roundw
        case rel=>
         refine ⟨f,bf,by omega,bC,rfl,?_,?_,?_,?_,?_⟩
         .first | rfl | go_num
         rw [<-aE.out];exact (bd.set d _).m (p:=⟨I,f,none⟩) bw _;exact (bB.m (p:=⟨y,d,none⟩) c1 _).m (p:=⟨I,f,none⟩) bu _;rw [<-aF.out];exact (bc.m (p:=⟨y,d,none⟩) c3 _).set f _;exact (bK.setCell (p:=⟨y,d,none⟩) c2 _).setCell (p:=⟨I,f,none⟩) bt _
        case measure=>simp [intOf]
end Go.Proofs.YtlghmcogeipojaaGreatDoor
