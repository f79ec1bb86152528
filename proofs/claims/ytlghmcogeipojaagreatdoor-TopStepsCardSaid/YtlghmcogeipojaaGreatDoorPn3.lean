/- Lemmas of the walk. Conditions: each its own. -/
import Derived.Test.YtlghmcogeipojaaGreatDoorPn2
set_option linter.all false
set_option maxRecDepth 100000
set_option maxHeartbeats 4000000
open Go.Proofs.Tryz
namespace Go.Proofs.YtlghmcogeipojaaGreatDoor
open Go.RowKit
def aMq (f:Nat->Prop) (l m i:Nat) (q:List Value) (k:List Nat) (n o:Int) (b c:LT) (p:World) (j:Ending) (d:World):Prop:=
 ∃(a:LT) (e:List Value) (g:Nat),j=.returned (.int .i64 (a.num:Nat))/\TS d f l m e k n (wrap64 (o+g))/\g<=4/\a.In d e/\a.er=Tr.bal b.er c.er/\a.nums.Perm (i::(b.nums++c.nums))/\a.blks.Perm (b.blks++c.blks)/\ButL (i::(b.nums++c.nums)) q e/\LK f [] p d
def gT (c a b):wrap64 (wrap64 (c+a)+b)=wrap64 (c+(a+b)):=by
 unfold wrap64;omega
def LT.L.l {f} {a b:LT} (c:(LT.nd f a b).L):a.L:=by
 obtain ⟨d,e⟩:=c;rw [LT.len_nd] at e;simp only [LT.ht,LT.er,Tr.ht] at d;exact ⟨by simp only [LT.ht];omega,by omega⟩
def LT.L.r {f} {b a:LT} (c:(LT.nd f b a).L):a.L:=by
 obtain ⟨d,e⟩:=c;rw [LT.len_nd] at e;simp only [LT.ht,LT.er,Tr.ht] at d;exact ⟨by simp only [LT.ht];omega,by omega⟩
def ButL.mono {b l' c d} (g:ButL b c d) (j:∀a,a∈b->a∈l'):ButL l' c d:=λa f i e=>g a f (λk=>i (j a k)) e
def At8.nd {f g e b c d} (a:Nd f b c d) (i:ButL e f g) (k:b∉e):Nd g b c d:=by
 obtain ⟨j,n,o,l,m,a⟩:=a;exact ⟨j,n,o,l,m,i _ _ k a⟩
def aOH {c d} {e a b:LT} (f:(c::(e.nums++(LT.nd d a b).nums)).Nodup):(c::d::(e.nums++(a.nums++b.nums))).Nodup:=by
 refine (zGd ?_).1 f;rw [zDc];intro g;simp only [LT.nums,zDg,zCc];omega
def aOD (c d) (e a b:LT):(LT.nd d (.nd c e a) b).nums.Perm (c::(e.nums++(LT.nd d a b).nums)):=by
 rw [zDc];intro f;simp only [LT.nums,zDg,zCc];omega
def aOL (e c) (d a b:LT):(LT.nd c (.nd e d a) b).blks.Perm (d.blks++(LT.nd c a b).blks):=by
 simp only [LT.blks,zCo];exact .refl _
def aOG {b d c} {k g i f:LT} (j:(b::(k.nums++(LT.nd d (.nd c g i) f).nums)).Nodup):
 (d::c::(g.nums++(i.nums++f.nums))).Nodup/\b∉ [d,c]/\(∀e,e∈(LT.nd c g (.nd d i f)).nums->e≠b)/\(∀e,e∈k.nums->e∉ [d,c])/\(b::c::(k.nums++(g.nums++(LT.nd d i f).nums))).Nodup:=by
 have q:(b::(k.nums++(LT.nd d (.nd c g i) f).nums)).Perm (d::c::(g.nums++(i.nums++f.nums))++(b::k.nums)):=by rw [zDc];intro s;simp only [LT.nums,zDg,zCc];omega
 have r:(b::(k.nums++(LT.nd d (.nd c g i) f).nums)).Perm (b::c::(k.nums++(g.nums++(LT.nd d i f).nums))):=by rw [zDc];intro s;simp only [LT.nums,zDg,zCc];omega
 have n:=(q.nodup_iff).1 j;have m:=(r.nodup_iff).1 j;rw [zDb] at n;obtain ⟨p,t,o⟩:=n;refine ⟨p,λa=>o b (by simp only [zDf,zDh,or_false] at a;rcases a with a | a <;> simp [a]) b zs rfl,λe l a=>?_,λe l a=>o e (by simp only [zDf,zDh,or_false] at a;rcases a with a | a <;> simp [a]) e (by simp [l]) rfl,m⟩;subst a;rw [zDe] at m;refine m.1 ?_;simp only [LT.nums,zDf,zCp] at l⊢;rcases l with j | j | j | j | j <;> simp [j]
def aOC (d f e) (g b c a:LT):(LT.nd e (.nd d g b) (.nd f c a)).nums.Perm (d::(g.nums++(LT.nd f (.nd e b c) a).nums)):=by
 rw [zDc];intro i;simp only [LT.nums,zDg,zCc];omega
def aOK (g e d) (f b c a:LT):(LT.nd d (.nd g f b) (.nd e c a)).blks.Perm (f.blks++(LT.nd e (.nd d b c) a).blks):=by
 simp only [LT.blks,zCo];exact .refl _
def aOB {c e} {d a b:LT} (f:(LT.nd c (.nd e d a) b).L):(LT.nd c a b).L:=by
 obtain ⟨g,l⟩:=f;have i:=LT.len_nd c (.nd e d a) b;have j:=LT.len_nd e d a;have k:=LT.len_nd c a b;simp only [LT.ht,LT.er,Tr.ht] at g;refine ⟨?_,by omega⟩;simp only [LT.ht,LT.er,Tr.ht];omega
def aOI {b d c} {f b1 b2 i:LT} (g:(b::((LT.nd d f (.nd c b1 b2)).nums++i.nums)).Nodup):
 (d::c::(f.nums++(b1.nums++b2.nums))).Nodup/\b∉ [d,c]/\(∀e,e∈(LT.nd c (.nd d f b1) b2).nums->e≠b)/\(∀e,e∈i.nums->e∉ [d,c])/\(b::c::((LT.nd d f b1).nums++(b2.nums++i.nums))).Nodup:=by
 have o:(b::((LT.nd d f (.nd c b1 b2)).nums++i.nums)).Perm (d::c::(f.nums++(b1.nums++b2.nums))++(b::i.nums)):=by rw [zDc];intro q;simp only [LT.nums,zDg,zCc];omega
 have p:(b::((LT.nd d f (.nd c b1 b2)).nums++i.nums)).Perm (b::c::((LT.nd d f b1).nums++(b2.nums++i.nums))):=by rw [zDc];intro q;simp only [LT.nums,zDg,zCc];omega
 have l:=(o.nodup_iff).1 g;have k:=(p.nodup_iff).1 g;rw [zDb] at l;obtain ⟨n,r,m⟩:=l;refine ⟨n,λa=>m b (by simp only [zDf,zDh,or_false] at a;rcases a with a | a <;> simp [a]) b zs rfl,λe j a=>?_,λe j a=>m e (by simp only [zDf,zDh,or_false] at a;rcases a with a | a <;> simp [a]) e (by simp [j]) rfl,k⟩;subst a;rw [zDe] at k;refine k.1 ?_;simp only [LT.nums,zDf,zCp] at j⊢;rcases j with g |(g | g | g)| g <;> simp [g]
def aOE (b d c) (a b1 b2 e:LT):(LT.nd c (.nd d a b1) (.nd b b2 e)).nums.Perm (b::((LT.nd d a (.nd c b1 b2)).nums++e.nums)):=by
 rw [zDc];intro f;simp only [LT.nums,zDg,zCc];omega
def aOM (e c b) (a b1 b2 d:LT):(LT.nd b (.nd c a b1) (.nd e b2 d)).blks.Perm ((LT.nd c a (.nd b b1 b2)).blks++d.blks):=by
 simp only [LT.blks,zCo];exact .refl _
def aPg {b c} {a b1 b2:LT} (d:(LT.nd b a (.nd c b1 b2)).L):(LT.nd b a b1).L:=by
 obtain ⟨e,j⟩:=d;have f:=LT.len_nd b a (.nd c b1 b2);have g:=LT.len_nd c b1 b2;have i:=LT.len_nd b a b1;simp only [LT.ht,LT.er,Tr.ht] at e;refine ⟨?_,by omega⟩;simp only [LT.ht,LT.er,Tr.ht];omega
def aOJ {c d} {a b e:LT} (g:(c::((LT.nd d a b).nums++e.nums)).Nodup):(c::d::(a.nums++(b.nums++e.nums))).Nodup:=by
 have f:c::((LT.nd d a b).nums++e.nums)=c::d::(a.nums++(b.nums++e.nums)):=by simp [LT.nums]
 rwa [f] at g
def aOF (c d) (a b e:LT):(LT.nd d a (.nd c b e)).nums.Perm (c::((LT.nd d a b).nums++e.nums)):=by
 rw [zDc];intro f;simp only [LT.nums,zDg,zCc];omega
def aON (e c) (a b d:LT):(LT.nd c a (.nd e b d)).blks.Perm ((LT.nd c a b).blks++d.blks):=by
 simp only [LT.blks,zCo];exact .refl _
def zP {p e q m U u t N} {B E:LT} {Q} (J:TS Q p e q U u t N) (am:Nd U m B.num E.num) (bO:B.In Q U) (bQ:E.In Q U) (b7:(m::(B.nums++E.nums)).Nodup) (eb:B.L) (ec:E.L):
 Calls prog 244 #[e,(m:Int)] Q (aMq p e q m U u t N B E Q):=by
 obtain ⟨fg,fn,fo,fl,fm,am⟩:=am;obtain ⟨a1,dx⟩:=eqx B.ht;obtain ⟨a2,dz⟩:=eqx E.ht;obtain ⟨dB,bP⟩:=eqx B.num;obtain ⟨dD,dA⟩:=eqx E.num;have du:∀S,S∈B.nums->S≠m:=λS a6 I=>by rw [zDe] at b7;exact b7.1 (by rw [<-I];simp [a6])
 have dv:∀S,S∈E.nums->S≠m:=λS a6 I=>by rw [zDe] at b7;exact b7.1 (by rw [<-I];simp [a6])
 obtain ⟨ci,cj,ck,cl,cE,a3⟩:=bO.R;obtain ⟨cm,b1,cn,co,cF,a4⟩:=bQ.R;have e0:=B.on_le;have e1:=E.on_le;obtain ⟨dE,dF⟩:=eb;obtain ⟨dG,dH⟩:=ec;have dt:=kG (F:=p) (gt:=e) (n:=q) (k:=m) (l:=B.num) (r:=E.num) (hl:=B.ht) (hr:=E.ht) (nl:=B.len) (nr:=E.len) (ol:=B.on) (or_:=E.on) (xs:=U) (fr:=u) (rt:=t) (v:=N) (w:=Q) J am a3 a4 oM oM oM oM oM oM;obtain ⟨cT,d1,bc,az,cR,cS,bM,aI,aK⟩:=hqq9 bO bQ a3 a4 du dv b7 dx dz;obtain ⟨cg,ch,d9,aA,aC⟩:=hqq5 bP dA dt (show B.L from ⟨dE,dF⟩) (show E.L from ⟨dG,dH⟩);have eg:a1<=100000:=oM;have eh:a2<=100000:=oM;clear bO bQ a3 a4 du dv b7 dx dz bP dA dt J am e0 e1 dE dF dG dH;go_enter func244,ntmps244;go_wp2_with fail;refine d9.out.mono ?_;rintro I w1 ⟨rfl,K,ed,bv,bW,bS,_⟩;clear d9;have dw:B.In w1 K:=cT.out.but (bW.l (zDa.2 rfl)) bS (λS a6 I=>cR.out S a6 (zDa.1 I)) (by simp);have dy:E.In w1 K:=d1.out.but (bW.l (zDa.2 rfl)) bS (λS a6 I=>cS.out S a6 (zDa.1 I)) (by simp);obtain ⟨cv,cQ,ar,cK,R⟩:=ed;obtain ⟨D,da,rfl,aD⟩:=R.rd.ex (by have:=bv.lt R.rd.len;omega);have dN:=R.rd.c1;have dX:=R.rd.a.lt;have dU:=aD.lt;have fk:(m:Int) < (q:Int):=by have:=bv.lt R.rd.len;omega
 obtain ⟨dJ,dK,_⟩:=R.rd.at bv;rw [cg.out] at dJ;rw [ch.out] at dK;obtain ⟨d6,bd,bi,cY,cU,d2⟩:=hqq6 (show TS w1 p e q K u t N from ⟨cv,_,ar,cK,R⟩) bv bW bS dw dy;clear bv bW bS dw dy R aD cT d1 bc az;go_wp2_with fail;go_quiet (fail);have ds:=d6.out.below ((km (kg w1.heap.size w1) nq));have dq:=cY.out.trans (LK.below (F:=p) (bl:= []) (km (kg w1.heap.size w1) nq));have dp:=cU.out.below (km (kg w1.heap.size w1) nq);have dr:=d2.out.below (km (kg w1.heap.size w1) nq);clear dN dJ dK dX dU d6 cY cU d2;generalize w1.drewN nq=w2 at*
 obtain ⟨d7,cZ,bX,c3⟩:=hqq4 ds dq dp dr;clear ds dq dp dr;go_wp2_with fail;obtain ⟨ci,cj,ck,cl,cE,a3⟩:=bX.out.R;obtain ⟨cm,b1,cn,co,cF,a4⟩:=c3.out.R;rw [cg.out,aI.out] at a3;rw [ch.out,aK.out] at a4;have az:=lhd a4;refine (nP (F:=p) (gt:=e) (n:=q) (k:=dB) (hk:=a1) (xs:=K) (fr:=u) (rt:=t) (v:=N) (w:=w2) d7.out a3).mono ?_;rintro I ef ⟨rfl,dI,bU,_⟩;obtain ⟨d8,d0,cV,d3⟩:=hqq4 dI (cZ.out.trans bU) (bX.out.but (ButL.refl [] _) bU (by simp) (by simp)) (c3.out.but (ButL.refl [] _) bU (by simp) (by simp));clear dI bU a3 a4;go_wp2_with fail;refine (nP (F:=p) (gt:=e) (n:=q) (k:=dD) (hk:=a2) (xs:=K) (fr:=u) (rt:=t) (w:=ef) d8.out az.out).mono ?_;rintro I ae ⟨rfl,cI,bV,_⟩;rw [gT,show (1:Int)+1=2 from rfl] at cI;obtain ⟨bg,c1,bY,c4⟩:=hqq4 cI (d0.out.trans bV) (cV.out.but (ButL.refl [] _) bV (by simp) (by simp)) (d3.out.but (ButL.refl [] _) bV (by simp) (by simp));clear cI bV az cV d3 bX c3 d7 d8 cZ d0;have fj:wrap64 ((a1:Int) -(a2:Int))=(a1:Int) - a2:=by unfold wrap64;omega
 by_cases fh:a2+1 < a1
 .have dR:decide ((a1:Int) - a2 > 1)=true:=zBz oM;obtain ⟨A,y,x,rfl⟩:∃A y x,B=LT.nd A y x:=by
   cases B with
   | lf m a5 x=>
    have I:0=a1:=aI.out;omega
   | nd A y x=>exact ⟨A,y,x,rfl⟩
  obtain rfl:A=dB:=cg.out;obtain ⟨ap,aT⟩:=eqx y.num;obtain ⟨aq,aV⟩:=eqx x.num;obtain ⟨V,aS⟩:=eqx y.ht;obtain ⟨W,aU⟩:=eqx x.ht;obtain ⟨ao,aW,aX⟩:=bY.out;obtain ⟨ci,cj,ck,cl,cE,a3⟩:=aW.R;obtain ⟨cm,H,cn,co,cF,a4⟩:=aX.R;rw [aT,aS] at a3;rw [aV,aU] at a4;obtain ⟨cv,cQ,ar,cK,R⟩:=bg.out;obtain ⟨D,da,rfl,aD⟩:=R.rd.ex (by have:=ao.lt R.rd.len;omega);have bP:(A:Int) < (q:Int):=(by have:=ao.lt R.rd.len;omega);obtain ⟨c8,bc,az,aG,bK,bL,b4,b5,cc⟩:=hqq9 R a3 a4 (show At8 K A (ndL y.num x.num _ _ _ _ _) from ao) aT aV aS aU aW;have cd:=lhd aX;have dY:=R.rd.a.lt;have dV:=aD.lt;have dn:∀o,VisK (λx=>x=e) ae o->o.cell? ⟨e,1,none⟩=some (.slice (some D) q ar)/\o.cell? ⟨D,A*8,none⟩=some (.int .i64 (ap:Int))/\o.cell? ⟨D,A*8+1,none⟩=some (.int .i64 (aq:Int)):=λo J=>by obtain ⟨a0,bE⟩:=c8.out.rd.b J.1;obtain ⟨ay,ad,_⟩:=bE.at aG.out;rw [bK.out] at ay;rw [bL.out] at ad;exact ⟨bE.c1,ay,ad⟩
  have bI:=lhd dn;clear aW aX a3 a4 ao aT aV aS aU R aD dn;go_wp2_with fail;refine wp_region_any kR ?_;refine qX (C:=(VisK (λaa=>aa=e) ae)) (pre:=(λo=>TS o p e q K u t (wrap64 (N+2))/\LK p [] ae o)) 19 [37,38,39,40,41,42,43,44,45,46,47,48,49,50,51,52,53,54,55] (VisK (λaa=>aa=e)) 9 (λa0 o=>a0=.int .i64 (V:Int)/\TS o p e q K u t (wrap64 (N+3))/\LK p [] ae o) [is e,is e,is e,is (.pointer (some ⟨e,1,none⟩)),is (.slice (some D) q ar),is (A:Int),is (.pointer (some ⟨D,A*8,none⟩)),is (.pointer (some ⟨D,A*8,none⟩)),is (ap:Int),cO,is e,is e,is e,is (.pointer (some ⟨e,1,none⟩)),is (.slice (some D) q ar),is (A:Int),is (.pointer (some ⟨D,A*8,none⟩)),is (.pointer (some ⟨D,A*8+1,none⟩)),is (aq:Int)] _ rfl dC kR kR (kc (bR.drew)) (⟨bg.out.below (bR.drew),LK.below (bR.drew)⟩) (λ_ _ J m=>J.trans (m.elim (λa5=>kc a5) id)) (λ_ _ J m=>⟨J.1.below m,J.2.trans (LK.below m)⟩) (λ_ _ _ ⟨aN,aO,cy⟩ m=>⟨aN,aO.below m,cy.trans (LK.below m)⟩) tA4 ?_ ?_
  .refine bB ?_;refine sC3 (λs _ _ _ _ _ z _ _ _ _ d=>?_) ?_
   .have af:s (.tmp 0)=.pointer (some e):=z 0 kR;go_simp;exact d _ _ (aJ bR rfl) rfl
   refine sC3 (λs _ _ _ _ _ z _ _ _ _ d=>?_) ?_
   .have af:s (.tmp 0)=.pointer (some e):=z 0 kR;go_simp;exact d _ _ (aJ bR rfl) rfl
   refine sC3 (λ_ _ _ _ _ _ _ g _ _ _ d=>?_) ?_
   .have em:_=_:=g 1 38 kR rfl;go_simp;exact d _ _ (aJ bR rfl) rfl
   refine sC3 (λ_ _ _ _ _ _ _ g _ _ _ d=>?_) ?_
   .have en:_=_:=g 2 39 kR rfl;go_simp;exact d _ _ (aJ bR rfl) rfl
   refine sC3 (λ_ _ X _ _ _ _ g _ _ _ d=>?_) ?_
   .have eo:_=_:=g 3 40 kR rfl;obtain ⟨ad,b2,b3⟩:=bI.out _ X;go_simp;exact d _ _ (aJ bR rfl) rfl
   refine sC3 (λs _ _ _ _ _ z _ _ _ _ d=>?_) ?_
   .have df:s (.tmp 5)=.int .i64 (A:Int):=z 5 kR;go_simp;exact d _ _ (aJ bR rfl) rfl
   refine sC3 (λ_ _ _ _ _ _ _ g _ _ _ d=>?_) ?_
   .have ep:_=_:=g 4 41 kR rfl;have eq:_=_:=g 5 42 kR rfl;go_simp;exact d _ _ (aJ bR rfl) rfl
   refine sC3 (λ_ _ _ _ _ _ _ g _ _ _ d=>?_) ?_
   .have es:_=_:=g 6 43 kR rfl;go_simp;exact d _ _ (aJ bR rfl) rfl
   refine sC3 (λ_ _ X _ _ _ _ g _ _ _ d=>?_) ?_
   .have et:_=_:=g 7 44 kR rfl;obtain ⟨ad,b2,b3⟩:=bI.out _ X;go_simp;exact d _ _ (aJ bR rfl) rfl
   refine sC3 (λ_ o _ aP _ _ _ g _ _ _ d=>?_) ?_
   .have Y:(λo=>TS o p e q K u t (wrap64 (N+2))/\LK p [] ae o) o:=aP rfl;have el:_=_:=g 0 37 kR rfl;have eu:_=_:=g 8 45 kR rfl;go_simp;refine (nP (F:=p) (gt:=e) (n:=q) (k:=ap) (hk:=V) (xs:=K) (fr:=u) (rt:=t) (w:=o) Y.1 bc.out).mono ?_;rintro I ac ⟨rfl,ak,T,cM⟩;rw [gT,show (2:Int)+1=3 from rfl] at ak;exact d _ _ (uG cM) ⟨rfl,ak,Y.2.trans T⟩
   refine sC3 (λs _ _ _ _ _ z _ _ _ _ d=>?_) ?_
   .have af:s (.tmp 0)=.pointer (some e):=z 0 kR;go_simp;exact d _ _ (aJ bR rfl) rfl
   refine sC3 (λs _ _ _ _ _ z _ _ _ _ d=>?_) ?_
   .have af:s (.tmp 0)=.pointer (some e):=z 0 kR;go_simp;exact d _ _ (aJ bR rfl) rfl
   refine sC3 (λ_ _ _ _ _ _ _ g _ _ _ d=>?_) ?_
   .have ev:_=_:=g 11 48 kR rfl;go_simp;exact d _ _ (aJ bR rfl) rfl
   refine sC3 (λ_ _ _ _ _ _ _ g _ _ _ d=>?_) ?_
   .have ew:_=_:=g 12 49 kR rfl;go_simp;exact d _ _ (aJ bR rfl) rfl
   refine sC3 (λ_ _ X _ _ _ _ g _ _ _ d=>?_) ?_
   .have ey:_=_:=g 13 50 kR rfl;obtain ⟨ad,b2,b3⟩:=bI.out _ X;go_simp;exact d _ _ (aJ bR rfl) rfl
   refine sC3 (λs _ _ _ _ _ z _ _ _ _ d=>?_) ?_
   .have df:s (.tmp 5)=.int .i64 (A:Int):=z 5 kR;go_simp;exact d _ _ (aJ bR rfl) rfl
   refine sC3 (λ_ _ _ _ _ _ _ g _ _ _ d=>?_) ?_
   .have ez:_=_:=g 14 51 kR rfl;have eA:_=_:=g 15 52 kR rfl;go_simp;exact d _ _ (aJ bR rfl) rfl
   refine sC3 (λ_ _ _ _ _ _ _ g _ _ _ d=>?_) ?_
   .have eB:_=_:=g 16 53 kR rfl;go_simp;exact d _ _ (aJ bR rfl) rfl
   refine sC3 (λ_ _ X _ _ _ _ g _ _ _ d=>?_) ?_
   .have eC:_=_:=g 17 54 kR rfl;obtain ⟨ad,b2,b3⟩:=bI.out _ X;go_simp;exact d _ _ (aJ bR rfl) rfl
   exact aB
  .intro s Z L au g;have e8:(λa0 o=>a0=.int .i64 (V:Int)/\TS o p e q K u t (wrap64 (N+3))/\LK p [] ae o) (s (.tmp 46)) Z:=g 9 46 dC rfl;have de:s (.tmp 47)=.pointer (some e):=g 10 47 dC rfl;have dg:s (.tmp 55)=.int .i64 (aq:Int):=g 18 55 dC rfl;simp only [zqq];clear g;obtain ⟨dd,bC,ai⟩:=e8;rw [dd,de,dg];obtain ⟨bh,be,b8,ba,d4⟩:=hqq5 bC (c1.out.trans ai) (cc.out.but (ButL.refl [] _) ai (by simp) (by simp)) (cd.out.but (ButL.refl [] _) ai (by simp) (by simp)) (c4.out.but (ButL.refl [] _) ai (by simp) (by simp));clear bC ai dd de dg au;change wpAny prog Region.Mode.any _ _ (2+L) (bT 19 21) _ Z;rw [show 2+L=(L+1)+1 by omega];refine aY (f:=L+1) (i:=19) kR ?_;refine bJ rfl rfl ?_;generalize d:wpAny prog _ _ _ (L+1) _=K5;go_simp;refine (nP (F:=p) (gt:=e) (n:=q) (k:=aq) (hk:=W) (xs:=K) (fr:=u) (rt:=t) (w:=Z) bh.out az.out).mono ?_;rintro I a8 ⟨rfl,b0,aj,_⟩;rw [gT,show (3:Int)+1=4 from rfl] at b0;obtain ⟨aH,bf,b9,bb,d5⟩:=hqq5 b0 (be.out.trans aj) (b8.out.but (ButL.refl [] _) aj (by simp) (by simp)) (ba.out.but (ButL.refl [] _) aj (by simp) (by simp)) (d4.out.but (ButL.refl [] _) aj (by simp) (by simp));clear b0 aj b8 ba d4 be bh;subst d;refine aY (f:=L) (i:=20) kR ?_;refine bJ rfl rfl ?_;generalize d:wpAny prog _ _ _ L _=K5;go_simp;subst d;refine bG kR ?_;by_cases bn:V < W
   .have ct:decide ((V:Int) < (W:Int))=true:=zBz oM;have cu:decide (V < W)=true:=zBz bn;obtain ⟨P,H,M,rfl⟩:∃P H M,x=LT.nd P H M:=by
     cases x with
     | lf S a5 x=>
      have I:0=W:=b5.out;omega
     | nd P H M=>exact ⟨P,H,M,rfl⟩
    obtain rfl:P=aq:=bL.out;obtain ⟨bj,bt,bu⟩:=bb.out;obtain ⟨bp,bq⟩:=aOI bM.out;obtain ⟨cx,dM,aM,ee,av⟩:=aH.out;obtain ⟨D,dQ,rfl,bo⟩:=av.rd.ex oM;obtain ⟨c9,c0,ce,cf,cb,an⟩:=hqq6 av bj bt bu bp bq;have dW:=bo.lt;have dZ:=av.rd.a.lt;clear bt bu bj av bo bp bq;go_wp2_with fail;refine wp_region_any kR ?_;refine qX (C:=(λo=>Bk o e 223 #[cx,.slice (some D) q aM,(t:Int),(wrap64 (N+4):Int)])) (pre:=(λo=>TS o p e q K u t (wrap64 (N+4))/\LK p [] a8 o/\KT e a8 o)) 10 [58,59,60,61,62,63,64,65,66,67] (KT e) 7 (λa0 o=>a0=.int .i64 (P:Int)/\TurnP p e q A P K u t (wrap64 (N+4)) (.nd P (.nd A y H) M) a8 o) [is e,is e,is (.pointer (some ⟨e,1,none⟩)),is (.slice (some D) q aM),is (m:Int),is e,is (A:Int),cO,is (.pointer (some ⟨D,m*8,none⟩)),is (.pointer (some ⟨D,m*8,none⟩))] _ rfl dC kR kR (c9.out.rd.a.drew) (⟨aH.out.below (bR.drew),LK.below (bR.drew),KT.below (bR.drew)⟩) (λ_ _ J m=>m.elim (λa5=>J.below a5 J.lt) (λa5=>a5 _ J)) (λ_ _ J m=>⟨J.1.below m,J.2.1.trans (LK.below m),J.2.2.trans (KT.below m)⟩) (λ_ _ _ ⟨aN,aO⟩ m=>⟨aN,aO.below m⟩) tA4 ?_ ?_
    .refine bB ?_;refine sC3 (λs _ _ _ _ _ z _ _ _ _ d=>?_) ?_
     .have af:s (.tmp 0)=.pointer (some e):=z 0 kR;go_simp;exact d _ _ (aJ bR rfl) rfl
     refine sC3 (λ_ _ _ _ _ _ _ g _ _ _ d=>?_) ?_
     .have eD:_=_:=g 0 58 kR rfl;go_simp;exact d _ _ (aJ bR rfl) rfl
     refine sC3 (λ_ _ _ _ _ _ _ g _ _ _ d=>?_) ?_
     .have eE:_=_:=g 1 59 kR rfl;go_simp;exact d _ _ (aJ bR rfl) rfl
     refine sC3 (λ_ o X _ _ _ _ g _ _ _ d=>?_) ?_
     .have eF:_=_:=g 2 60 kR rfl;have dO:o.cell? ⟨e,1,none⟩=some (.slice (some D) q aM):=(X.cell 1).trans rfl;go_simp;exact d _ _ (aJ bR rfl) rfl
     refine sC3 (λs _ _ _ _ _ z _ _ _ _ d=>?_) ?_
     .have b6:s (.tmp 1)=.int .i64 (m:Int):=z 1 kR;go_simp;exact d _ _ (aJ bR rfl) rfl
     refine sC3 (λs _ _ _ _ _ z _ _ _ _ d=>?_) ?_
     .have af:s (.tmp 0)=.pointer (some e):=z 0 kR;go_simp;exact d _ _ (aJ bR rfl) rfl
     refine sC3 (λs _ _ _ _ _ z _ _ _ _ d=>?_) ?_
     .have df:s (.tmp 5)=.int .i64 (A:Int):=z 5 kR;go_simp;exact d _ _ (aJ bR rfl) rfl
     refine sC3 (λ_ o _ aP _ _ _ g aL _ _ d=>?_) ?_
     .have Y:(λo=>TS o p e q K u t (wrap64 (N+4))/\LK p [] a8 o/\KT e a8 o) o:=aP rfl;have eI:_=_:=g 5 63 kR rfl;have eJ:_=_:=g 6 64 kR rfl;go_simp;refine (xE (F:=p) (gt:=e) (n:=q) (k:=A) (kl:=P) (xs:=K) (fr:=u) (rt:=t) (a:=y) (b:=H) (c:=M) (w:=o) Y.1 ⟨_,_,_,_,_,aG.out⟩ ⟨_,_,_,_,_,c0.out⟩ (b9.out.but (ButL.refl [] _) Y.2.1 (by simp) (by simp)) (ce.out.but (ButL.refl [] _) Y.2.1 (by simp) (by simp)) (cf.out.but (ButL.refl [] _) Y.2.1 (by simp) (by simp)) cb.out aA.out.l aA.out.r.l aA.out.r.r).mono ?_;rintro I ac ⟨rfl,bm⟩;have cD:KT e o ac:=(by obtain ⟨_,_,_,_,_,cB⟩:=bm;exact cB);exact d _ _ (uG cD) ⟨rfl,bm.from Y.2.1 Y.2.2⟩
     refine sC3 (λ_ _ _ _ _ _ _ g _ _ _ d=>?_) ?_
     .have eG:_=_:=g 3 61 kR rfl;have eH:_=_:=g 4 62 kR rfl;go_simp;exact d _ _ (aJ bR rfl) rfl
     refine sC3 (λ_ _ _ _ _ _ _ g _ _ _ d=>?_) ?_
     .have eK:_=_:=g 8 66 kR rfl;go_simp;exact d _ _ (aJ bR rfl) rfl
     exact aB
    .intro s Z L au g;have e9:(λa0 o=>a0=.int .i64 (P:Int)/\TurnP p e q A P K u t (wrap64 (N+4)) (.nd P (.nd A y H) M) a8 o) (s (.tmp 65)) Z:=g 7 65 dC rfl;have di:s (.tmp 67)=.pointer (some ⟨D,m*8,none⟩):=g 9 67 dC rfl;simp only [zqq];clear g;obtain ⟨dh,cz⟩:=e9;rw [dh,di];obtain ⟨al,cJ,br,ax,aZ,cC⟩:=cz;obtain ⟨cw,dL,cp,cL,ab⟩:=cJ;have a9:=ab.rd.c1.symm.trans ((au.cell 1).trans rfl);injection a9 with a9;injection a9 with a9 _ e7;subst a9 e7;obtain ⟨dP,aw⟩:=fE ab.rd.row;have ag:Nd al m A E.num:=⟨_,_,_,_,_,ax _ _ an.out.1 bd.out⟩;obtain ⟨dT,e4,e5,e2,e3,ag⟩:=ag;obtain ⟨ay,_⟩:=ab.rd.at ag;have cs:=aw.frozen (m*8);have cA:=aw.lt;obtain ⟨bk,aQ⟩:=eqx (Z.setCell ⟨D,m*8,none⟩ (.int .i64 (P:Int)));have aR:=ab.put (m*8) (.int .i64 (P:Int));have T:LK p [] Z (Z.setCell ⟨D,m*8,none⟩ (.int .i64 (P:Int))):=LK.set aw dC (OwnF.at ab.own) _;have a7:ButL [m] al (al.set (m*8) (.int .i64 (P:Int))):=(But8.set m al (j:=0) oM _).l (by simp);have bw:Nd (al.set (m*8) (.int .i64 (P:Int))) m P E.num:=⟨_,_,_,_,_,ag.set (j:=0) oM (.int .i64 (P:Int))⟩;rw [aQ] at aR T;have ah:=br.but a7 T (λS a6 I=>an.out.2.1 S a6 (zDa.1 I)) (by simp);have bz:=(d5.out.but ax aZ an.out.2.2.1 (by simp)).but a7 T (λS a6 I=>cS.out S a6 (zDa.1 I)) (by simp);obtain ⟨ca,c2⟩:=hqq2 (show TS bk p e q _ u t _ from ⟨cw,_,cp,cL,aR⟩) (aZ.trans T);have c6:=lhd ((bi.out.l (l:=m::((LT.nd A y (.nd P H M)).nums++E.nums)) (by simp)).trans ((ax.mono (by simp [LT.nums])).trans (a7.mono (by simp))));obtain ⟨bZ,aF,c5,c7⟩:=hqq4 bw ah bz aQ;clear ab aw ag aR T a7 bw ah bz aQ br ax aZ cC au dh di;change wpAny prog Region.Mode.any _ _ (1+L) (bT 10 11) _ Z;rw [zCt 1 L];refine aY (f:=L) (i:=10) kR ?_;refine bJ rfl rfl ?_;generalize d:wpAny prog _ _ _ L _=K5;go_simp;subst d;refine bG kR ?_;rw [c7.out];clear ay cs cA;go_wp2_with fail;have bA:=aA.out;refine (xD (F:=p) (gt:=e) (n:=q) (k:=m) (kl:=P) (fr:=u) (rt:=t) (a:=(.nd A y H)) (b:=M) (c:=E) (w:=bk) ca.out bZ.out aF.out.nd aF.out.2.1 aF.out.2.2 c5.out an.out.2.2.2 (aPg bA) bA.r.r aC.out).mono ?_;rintro I ac ⟨rfl,cP,bD,bs,bF,bx,_⟩
     have aE:=lhd (show aMq p e q m U u t N (LT.nd A y (.nd P H M)) E Q (.returned (.int .i64 ((P:Nat):Int))) ac from ⟨.nd P (.nd A y H) (.nd m M E),cP,4,rfl,bD,by omega,bs,by
      show Tr.nd (Tr.nd y.er H.er) (Tr.nd M.er E.er)=Tr.bal (Tr.nd y.er (Tr.nd H.er M.er)) E.er;have b6:(Tr.nd y.er (Tr.nd H.er M.er)).ht=a1:=aI.out;have bN:E.er.ht=a2:=aK.out;have cq:y.er.ht=V:=b4.out;have cr:(Tr.nd H.er M.er).ht=W:=b5.out;unfold Tr.bal;rw [zBx oM];simp only [Tr.balL];rw [zBx oM];rfl,aOE ..,aOM ..,c6.out.trans (bF.mono (by simp [LT.nums])),(bf.out.trans c2.out).trans bx⟩)
     clear bD bs bF bx;go_wp2_with fail;go_ret;exact aE.out
   .have ct:decide ((V:Int) < (W:Int))=false:=zBy oM;have cu:decide (V < W)=false:=zBy bn;go_wp2_with fail;obtain ⟨cG,cH⟩:=And.intro aA.out.l aA.out.r;refine (xD (F:=p) (gt:=e) (n:=q) (k:=m) (kl:=A) (xs:=K) (fr:=u) (rt:=t) (a:=y) (b:=x) (c:=E) (w:=a8) aH.out ⟨_,_,_,_,_,bd.out⟩ ⟨_,_,_,_,_,aG.out⟩ b9.out bb.out d5.out (aOJ bM.out) cG cH aC.out).mono ?_;rintro I ac ⟨rfl,cN,ak,ah,a7,T,_⟩
    have aE:=lhd (show aMq p e q m U u t N (LT.nd A y x) E Q (.returned (.int .i64 ((A:Nat):Int))) ac from ⟨.nd A y (.nd m x E),cN,4,rfl,ak,by omega,ah,by
     show Tr.nd y.er (Tr.nd x.er E.er)=Tr.bal (Tr.nd y.er x.er) E.er;have b6:(Tr.nd y.er x.er).ht=a1:=aI.out;have bN:E.er.ht=a2:=aK.out;have cq:y.er.ht=V:=b4.out;have cr:x.er.ht=W:=b5.out;unfold Tr.bal;rw [zBx oM];simp only [Tr.balL];rw [zBw oM];rfl,aOF ..,aON ..,(bi.out.l (by simp)).trans (a7.mono (by simp [LT.nums])),bf.out.trans T⟩)
    clear ak ah a7 T;go_wp2_with fail;go_ret;exact aE.out
 .have dR:decide ((a1:Int) - a2 > 1)=false:=zBy oM;by_cases fi:a1+1 < a2
  .have dS:decide ((a1:Int) - a2 < -1)=true:=zBz oM
   obtain ⟨G,y,x,rfl⟩:∃G y x,E=LT.nd G y x:=by
    cases E with
    | lf m a5 x=>
     have I:0=a2:=aK.out;omega
    | nd G y x=>exact ⟨G,y,x,rfl⟩
   obtain rfl:G=dD:=ch.out;obtain ⟨ap,aT⟩:=eqx y.num;obtain ⟨aq,aV⟩:=eqx x.num;obtain ⟨V,aS⟩:=eqx y.ht;obtain ⟨W,aU⟩:=eqx x.ht;obtain ⟨ao,aW,aX⟩:=c4.out;obtain ⟨ci,cj,ck,cl,cE,a3⟩:=aW.R;obtain ⟨cm,H,cn,co,cF,a4⟩:=aX.R;rw [aT,aS] at a3;rw [aV,aU] at a4;obtain ⟨cv,cQ,ar,cK,R⟩:=bg.out;obtain ⟨D,da,rfl,aD⟩:=R.rd.ex (by have:=ao.lt R.rd.len;omega);have bP:(G:Int) < (q:Int):=(by have:=ao.lt R.rd.len;omega);obtain ⟨c8,bc,az,aG,bK,bL,b4,b5,cc⟩:=hqq9 R a3 a4 (show At8 K G (ndL y.num x.num _ _ _ _ _) from ao) aT aV aS aU aW;have cd:=lhd aX;have dY:=R.rd.a.lt;have dV:=aD.lt;have dm:∀o,VisK (λx=>x=e) ae o->o.cell? ⟨e,1,none⟩=some (.slice (some D) q ar)/\o.cell? ⟨D,G*8,none⟩=some (.int .i64 (ap:Int))/\o.cell? ⟨D,G*8+1,none⟩=some (.int .i64 (aq:Int)):=λo J=>by obtain ⟨a0,bE⟩:=c8.out.rd.b J.1;obtain ⟨ay,ad,_⟩:=bE.at aG.out;rw [bK.out] at ay;rw [bL.out] at ad;exact ⟨bE.c1,ay,ad⟩
   have bH:=lhd dm;clear aW aX a3 a4 ao aT aV aS aU R aD dm;go_wp2_with fail;refine wp_region_any kR ?_;refine qX (C:=(VisK (λaa=>aa=e) ae)) (pre:=(λo=>TS o p e q K u t (wrap64 (N+2))/\LK p [] ae o)) 19 [74,75,76,77,78,79,80,81,82,83,84,85,86,87,88,89,90,91,92] (VisK (λaa=>aa=e)) 9 (λa0 o=>a0=.int .i64 (W:Int)/\TS o p e q K u t (wrap64 (N+3))/\LK p [] ae o) [is e,is e,is e,is (.pointer (some ⟨e,1,none⟩)),is (.slice (some D) q ar),is (G:Int),is (.pointer (some ⟨D,G*8,none⟩)),is (.pointer (some ⟨D,G*8+1,none⟩)),is (aq:Int),cO,is e,is e,is e,is (.pointer (some ⟨e,1,none⟩)),is (.slice (some D) q ar),is (G:Int),is (.pointer (some ⟨D,G*8,none⟩)),is (.pointer (some ⟨D,G*8,none⟩)),is (ap:Int)] _ rfl dC kR kR (kc (bR.drew)) (⟨bg.out.below (bR.drew),LK.below (bR.drew)⟩) (λ_ _ J m=>J.trans (m.elim (λa5=>kc a5) id)) (λ_ _ J m=>⟨J.1.below m,J.2.trans (LK.below m)⟩) (λ_ _ _ ⟨aN,aO,cy⟩ m=>⟨aN,aO.below m,cy.trans (LK.below m)⟩) tA4 ?_ ?_
   .refine bB ?_;refine sC3 (λs _ _ _ _ _ z _ _ _ _ d=>?_) ?_
    .have af:s (.tmp 0)=.pointer (some e):=z 0 kR;go_simp;exact d _ _ (aJ bR rfl) rfl
    refine sC3 (λs _ _ _ _ _ z _ _ _ _ d=>?_) ?_
    .have af:s (.tmp 0)=.pointer (some e):=z 0 kR;go_simp;exact d _ _ (aJ bR rfl) rfl
    refine sC3 (λ_ _ _ _ _ _ _ g _ _ _ d=>?_) ?_
    .have eM:_=_:=g 1 75 kR rfl;go_simp;exact d _ _ (aJ bR rfl) rfl
    refine sC3 (λ_ _ _ _ _ _ _ g _ _ _ d=>?_) ?_
    .have eN:_=_:=g 2 76 kR rfl;go_simp;exact d _ _ (aJ bR rfl) rfl
    refine sC3 (λ_ _ X _ _ _ _ g _ _ _ d=>?_) ?_
    .have eO:_=_:=g 3 77 kR rfl;obtain ⟨ad,b2,b3⟩:=bH.out _ X;go_simp;exact d _ _ (aJ bR rfl) rfl
    refine sC3 (λs _ _ _ _ _ z _ _ _ _ d=>?_) ?_
    .have a9:s (.tmp 6)=.int .i64 (G:Int):=z 6 kR;go_simp;exact d _ _ (aJ bR rfl) rfl
    refine sC3 (λ_ _ _ _ _ _ _ g _ _ _ d=>?_) ?_
    .have eP:_=_:=g 4 78 kR rfl;have eQ:_=_:=g 5 79 kR rfl;go_simp;exact d _ _ (aJ bR rfl) rfl
    refine sC3 (λ_ _ _ _ _ _ _ g _ _ _ d=>?_) ?_
    .have eR:_=_:=g 6 80 kR rfl;go_simp;exact d _ _ (aJ bR rfl) rfl
    refine sC3 (λ_ _ X _ _ _ _ g _ _ _ d=>?_) ?_
    .have eS:_=_:=g 7 81 kR rfl;obtain ⟨ad,b2,b3⟩:=bH.out _ X;go_simp;exact d _ _ (aJ bR rfl) rfl
    refine sC3 (λ_ o _ aP _ _ _ g _ _ _ d=>?_) ?_
    .have Y:(λo=>TS o p e q K u t (wrap64 (N+2))/\LK p [] ae o) o:=aP rfl;have eL:_=_:=g 0 74 kR rfl;have eT:_=_:=g 8 82 kR rfl;go_simp;refine (nP (F:=p) (gt:=e) (n:=q) (k:=aq) (hk:=W) (xs:=K) (fr:=u) (rt:=t) (w:=o) Y.1 az.out).mono ?_;rintro I ac ⟨rfl,ak,T,cM⟩;rw [gT,show (2:Int)+1=3 from rfl] at ak;exact d _ _ (uG cM) ⟨rfl,ak,Y.2.trans T⟩
    refine sC3 (λs _ _ _ _ _ z _ _ _ _ d=>?_) ?_
    .have af:s (.tmp 0)=.pointer (some e):=z 0 kR;go_simp;exact d _ _ (aJ bR rfl) rfl
    refine sC3 (λs _ _ _ _ _ z _ _ _ _ d=>?_) ?_
    .have af:s (.tmp 0)=.pointer (some e):=z 0 kR;go_simp;exact d _ _ (aJ bR rfl) rfl
    refine sC3 (λ_ _ _ _ _ _ _ g _ _ _ d=>?_) ?_
    .have eU:_=_:=g 11 85 kR rfl;go_simp;exact d _ _ (aJ bR rfl) rfl
    refine sC3 (λ_ _ _ _ _ _ _ g _ _ _ d=>?_) ?_
    .have eV:_=_:=g 12 86 kR rfl;go_simp;exact d _ _ (aJ bR rfl) rfl
    refine sC3 (λ_ _ X _ _ _ _ g _ _ _ d=>?_) ?_
    .have eW:_=_:=g 13 87 kR rfl;obtain ⟨ad,b2,b3⟩:=bH.out _ X;go_simp;exact d _ _ (aJ bR rfl) rfl
    refine sC3 (λs _ _ _ _ _ z _ _ _ _ d=>?_) ?_
    .have a9:s (.tmp 6)=.int .i64 (G:Int):=z 6 kR;go_simp;exact d _ _ (aJ bR rfl) rfl
    refine sC3 (λ_ _ _ _ _ _ _ g _ _ _ d=>?_) ?_
    .have eX:_=_:=g 14 88 kR rfl;have eY:_=_:=g 15 89 kR rfl;go_simp;exact d _ _ (aJ bR rfl) rfl
    refine sC3 (λ_ _ _ _ _ _ _ g _ _ _ d=>?_) ?_
    .have eZ:_=_:=g 16 90 kR rfl;go_simp;exact d _ _ (aJ bR rfl) rfl
    refine sC3 (λ_ _ X _ _ _ _ g _ _ _ d=>?_) ?_
    .have fa:_=_:=g 17 91 kR rfl;obtain ⟨ad,b2,b3⟩:=bH.out _ X;go_simp;exact d _ _ (aJ bR rfl) rfl
    exact aB
   .intro s Z L au g;have ea:(λa0 o=>a0=.int .i64 (W:Int)/\TS o p e q K u t (wrap64 (N+3))/\LK p [] ae o) (s (.tmp 83)) Z:=g 9 83 dC rfl;have dk:s (.tmp 84)=.pointer (some e):=g 10 84 dC rfl;have dl:s (.tmp 92)=.int .i64 (ap:Int):=g 18 92 dC rfl;simp only [zqq];clear g;obtain ⟨dj,bC,ai⟩:=ea;rw [dj,dk,dl];obtain ⟨bh,be,b8,ba,cW⟩:=hqq5 bC (c1.out.trans ai) (cc.out.but (ButL.refl [] _) ai (by simp) (by simp)) (cd.out.but (ButL.refl [] _) ai (by simp) (by simp)) (bY.out.but (ButL.refl [] _) ai (by simp) (by simp));clear bC ai dj dk dl au;change wpAny prog Region.Mode.any _ _ (2+L) (bT 19 21) _ Z;rw [show 2+L=(L+1)+1 by omega];refine aY (f:=L+1) (i:=19) kR ?_;refine bJ rfl rfl ?_;generalize d:wpAny prog _ _ _ (L+1) _=K5;go_simp;refine (nP (F:=p) (gt:=e) (n:=q) (k:=ap) (hk:=V) (xs:=K) (fr:=u) (rt:=t) (w:=Z) bh.out bc.out).mono ?_;rintro I a8 ⟨rfl,b0,aj,_⟩;rw [gT,show (3:Int)+1=4 from rfl] at b0;obtain ⟨aH,bf,b9,bb,cX⟩:=hqq5 b0 (be.out.trans aj) (b8.out.but (ButL.refl [] _) aj (by simp) (by simp)) (ba.out.but (ButL.refl [] _) aj (by simp) (by simp)) (cW.out.but (ButL.refl [] _) aj (by simp) (by simp));clear b0 aj b8 ba cW be bh;subst d;refine aY (f:=L) (i:=20) kR ?_;refine bJ rfl rfl ?_;generalize d:wpAny prog _ _ _ L _=K5;go_simp;subst d;refine bG kR ?_;by_cases bn:W < V
    .have ct:decide ((W:Int) < (V:Int))=true:=zBz oM;have cu:decide (W < V)=true:=zBz bn;obtain ⟨O,H,M,rfl⟩:∃O H M,y=LT.nd O H M:=by
      cases y with
      | lf S a5 x=>
       have I:0=V:=b4.out;omega
      | nd O H M=>exact ⟨O,H,M,rfl⟩
     obtain rfl:O=ap:=bK.out;obtain ⟨bj,bt,bu⟩:=b9.out;obtain ⟨bp,bq⟩:=aOG bM.out;obtain ⟨cx,dM,aM,ee,av⟩:=aH.out;obtain ⟨D,dQ,rfl,bo⟩:=av.rd.ex oM;obtain ⟨c9,c0,ce,cf,cb,an⟩:=hqq6 av bj bt bu bp bq;have dW:=bo.lt;have dZ:=av.rd.a.lt;clear bt bu bj av bo bp bq;go_wp2_with fail;refine wp_region_any kR ?_;refine qX (C:=(λo=>Bk o e 223 #[cx,.slice (some D) q aM,(t:Int),(wrap64 (N+4):Int)])) (pre:=(λo=>TS o p e q K u t (wrap64 (N+4))/\LK p [] a8 o/\KT e a8 o)) 10 [95,96,97,98,99,100,101,102,103,104] (KT e) 7 (λa0 o=>a0=.int .i64 (O:Int)/\TurnP p e q G O K u t (wrap64 (N+4)) (.nd O H (.nd G M x)) a8 o) [is e,is e,is (.pointer (some ⟨e,1,none⟩)),is (.slice (some D) q aM),is (m:Int),is e,is (G:Int),cO,is (.pointer (some ⟨D,m*8,none⟩)),is (.pointer (some ⟨D,m*8+1,none⟩))] _ rfl dC kR kR (c9.out.rd.a.drew) (⟨aH.out.below (bR.drew),LK.below (bR.drew),KT.below (bR.drew)⟩) (λ_ _ J m=>m.elim (λa5=>J.below a5 J.lt) (λa5=>a5 _ J)) (λ_ _ J m=>⟨J.1.below m,J.2.1.trans (LK.below m),J.2.2.trans (KT.below m)⟩) (λ_ _ _ ⟨aN,aO⟩ m=>⟨aN,aO.below m⟩) tA4 ?_ ?_
     .refine bB ?_;refine sC3 (λs _ _ _ _ _ z _ _ _ _ d=>?_) ?_
      .have af:s (.tmp 0)=.pointer (some e):=z 0 kR;go_simp;exact d _ _ (aJ bR rfl) rfl
      refine sC3 (λ_ _ _ _ _ _ _ g _ _ _ d=>?_) ?_
      .have fb:_=_:=g 0 95 kR rfl;go_simp;exact d _ _ (aJ bR rfl) rfl
      refine sC3 (λ_ _ _ _ _ _ _ g _ _ _ d=>?_) ?_
      .have fc:_=_:=g 1 96 kR rfl;go_simp;exact d _ _ (aJ bR rfl) rfl
      refine sC3 (λ_ o X _ _ _ _ g _ _ _ d=>?_) ?_
      .have fd:_=_:=g 2 97 kR rfl;have dO:o.cell? ⟨e,1,none⟩=some (.slice (some D) q aM):=(X.cell 1).trans rfl;go_simp;exact d _ _ (aJ bR rfl) rfl
      refine sC3 (λs _ _ _ _ _ z _ _ _ _ d=>?_) ?_
      .have b6:s (.tmp 1)=.int .i64 (m:Int):=z 1 kR;go_simp;exact d _ _ (aJ bR rfl) rfl
      refine sC3 (λs _ _ _ _ _ z _ _ _ _ d=>?_) ?_
      .have af:s (.tmp 0)=.pointer (some e):=z 0 kR;go_simp;exact d _ _ (aJ bR rfl) rfl
      refine sC3 (λs _ _ _ _ _ z _ _ _ _ d=>?_) ?_
      .have a9:s (.tmp 6)=.int .i64 (G:Int):=z 6 kR;go_simp;exact d _ _ (aJ bR rfl) rfl
      refine sC3 (λ_ o _ aP _ _ _ g aL _ _ d=>?_) ?_
      .have Y:(λo=>TS o p e q K u t (wrap64 (N+4))/\LK p [] a8 o/\KT e a8 o) o:=aP rfl;have ei:_=_:=g 5 100 kR rfl;have ej:_=_:=g 6 101 kR rfl;go_simp;refine (xD (F:=p) (gt:=e) (n:=q) (k:=G) (kl:=O) (xs:=K) (fr:=u) (rt:=t) (a:=H) (b:=M) (c:=x) (w:=o) Y.1 ⟨_,_,_,_,_,aG.out⟩ ⟨_,_,_,_,_,c0.out⟩ (ce.out.but (ButL.refl [] _) Y.2.1 (by simp) (by simp)) (cf.out.but (ButL.refl [] _) Y.2.1 (by simp) (by simp)) (bb.out.but (ButL.refl [] _) Y.2.1 (by simp) (by simp)) cb.out aC.out.l.l aC.out.l.r aC.out.r).mono ?_;rintro I ac ⟨rfl,bm⟩;have cD:KT e o ac:=(by obtain ⟨_,_,_,_,_,cB⟩:=bm;exact cB);exact d _ _ (uG cD) ⟨rfl,bm.from Y.2.1 Y.2.2⟩
      refine sC3 (λ_ _ _ _ _ _ _ g _ _ _ d=>?_) ?_
      .have fe:_=_:=g 3 98 kR rfl;have ff:_=_:=g 4 99 kR rfl;go_simp;exact d _ _ (aJ bR rfl) rfl
      refine sC3 (λ_ _ _ _ _ _ _ g _ _ _ d=>?_) ?_
      .have ek:_=_:=g 8 103 kR rfl;go_simp;exact d _ _ (aJ bR rfl) rfl
      exact aB
     .intro s Z L au g;have e6:(λa0 o=>a0=.int .i64 (O:Int)/\TurnP p e q G O K u t (wrap64 (N+4)) (.nd O H (.nd G M x)) a8 o) (s (.tmp 102)) Z:=g 7 102 dC rfl;have dc:s (.tmp 104)=.pointer (some ⟨D,m*8+1,none⟩):=g 9 104 dC rfl;simp only [zqq];clear g;obtain ⟨db,cz⟩:=e6;rw [db,dc];obtain ⟨al,cJ,br,ax,aZ,cC⟩:=cz;obtain ⟨cw,dL,cp,cL,ab⟩:=cJ;have a9:=ab.rd.c1.symm.trans ((au.cell 1).trans rfl);injection a9 with a9;injection a9 with a9 _ e7;subst a9 e7;obtain ⟨dP,aw⟩:=fE ab.rd.row;have ag:Nd al m B.num G:=⟨_,_,_,_,_,ax _ _ an.out.1 bd.out⟩;obtain ⟨dT,e4,e5,e2,e3,ag⟩:=ag;obtain ⟨_,ay,_⟩:=ab.rd.at ag;have cs:=aw.frozen (m*8+1);have cA:=aw.lt;obtain ⟨bk,aQ⟩:=eqx (Z.setCell ⟨D,m*8+1,none⟩ (.int .i64 (O:Int)));have aR:=ab.put (m*8+1) (.int .i64 (O:Int));have T:LK p [] Z (Z.setCell ⟨D,m*8+1,none⟩ (.int .i64 (O:Int))):=LK.set aw dC (OwnF.at ab.own) _;have a7:ButL [m] al (al.set (m*8+1) (.int .i64 (O:Int))):=(But8.set m al (j:=1) oM _).l (by simp);have bw:Nd (al.set (m*8+1) (.int .i64 (O:Int))) m B.num O:=⟨_,_,_,_,_,ag.set (j:=1) oM (.int .i64 (O:Int))⟩;rw [aQ] at aR T;have ah:=br.but a7 T (λS a6 I=>an.out.2.1 S a6 (zDa.1 I)) (by simp);have bz:=(cX.out.but ax aZ an.out.2.2.1 (by simp)).but a7 T (λS a6 I=>cR.out S a6 (zDa.1 I)) (by simp);obtain ⟨ca,c2⟩:=hqq2 (show TS bk p e q _ u t _ from ⟨cw,_,cp,cL,aR⟩) (aZ.trans T);have c6:=lhd ((bi.out.l (l:=m::(B.nums++(LT.nd G (.nd O H M) x).nums)) (by simp)).trans ((ax.mono (by simp [LT.nums])).trans (a7.mono (by simp))));obtain ⟨bZ,aF,c5,c7⟩:=hqq4 bw ah bz aQ;clear ab aw ag aR T a7 bw ah bz aQ br ax aZ cC au db dc;change wpAny prog Region.Mode.any _ _ (1+L) (bT 10 11) _ Z;rw [zCt 1 L];refine aY (f:=L) (i:=10) kR ?_;refine bJ rfl rfl ?_;generalize d:wpAny prog _ _ _ L _=K5;go_simp;subst d;refine bG kR ?_;rw [c7.out];clear ay cs cA;go_wp2_with fail;have bA:=aC.out;refine (xE (F:=p) (gt:=e) (n:=q) (k:=m) (kl:=O) (fr:=u) (rt:=t) (a:=B) (b:=H) (c:=(.nd G M x)) (w:=bk) ca.out bZ.out aF.out.nd c5.out aF.out.2.1 aF.out.2.2 an.out.2.2.2 aA.out bA.l.l (aOB bA)).mono ?_;rintro I ac ⟨rfl,cP,bD,bs,bF,bx,_⟩
      have aE:=lhd (show aMq p e q m U u t N B (LT.nd G (.nd O H M) x) Q (.returned (.int .i64 ((O:Nat):Int))) ac from ⟨.nd O (.nd m B H) (.nd G M x),cP,4,rfl,bD,by omega,bs,by
       show Tr.nd (Tr.nd B.er H.er) (Tr.nd M.er x.er)=Tr.bal B.er (Tr.nd (Tr.nd H.er M.er) x.er);have b6:B.er.ht=a1:=aI.out;have bN:(Tr.nd (Tr.nd H.er M.er) x.er).ht=a2:=aK.out;have cq:(Tr.nd H.er M.er).ht=V:=b4.out;have cr:x.er.ht=W:=b5.out;unfold Tr.bal;rw [zBw oM,zBx oM];simp only [Tr.balR];rw [zBx oM];rfl,aOC ..,aOK ..,c6.out.trans (bF.mono (by simp [LT.nums])),(bf.out.trans c2.out).trans bx⟩)
      clear bD bs bF bx;go_wp2_with fail;go_ret;exact aE.out
    .have ct:decide ((W:Int) < (V:Int))=false:=zBy oM;have cu:decide (W < V)=false:=zBy bn;go_wp2_with fail;obtain ⟨cG,cH⟩:=And.intro aC.out.l aC.out.r;refine (xE (F:=p) (gt:=e) (n:=q) (k:=m) (kl:=G) (xs:=K) (fr:=u) (rt:=t) (a:=B) (b:=y) (c:=x) (w:=a8) aH.out ⟨_,_,_,_,_,bd.out⟩ ⟨_,_,_,_,_,aG.out⟩ cX.out b9.out bb.out (aOH bM.out) aA.out cG cH).mono ?_;rintro I ac ⟨rfl,cN,ak,ah,a7,T,_⟩
     have aE:=lhd (show aMq p e q m U u t N B (LT.nd G y x) Q (.returned (.int .i64 ((G:Nat):Int))) ac from ⟨.nd G (.nd m B y) x,cN,4,rfl,ak,by omega,ah,by
      show Tr.nd (Tr.nd B.er y.er) x.er=Tr.bal B.er (Tr.nd y.er x.er);have b6:B.er.ht=a1:=aI.out;have bN:(Tr.nd y.er x.er).ht=a2:=aK.out;have cq:y.er.ht=V:=b4.out;have cr:x.er.ht=W:=b5.out;unfold Tr.bal;rw [zBw oM,zBx oM];simp only [Tr.balR];rw [zBw oM];rfl,aOD ..,aOL ..,(bi.out.l (by simp)).trans (a7.mono (by simp [LT.nums])),bf.out.trans T⟩)
     clear ak ah a7 T;go_wp2_with fail;go_ret;exact aE.out
  .have dS:decide ((a1:Int) - a2 < -1)=false:=zBy oM;go_wp2_with fail;go_ret;refine ⟨.nd m B E,K,2,rfl,bg.out,by omega,⟨?_,bY.out,c4.out⟩,?_,.refl _,.refl _,bi.out.l (by simp),c1.out⟩;exact bd.out
   .show Tr.nd B.er E.er=Tr.bal B.er E.er;have b6:B.er.ht=a1:=aI.out;have bN:E.er.ht=a2:=aK.out;rw [Tr.bal_same _ _ oM oM]
def aBm (i:Nat->Prop) (q k:Nat) (c:LT) (m:List Nat) (t:List Value) (p:List Nat) (r s:Int) (n:Tr) (l:World) (o:Ending) (f:World):Prop:=
 ∃(a:LT) (b:Nat) (g:List Value) (d:List Nat) (j:Nat),o=.returned (.int .i64 (a.num:Nat))/\TS f i q b g d r (wrap64 (s+j))/\j<=5*c.ht+2/\a.er=n/\a.In f g/\(a.nums++(m++d)).Perm (List.range b)/\(b=k∨d= [])/\b<=k+2/\a.blks.Nodup/\(∀e,e∈a.blks->e∈c.blks∨l.heap.size<=e)/\ButL (c.nums++p) t g/\LK i c.blks l f
def aAx {g a i e f U} (d:(U++e).Perm (List.range g)) (j:Got g e a i f):((a::U)++f).Perm (List.range i):=by
 rcases j with ⟨b,c,_⟩|⟨b,c,k,l⟩;subst b c;refine List.Perm.trans ?_ d;rw [zDc];intro m;simp only [zDg,zCc,zEz];omega;subst b c k l;rw [zEa] at d⊢;rw [zDx];exact (d.cons a).trans (zFw a _).symm
def iR {g d e} (f:(d++e).Perm (List.range g)):aD3 g e/\(∀b,b∈d->b∉e/\b < g)/\d.Nodup:=by
 have c:=f.nodup_iff.2 zDl;have i:=λb=>f.mem_iff (a:=b);rw [zDb] at c;refine ⟨⟨c.2.1,λn l=>zCj.1 ((i n).1 (by simp [l])),λ_=>?_⟩,λb j=>⟨λk=>c.2.2 b j b k rfl,zCj.1 ((i b).1 (by simp [j]))⟩,c.1⟩;have m:=f.length_eq;rw [zAi,zCi] at m;omega
def aLw {a j d f g} (k:Got a f j d g):d<=a+1/\a<=d/\(d=a∨g= [])/\(j∈f∨a<=j)/\∀e,e∈g->e∈f:=by
 rcases k with ⟨i,b,l⟩|⟨i,b,l,m⟩;exact ⟨by omega,by omega,.inl b,.inl (by rw [i];simp),λe c=>by rw [i];simp [c]⟩;exact ⟨by omega,by omega,.inr b,.inr oM,λe c=>by rw [b] at c;simp at c⟩
def nR {a d} {b i k:Nat} {l e} {j c:Int} {cs} (f:TS a d b i l e j c):
 TS ((a.setCell ⟨b,3,none⟩ (.int .i64 (wrap64 (c+1)))).alloc (.cells cs 226)) d b i l e j (wrap64 (c+1))/\LK d [] a ((a.setCell ⟨b,3,none⟩ (.int .i64 (wrap64 (c+1)))).alloc (.cells cs 226))/\Bk ((a.setCell ⟨b,3,none⟩ (.int .i64 (wrap64 (c+1)))).alloc (.cells cs 226)) a.heap.size 226 cs:=by
 have g:Below (a.setCell ⟨b,3,none⟩ (.int .i64 (wrap64 (c+1)))).heap.size (a.setCell ⟨b,3,none⟩ (.int .i64 (wrap64 (c+1)))) ((a.setCell ⟨b,3,none⟩ (.int .i64 (wrap64 (c+1)))).alloc (.cells cs 226)):=bR.alloc nL _;refine ⟨(f.ab _).below g,(f.b4 3 _).trans (LK.below g),?_⟩;have m:(a.setCell ⟨b,3,none⟩ (.int .i64 (wrap64 (c+1)))).heap.size=a.heap.size:=by simp [World.setCell]
 have:=kd (a.setCell ⟨b,3,none⟩ (.int .i64 (wrap64 (c+1)))) 226 cs;rwa [m] at this
def aLs {o g i d e a} (j) {b u n m C r f} (E:TS f o g i n m C r) (X:(LT.lf e a b).In f n) (Z:([e]++(u++m)).Perm (List.range i)) (W:o a) (Y:b.length<=127) (I:d<=b.length):
 Calls prog 234 #[g,(e:Int),(d:Int),.bool j] f (aBm o g i (.lf e a b) u n m C r (.lf (aT b d j)) f):=by
 obtain ⟨p,G⟩:=X;obtain ⟨q,y⟩:=eqx b.length;obtain ⟨z,K⟩:=eqx (b.count true);have J:At8 n e (lH (q:Int) (z:Int) a):=by rw [<-y,<-K];exact p
 obtain ⟨F,A,s⟩:=nR (k:=d) (cs:=#[.int .i64 (-1),.int .i64 (-1),.int .i64 0,.int .i64 q,.int .i64 z,.int .i64 0,.int .i64 0,.pointer (some a)]) E;obtain ⟨ai,a4,a7,ap,c⟩:=E;obtain ⟨V,a8,rfl,w⟩:=c.rd.ex (zj (p.lt c.rd.len));have a5:=c.rd.c1;have a6:=c.rd.c3;have ah:=c.rd.a.frozen 3;have am:=c.rd.a.lt;have al:=w.lt;have ao:g≠V:=Bk.ne c.rd.a w dC;have an:(e:Int) < i:=zj (p.lt c.rd.len)
 obtain ⟨a9,aa,ab,ac,ad,ae,af,ag⟩:=c.rd.at J;obtain ⟨U,v⟩:=eqx ((f.setCell ⟨g,3,none⟩ (.int .i64 (wrap64 (r+1)))).alloc (.cells #[(-1:Int),(-1:Int),o0,(q:Int),(z:Int),o0,o0,a] 226));rw [v] at F A s;have a2:U.cell? ⟨f.heap.size,7,none⟩=some (.pointer (some a)):=(s.cell 7).trans rfl;have ak:=s.lt;have aj:((q:Int)==128)=false:=by rw [zCb];omega
 have Q:=lhd v;have t:=(A.a a _ zs G);have S:=lhd y;have R:=(show (aT b d j).length<=128 by rw [cM _ _ I];omega);clear s v G p y K c w;go_enter func234,ntmps234;go_wp2_with fail;rw [Q.out];refine (kT t).mono ?_;rintro D aq ⟨rfl,rfl⟩;rw [S.out];go_wp2_with fail;refine (kK d j t Y I).mono ?_;rintro D ar ⟨rfl,H,x⟩;have O:=(F.a t x);have T:=((A.mono (bl':= [a]) zs).trans (LK.one x W));clear x a2;go_wp2_with fail;refine (lU O J H R).mono ?_;rintro D a1 ⟨rfl,a3,M,L,N,B,_⟩;have P:=(show aBm o g i (.lf e a b) u n m C r (.lf (aT b d j)) f (.returned (.int .i64 (e:Nat))) a1 from ⟨.lf e a (aT b d j),i,a3,m,1,rfl,M,by omega,rfl,⟨L,B.a a _ zs H⟩,Z,.inl rfl,by omega,by simp [LT.blks],λau a0=>.inl a0,N.l (by simp [LT.nums]),T.trans (B.mono zs)⟩);clear M L N B;go_wp2_with fail;go_ret;exact P
def lK (a:List Bool) (b:Nat) (c:Bool):List Bool:=if 64 < b then a.take 64 else aT (a.take 64) b c
def lJ (a:List Bool) (b:Nat) (c:Bool):List Bool:=if 64 < b then aT (a.drop 64) (b - 64) c else a.drop 64
def aLv {a c} (d) (i:a.length=128) (g:c<=128):(lK a c d).length<=65/\(lJ a c d).length<=65:=by
 have e:(a.take 64).length=64:=by rw [zAj];omega
 have f:(a.drop 64).length=64:=by rw [zAw];omega
 unfold lK lJ;by_cases b:64 < c;rw [zBx b,zBx b,cM _ _ oM];omega;rw [zBw b,zBw b,cM _ _ oM];omega
def aLt {a b} (c) (e:a.length=128):(Tr.lf a).ins b c=.nd (.lf (lK a b c)) (.lf (lJ a b c)):=by
 unfold Tr.ins lK lJ;rw [zBx e];by_cases d:64 < b
 .simp [d]
 .simp [d]
def LK.new {b f e w1 l a} (i:LK b f e w1) (k:Keep (λc=>c=a) w1 l) (q:e.heap.size<=a) (n:b a):LK b f e l:=
 ⟨i.keep.trans (k.mono λc _ d=>by rw [show c=a from d];exact n),λg m o j=>k.d (i.a g m o j) λd=>by have:=j.lt;have p:g=a:=d;omega⟩
def qA (i) (m o a g c:Nat) (e b C x q) (v B:Int) (f) (al:TS f i m o x q v B) (bU:(LT.lf g c b).In f x) (bd:([g]++(C++q)).Perm (List.range o)) (aY:i c) (b2:∀p,f.heap.size<=p->i p) (a0:b.length=128) (bV:a<=128) (cN:o<=50000):
 Calls prog 234 #[m,(g:Int),(a:Int),.bool e] f (aBm i m o (.lf g c b) C x q v B ((Tr.lf b).ins a e) f):=by
 obtain ⟨Z,E⟩:=bU;obtain ⟨az,b8⟩:=eqx (b.count true);have au:At8 x g (lH 128 (az:Int) c):=by
  have d:((b.length:Nat):Int)=128:=by rw [a0];rfl
  rw [<-d,<-b8];exact Z
 obtain ⟨D,a4,T⟩:=nR (k:=a) (cs:=#[.int .i64 (-1),.int .i64 (-1),.int .i64 0,.int .i64 128,.int .i64 az,.int .i64 0,.int .i64 0,.pointer (some c)]) al;have aM:=lhd al.len;obtain ⟨cA,cf,cl,cW,s⟩:=al;obtain ⟨bN,cn,rfl,aq⟩:=s.rd.ex (zj (Z.lt s.rd.len));have cj:=s.rd.c1;have ck:=s.rd.c3;have cx:=s.rd.a.frozen 3;have cJ:=s.rd.a.lt;have cH:=aq.lt;have cG:=E.lt;have cO:m≠bN:=Bk.ne s.rd.a aq dC;have cM:(g:Int) < o:=zj (Z.lt s.rd.len)
 obtain ⟨co,cp,cq,cr,ct,cu,cv,cw⟩:=s.rd.at au;obtain ⟨cC,b4⟩:=eqx f.heap.size;obtain ⟨ai,ap⟩:=eqx ((f.setCell ⟨m,3,none⟩ (.int .i64 (wrap64 (B+1)))).alloc (.cells #[(-1:Int),(-1:Int),o0,(128:Int),(az:Int),o0,o0,c] 226));rw [ap] at D a4 T;have ca:ai.cell? ⟨f.heap.size,7,none⟩=some (.pointer (some c)):=(T.cell 7).trans rfl;have cE:=T.lt;have bS:f.heap.size≠c:=oM;obtain ⟨bw,aJ,aN,aQ,M,bv,H,ag,aK⟩:=hqq9 ap D a4 T (a4.a c _ zs E) au a0 bd b2;have ci:=lhd b4;clear D a4 T ap E Z au b8 a0 bd s aq b2 b4;go_enter func234,ntmps234;go_wp2_with fail;rw [bw.out];refine (kT (gb:=c) (l:=b) (w:=ai) M).mono ?_;rintro d cY ⟨rfl,rfl⟩;rw [H.out];go_wp2_with fail;refine (aBu (gb:=c) (l:=b) (w:=ai) M H).mono ?_;rintro d a9 ⟨j,rfl,cI,b1,b0,Y⟩;have cF:=M.lt;have ar:j≠c:=oM;have a2:=Y.d aQ (λd=>bS d);have ac:=lhd (aJ.out.a M.out Y);have ah:=lhd ((aN.out.mono (bl':= [c]) zs).trans (LK.one Y aY));obtain ⟨N,V,bH⟩:=hqq3 b0 b1 a2;have ce:a9.cell? ⟨f.heap.size,7,none⟩=some (.pointer (some c)):=(a2.cell 7).trans rfl;have cD:=a2.lt;have bO:i j:=aK j oM;have b5:(b.take 64).length=64:=by rw [zAj,H.out];rfl
 have b6:(b.drop 64).length=64:=by rw [zAw,H.out]
 obtain ⟨af,aL⟩:=hqq2 b5 b6;have b3:f.heap.size<=j:=oM;clear b1 b0 Y a2 ca b5 b6;go_wp2_with fail;refine (kT (gb:=c) (w:=a9) N).mono ?_;rintro d cZ ⟨rfl,rfl⟩;rw [af.out];go_upto_if 63 with fail;go_cut [10] from 61 (λU aa=>U=.pointer (some j)/\TS aa i m o x q v (wrap64 (B+1))/\Bk aa c 240 (dL (lK b a e))/\Bk aa j 240 (dL (lJ b a e))/\LK i [c] f aa)
 case first=>
  by_cases J:64 < a
  .have bL:=zy ((a:Int) > 64);have bM:=zBz J;have cy:wrap64 (a - 64)=((a - 64:Nat):Int):=(by unfold wrap64;omega);have cz:((a:Int) - 64)=((a - 64:Nat):Int):=oM;go_wp2_with fail;refine (kK (gb:=j) (l:=(b.drop 64)) (w:=a9) (a - 64) e V (by rw [aL.out];omega) (by rw [aL.out];omega)).mono ?_;rintro d S ⟨rfl,O,y⟩;have G:=lhd (ac.out.a V.out y);have ad:=lhd (show Bk S c 240 (dL (lK b a e)) by unfold lK;rw [zBx J];exact y.d N (λd=>ar d.symm));have ae:=lhd (show Bk S j 240 (dL (lJ b a e)) by unfold lJ;rw [zBx J];exact O);have I:=lhd (ah.out.new y b3 bO);clear O y;go_wp2_with fail;go_meet;exact ⟨rfl,G,ad,ae,I⟩
  .have bL:=zn ((a:Int) > 64);have bM:=zBy J;go_wp2_with fail;refine (kK (gb:=c) (l:=(b.take 64)) (w:=a9) a e N (by rw [af.out];omega) (by rw [af.out];omega)).mono ?_;rintro d S ⟨rfl,O,y⟩;have G:=lhd (ac.out.a N.out y);have ad:=lhd (show Bk S c 240 (dL (lK b a e)) by unfold lK;rw [zBw J];exact O);have ae:=lhd (show Bk S j 240 (dL (lJ b a e)) by unfold lJ;rw [zBw J];exact y.d V (λd=>ar d));have I:=lhd (ah.out.trans (LK.one y aY));clear O y;go_wp2_with fail;go_meet;exact ⟨rfl,G,ad,ae,I⟩
 case rest=>
 obtain ⟨rfl,bi,aV,aW,bh⟩:=hcut;obtain ⟨cK,cL⟩:=aLv e H bV;obtain ⟨G,ab,aG,I⟩:=hqq4 bi aV aW bh;clear bi aV aW bh ac ah N V bH ce M aQ aJ aN;go_wp2_with fail;refine (lU (F:=i) (gt:=m) (n:=o) (k:=g) (gb:=c) (xs:=x) (fr:=q) (rt:=v) (bs:=(lK b a e)) (w:=wc) G bv ab oM).mono ?_;rintro d c8 ⟨rfl,cb,aB,bf,bm,a5,_⟩;obtain ⟨aH,aF⟩:=hqq2 (a5.a j _ zs aG.out) (a5.a c _ zs ab.out);have aO:=lhd (I.out.trans (a5.mono (bl':= [c]) zs));have a7:=aB.ab (wrap64 (wrap64 (B+1)+1));have Q:=aB.b4 3 (.int .i64 (wrap64 (wrap64 (B+1)+1)));obtain ⟨cB,cg,cm,cX,X⟩:=aB;have bI:=X.rd.c3;have bK:=X.rd.a.frozen 3;have bT:=X.rd.a.lt;obtain ⟨bn,ay⟩:=eqx (c8.setCell ⟨m,3,none⟩ (.int .i64 (wrap64 (wrap64 (B+1)+1))));rw [ay] at a7 Q;rw [gT,show (1:Int)+1=2 from rfl] at a7;obtain ⟨aI,bp⟩:=hqq2 (Q.a j _ zs aH.out) (Q.a c _ zs aF.out);have aP:=lhd (aO.out.trans (Q.mono (bl':= [c]) zs));obtain ⟨bD,bB,bF,bx⟩:=hqq4 a7 bf bm ay;clear a7 Q X a5 bf bm ay aH aF aO G ab aG I;go_wp2_with fail;rw [bx.out];clear bI bK bT;obtain ⟨b9,bP,_⟩:=iR ag;have an:∀p,bn.heap.size<=p->i p:=λp E=>aK p (zAk aP.keep.size E);have bb:aD3 o q:=by obtain ⟨P,aA,c7⟩:=b9;rw [zDb] at P;have av:=ag.length_eq;rw [zAi,zAi,zCi] at av;exact ⟨P.2.1,λA t=>aA A (by simp [t]),λ_=>by omega⟩
 refine (aBl (F:=i) (gt:=m) (n:=o) (gb:=j) (xs:=cb) (fr:=q) (rt:=v) (bs:=(lJ b a e)) (w:=bn) bD an oM bb aI oM).mono ?_;rintro d bo ⟨u,rfl,a3,cc,K,W,bj,aS,aC,R⟩;have a1:((u:: [g])++(C++K)).Perm (List.range a3):=by
  have D:((g::C)++q).Perm (List.range o):=by simpa using ag.out
  have am:=aAx D W;refine List.Perm.trans ?_ am;rw [zDc];intro U;simp only [zDg,zCc,zEz];omega
 obtain ⟨cP,cQ,bZ,c1,c0⟩:=aLw W;obtain ⟨ba,ao,b7⟩:=iR a1;have bc:aD3 a3 K:=by obtain ⟨P,aA,c7⟩:=ba;rw [zDb] at P;have av:=a1.length_eq;rw [zAi,zAi,zCi] at av;exact ⟨P.2.1,λA t=>aA A (by simp [t]),λ_=>by omega⟩
 have bW:g≠u:=λd=>by simp [d] at b7
 have aT:=aC _ _ bW bB;have aZ:∀p,bo.heap.size<=p->i p:=λp E=>an p (zAk R.keep.size E);have bQ:g∉K:=λz=>(ao g zs).1 (by simp [z]);have bR:u∉K:=λz=>(ao u zs).1 (by simp [z]);obtain ⟨br,bq⟩:=hqq2 (R.a j _ zs aI.out) (R.a c _ zs bp.out);have bC:=lhd (aP.out.trans (R.mono (bl':= [c]) zs));obtain ⟨bE,aD,aE,bG,bA,bz,bu,ch⟩:=hqq8 bj aS aT aC a1 bc aZ W;clear bj aS aT aC a1 bc aZ W R ba ao b7 b9 bP bb an;go_wp2_with fail;have cT:(lK b a e).count true<=(lK b a e).length:=zBv;have cU:(lJ b a e).count true<=(lJ b a e).length:=zBv;refine (aFE (F:=i) (gt:=m) (n:=a3) (l:=g) (r:=u) (hl:=0) (hr:=0) (nl:=(lK b a e).length) (nr:=(lJ b a e).length) (ol:=((lK b a e).count true)) (or_:=((lJ b a e).count true)) (xs:=cc) (fr:=K) (rt:=v) (w:=bo) bE bu oM bz bQ bR aE aD oM oM oM oM oM oM).mono ?_;rintro d c9 ⟨L,rfl,bg,cd,aX,ak,bl,aU,a8,a6⟩;obtain ⟨cR,cS,c2,c4,c3⟩:=aLw ak;have ax:((L::u:: [g])++(C++aX)).Perm (List.range bg):=by
  have D:((u::g::C)++K).Perm (List.range a3):=by simpa using bA.out
  have am:=aAx D ak;refine List.Perm.trans ?_ am;rw [zDc];intro U;simp only [zDg,zCc,zEz];omega
 have aw:=(iR ax).2.2;have bX:u≠L:=λd=>by simp [d] at aw
 have bY:g≠L:=λd=>by simp [d] at aw
 have bt:=lhd (show aBm i m o (.lf g c b) C x q v B ((Tr.lf b).ins a e) f (.returned (.int .i64 (L:Nat))) c9 from by
  refine ⟨.nd L (.lf g c (lK b a e)) (.lf u j (lJ b a e)),bg,cd,aX,2,rfl,bl,by omega,(aLt e H).symm,⟨aU,⟨a8 _ _ bY aE,a6.a c _ zs bq⟩,⟨a8 _ _ bX aD,a6.a j _ zs br⟩⟩,?_,?_,by omega,by simp [LT.blks,ar.symm],λU be=>?_,?_,bC.trans (a6.mono zs)⟩;refine List.Perm.trans ?_ ax;rw [zDc];intro U;simp only [LT.nums,zDg,zCc,zEz];omega
  .rcases c2 with d | d
   .rcases bZ with aj | aj;exact .inl (d.trans aj)
    .refine .inr ?_;refine zFX.2 λA t=>?_;have:=c3 A t;rw [aj] at this;simp at this
   exact .inr d
  simp only [LT.blks,zCp,zDa] at be⊢;rcases be with rfl | rfl;exact .inl rfl;exact .inr b3
  .intro A bJ t aR;simp only [LT.nums,zCp,zDa,not_or] at t;have cV:=aR.lt (zFo (zCv aM) (zCv aM.symm));have c5:A≠u:=λd=>by rcases c1 with z | z;exact t.2 (d ▸ z);omega
   have c6:A≠L:=λd=>by rcases c4 with z | z;exact t.2 (c0 _ (d ▸ z));omega
   exact a8 _ _ c6 (bG _ _ c5 (bF _ _ t.1 aR)))
 clear bl aU a8 a6 ak ax aw;go_wp2_with fail;go_ret;exact bt
def aLr {n l r v b} (aU) {d c:LT} {C:Tr} {t s o z S w} (X:TS w n l r s o z S) (bm:(LT.nd b d c).In w s) (aG:((LT.nd b d c).nums++(t++o)).Perm (List.range r)) (ap:(LT.nd b d c).blks.Nodup) (c0:∀p,p∈(LT.nd b d c).blks->n p) (bn:v<=d.len) (a7:(LT.nd b d c).L) (bh:C.ht<=100000/\C.bits.length<=100000) (aL:∀u aT,TS u n l r s o z aT->d.In u s->LK n [] w u->Calls prog 234 #[l,(d.num:Int),(v:Int),.bool aU] u (aBm n l r d (b::(c.nums++t)) s o z aT C u)):
 Calls prog 234 #[l,(b:Int),(v:Int),.bool aU] w (aBm n l r (.nd b d c) t s o z S (Tr.bal C c.er) w):=by
 obtain ⟨P,au,a5⟩:=bm;have br:=X.len;obtain ⟨x,Q⟩:=eqx d.len;obtain ⟨aa,aB⟩:=eqx d.on;obtain ⟨ab,aC⟩:=eqx (d.len+c.len);obtain ⟨ae,aE⟩:=eqx (d.on+c.on);obtain ⟨O,ar⟩:=eqx (max d.ht c.ht+1);obtain ⟨a9,aA⟩:=eqx d.num;obtain ⟨ah,a6⟩:=eqx c.num;have av:At8 s b (ndL a9 ah O ab ae x aa):=by rw [<-Q,<-aB,<-aC,<-aE,<-ar,<-aA,<-a6];exact P
 have aH:d.L:=a7.l;have bp:c.L:=a7.r;rw [Q] at bn;have c6:x<=100000:=by rw [<-Q];exact aH.2
 obtain ⟨Y,y,aV⟩:=nR (k:=v) (cs:=#[.int .i64 a9,.int .i64 ah,.int .i64 O,.int .i64 ab,.int .i64 ae,.int .i64 x,.int .i64 aa,.pointer none]) X;obtain ⟨bZ,bH,bL,c8,m⟩:=X;obtain ⟨bf,bM,rfl,a2⟩:=m.rd.ex (zj (P.lt m.rd.len));have bJ:=m.rd.c1;have bK:=m.rd.c3;have bW:=m.rd.a.frozen 3;have c3:=m.rd.a.lt;have c2:=a2.lt;have c7:l≠bf:=Bk.ne m.rd.a a2 dC;have c4:(b:Int) < r:=zj (P.lt m.rd.len)
 obtain ⟨bO,bP,bQ,bR,bS,bT,bU,bV⟩:=m.rd.at av;obtain ⟨u,Z⟩:=eqx ((w.setCell ⟨l,3,none⟩ (.int .i64 (wrap64 (S+1)))).alloc (.cells #[(a9:Int),(ah:Int),(O:Int),(ab:Int),(ae:Int),(x:Int),(aa:Int),.pointer none] 226));rw [Z] at Y y aV;have az:=au.but (ButL.refl [] _) y zs zs;have bo:=a5.but (ButL.refl [] _) y zs zs;have a4:=aL u _ Y az y;rw [aA] at a4;have bX:=zy ((v:Int)<=x);have bY:=zy (v<=x);obtain ⟨b0,b3⟩:=hqq2 Z a6;have b2:=(a5.a);clear Y aV Z az aL P Q aB aC aE a6 au a5 m a2 aH bp;go_enter func234,ntmps234;go_wp2_with fail;rw [b0.out];refine a4.mono ?_;rintro E ak ⟨i,H,T,L,W,rfl,bA,ba,K,aJ,af,bd,G,bv,an,ai,ag⟩;clear a4;obtain ⟨bw,ac,ad⟩:=iR aG;have ax:b∉d.nums++o:=λa=>by rcases zCp.1 a with a | a;have:=ad;rw [LT.nums,zDe] at this;exact this.1 (by simp [a]);exact (ac b (by simp [LT.nums])).1 (by simp [a])
 have aF:∀e,e∈c.nums->e∉d.nums++o:=λe f a=>by rcases zCp.1 a with a | a;have:=ad;rw [LT.nums,zDe,zDb] at this;exact this.2.2.2 _ a _ f rfl;exact (ac e (by simp [LT.nums,f])).1 (by simp [a])
 have aD:∀p,p∈c.blks->p∉d.blks:=λp f a=>by have:=ap;rw [LT.blks,zDb] at this;exact this.2.2 _ a _ f rfl
 have F:=ai _ _ ax av;have aM:=bo.but ai ag aF aD;obtain ⟨be,bI,b9,bB,q⟩:=bA;obtain ⟨ao,bN,rfl,N⟩:=q.rd.ex (zj (F.lt q.rd.len));have b8:=q.rd.c1;have bl:=q.rd.a.lt;have bk:=N.lt;have bc:=N.frozen (b*8);have c5:(b:Int) < H:=zj (F.lt q.rd.len)
 obtain ⟨bF,bG,_⟩:=q.rd.at F;obtain ⟨A,a8⟩:=eqx i.num;have a1:=q.put (b*8) (.int .i64 A);have I:LK n [] ak (ak.setCell ⟨ao,b*8,none⟩ (.int .i64 A)):=LK.set N dC (OwnF.at q.own) _;obtain ⟨b7,a0⟩:=eqx (ak.setCell ⟨ao,b*8,none⟩ (.int .i64 A));rw [a0] at a1 I;have aj:ButL [b] T (T.set (b*8) (.int .i64 A)):=(But8.set b T (j:=0) oM _).l zs;have aN:=F.set (j:=0) oM (.int .i64 A);have R:=iR (show ((i.nums++(b::(c.nums++t)))++L).Perm (List.range H) by simpa using af);have ay:∀e,e∈i.nums->e∉ [b]:=λe f a=>by have:=R.2.2;rw [zDb] at this;exact this.2.2 e f b zs (zDa.1 a)
 have aw:∀e,e∈c.nums->e∉ [b]:=λe f a=>by have:=R.2.2;rw [zDb] at this;have M:=this.2.1;rw [zDe] at M;have E:=zDa.1 a;exact M.1 (by rw [<-E];simp [f])
 have bu:=aJ.but aj I ay zs;have bt:=aM.but aj I aw zs;have bj:(b::(i.nums++c.nums)).Nodup:=by have M:=R.2.2;have bg:(i.nums++(b::c.nums)).Nodup:=M.sublist (List.Sublist.append (List.Sublist.refl _) (List.Sublist.cons_cons _ (List.sublist_append_left _ _)));refine (zGd ?_).1 bg;rw [zDc];intro g;simp only [zDg,zCc];omega
 have bq:i.L:=by obtain ⟨J,B⟩:=bh;exact ⟨by show i.er.ht<=_;rw [K];exact J,by show i.er.bits.length<=_;rw [K];exact B⟩
 have aY:=(show TS b7 n l H _ L z _ from ⟨be,_,b9,bB,a1⟩);have N3:=(show Nd (T.set (b*8) (.int .i64 A)) b i.num c.num from ⟨_,_,_,_,_,by rw [a8,b3.out];exact aN⟩);have b6:=((y.mono (bl':=(LT.nd b d c).blks) zs).trans ((ag.mono (bl':=(LT.nd b d c).blks) (λp _ a3=>by simp [LT.blks,a3])).trans (I.mono zs)));have b5:=G;obtain ⟨aX,b1,b4⟩:=hqq3 K a0 a8;have al:=(y.keep.size);clear q N a1 I aN F R ay aw aM aJ ag G K ax aF bw ac ad a0 a8;go_wp2_with fail;rw [b4.out,b1.out];clear b8 bl bk bc bF bG;refine (zP aY N3 bu bt bj bq a7.r).mono ?_;rintro E bC ⟨aQ,bD,V,rfl,aR,c1,aK,bb,aO,U,aS,aP⟩;have aZ:=(show aBm n l r (.nd b d c) t s o z S (Tr.bal C c.er) w (.returned (.int .i64 (aQ.num:Nat))) bC from by
  refine ⟨aQ,H,bD,L,1+W+V,rfl,?_,?_,?_,aK,?_,bd,b5,?_,λp a3=>?_,?_,b6.trans (aP.mono zs)⟩;have:=aR;rw [gT,gT] at this;rw [show ((1+W+V:Nat):Int)=1+((W:Int)+V) by omega];exact this;have J:=ba;have B:=ar;have aW:(LT.nd b d c).ht=O:=B;omega
  .rw [bb,aX.out]
  refine List.Perm.trans ?_ af;have bE:=zDc.1 aO;rw [zDc];intro g;have:=bE g;simp only [zDg,zCc] at this⊢;omega;refine U.nodup_iff.2 ?_;have aq:=ap;rw [LT.blks,zDb] at aq;rw [zDb];refine ⟨bv,aq.2.1,λg bs cb aI E=>?_⟩;subst E;rcases an g bs with a | a;exact aD g aI a;obtain ⟨D,bi⟩:=b2 g aI;have c9:=bi.lt;have ca:=al;omega;rcases zCp.1 (U.mem_iff.1 a3) with a | a;rcases an p a with G | G;exact .inl (by simp [LT.blks,G]);have:=al;exact .inr oM;exact .inl (by simp [LT.blks,a])
  .intro e D f am;simp only [LT.nums,zCp,zDf,not_or] at f;have bx:e < r:=am.lt br;have bz:e∉i.nums:=λa=>by have J:e∈(LT.nd b d c).nums++(t++o):=aG.mem_iff.2 (zCj.2 bx);simp only [LT.nums,zCp,zDf] at J;have B:=(iR (show ((i.nums++(b::(c.nums++t)))++L).Perm (List.range H) by simpa using af)).2.2;rw [zDb] at B;have aW:=B.2.2 e a;rcases J with (g | g | g)| g | g;exact f.1.1 g;exact f.1.2.1 g;exact f.1.2.2 g;exact aW e (by simp [g]) rfl;exact f.2 g
   refine aS e D (λa=>?_) (aj e D (λa=>f.1.1 (zDa.1 a)) (ai e D (λa=>?_) am));simp only [zDf,zCp] at a;rcases a with a | a | a;exact f.1.1 a;exact bz a;exact f.1.2.2 a
   .rcases zCp.1 a with a | a;exact f.1.2.1 a
    .exact f.2 a)
 clear aR aK aO U aS aP;go_wp2_with fail;go_ret;exact aZ
def aLq {p m t i b} (aV) {c e:LT} {C:Tr} {v u q z S x} (X:TS x p m t u q z S) (bm:(LT.nd b c e).In x u) (aG:((LT.nd b c e).nums++(v++q)).Perm (List.range t)) (ar:(LT.nd b c e).blks.Nodup) (c1:∀r,r∈(LT.nd b c e).blks->p r) (bn:¬i<=c.len) (c5:i<=100000) (a7:(LT.nd b c e).L) (bh:C.ht<=100000/\C.bits.length<=100000) (a9:∀w aU,TS w p m t u q z aU->e.In w u->LK p [] x w->Calls prog 234 #[m,(e.num:Int),.int .i64 (i - c.len:Nat),.bool aV] w (aBm p m t e (b::(c.nums++v)) u q z aU C w)):
 Calls prog 234 #[m,(b:Int),(i:Int),.bool aV] x (aBm p m t (.nd b c e) v u q z S (Tr.bal c.er C) x):=by
 obtain ⟨P,a5,aw⟩:=bm;have br:=X.len;obtain ⟨o,Q⟩:=eqx c.len;obtain ⟨ab,aB⟩:=eqx c.on;obtain ⟨ac,aC⟩:=eqx (c.len+e.len);obtain ⟨af,aE⟩:=eqx (c.on+e.on);obtain ⟨O,av⟩:=eqx (max c.ht e.ht+1);obtain ⟨aa,a6⟩:=eqx c.num;obtain ⟨ai,aI⟩:=eqx e.num;have ax:At8 u b (ndL aa ai O ac af o ab):=by rw [<-Q,<-aB,<-aC,<-aE,<-av,<-a6,<-aI];exact P
 have aJ:c.L:=a7.l;have bp:e.L:=a7.r;rw [Q] at bn a9;have c8:o<=100000:=by rw [<-Q];exact aJ.2
 obtain ⟨Y,y,aW⟩:=nR (k:=i) (cs:=#[.int .i64 aa,.int .i64 ai,.int .i64 O,.int .i64 ac,.int .i64 af,.int .i64 o,.int .i64 ab,.pointer none]) X;obtain ⟨c0,bH,bL,ca,n⟩:=X;obtain ⟨bf,bM,rfl,a2⟩:=n.rd.ex (zj (P.lt n.rd.len));have bJ:=n.rd.c1;have bK:=n.rd.c3;have bW:=n.rd.a.frozen 3;have c4:=n.rd.a.lt;have c3:=a2.lt;have c9:m≠bf:=Bk.ne n.rd.a a2 dC;have c6:(b:Int) < t:=zj (P.lt n.rd.len)
 obtain ⟨bO,bP,bQ,bR,bS,bT,bU,bV⟩:=n.rd.at ax;obtain ⟨w,Z⟩:=eqx ((x.setCell ⟨m,3,none⟩ (.int .i64 (wrap64 (S+1)))).alloc (.cells #[(aa:Int),(ai:Int),(O:Int),(ac:Int),(af:Int),(o:Int),(ab:Int),.pointer none] 226));rw [Z] at Y y aW;have bo:=a5.but (ButL.refl [] _) y zs zs;have aH:=aw.but (ButL.refl [] _) y zs zs;have a4:=a9 w _ Y aH y;rw [aI] at a4;have bX:=zn ((i:Int)<=o);have bY:=zn (i<=o);have ap:wrap64 (i -o)=((i - o:Nat):Int):=by unfold wrap64;omega
 have bZ:((i:Int) -o)=((i - o:Nat):Int):=oM;obtain ⟨b1,b4⟩:=hqq2 Z a6;have b3:=(a5.a);clear Y aW Z aH a9 P Q aB aC aE a6 a5 aw n a2 aJ bp;go_enter func234,ntmps234;go_wp2_with fail;rw [b1.out];refine a4.mono ?_;rintro E al ⟨l,H,T,L,W,rfl,bA,bb,K,aL,ag,ap,G,bv,ao,aj,ah⟩;clear a4;obtain ⟨bw,ad,ae⟩:=iR aG;have az:b∉e.nums++q:=λa=>by rcases zCp.1 a with a | a;have:=ae;rw [LT.nums,zDe] at this;exact this.1 (by simp [a]);exact (ad b (by simp [LT.nums])).1 (by simp [a])
 have aF:∀d,d∈c.nums->d∉e.nums++q:=λd f a=>by rcases zCp.1 a with a | a;have:=ae;rw [LT.nums,zDe,zDb] at this;exact this.2.2.2 _ f _ a rfl;exact (ad d (by simp [LT.nums,f])).1 (by simp [a])
 have aD:∀r,r∈c.blks->r∉e.blks:=λr f a=>by have:=ar;rw [LT.blks,zDb] at this;exact this.2.2 _ f _ a rfl
 have F:=aj _ _ az ax;have aN:=bo.but aj ah aF aD;obtain ⟨be,bI,ba,bB,s⟩:=bA;obtain ⟨aq,bN,rfl,N⟩:=s.rd.ex (zj (F.lt s.rd.len));have b9:=s.rd.c1;have bl:=s.rd.a.lt;have bk:=N.lt;have bd:=N.frozen (b*8+1);have c7:(b:Int) < H:=zj (F.lt s.rd.len)
 obtain ⟨bF,bG,_⟩:=s.rd.at F;obtain ⟨A,a8⟩:=eqx l.num;have a1:=s.put (b*8+1) (.int .i64 A);have I:LK p [] al (al.setCell ⟨aq,b*8+1,none⟩ (.int .i64 A)):=LK.set N dC (OwnF.at s.own) _;obtain ⟨b8,a0⟩:=eqx (al.setCell ⟨aq,b*8+1,none⟩ (.int .i64 A));rw [a0] at a1 I;have ak:ButL [b] T (T.set (b*8+1) (.int .i64 A)):=(But8.set b T (j:=1) oM _).l zs;have aO:=F.set (j:=1) oM (.int .i64 A);have R:=iR (show ((l.nums++(b::(c.nums++v)))++L).Perm (List.range H) by simpa using ag);have aA:∀d,d∈l.nums->d∉ [b]:=λd f a=>by have:=R.2.2;rw [zDb] at this;exact this.2.2 d f b zs (zDa.1 a)
 have ay:∀d,d∈c.nums->d∉ [b]:=λd f a=>by have:=R.2.2;rw [zDb] at this;have M:=this.2.1;rw [zDe] at M;have E:=zDa.1 a;exact M.1 (by rw [<-E];simp [f])
 have bu:=aL.but ak I aA zs;have bt:=aN.but ak I ay zs;have bj:(b::(c.nums++l.nums)).Nodup:=by have M:=R.2.2;have bg:(l.nums++(b::c.nums)).Nodup:=M.sublist (List.Sublist.append (List.Sublist.refl _) (List.Sublist.cons_cons _ (List.sublist_append_left _ _)));refine (zGd ?_).1 bg;rw [zDc];intro g;simp only [zDg,zCc];omega
 have bq:l.L:=by obtain ⟨J,B⟩:=bh;exact ⟨by show l.er.ht<=_;rw [K];exact J,by show l.er.bits.length<=_;rw [K];exact B⟩
 have aZ:=(show TS b8 p m H _ L z _ from ⟨be,_,ba,bB,a1⟩);have N3:=(show Nd (T.set (b*8+1) (.int .i64 A)) b c.num l.num from ⟨_,_,_,_,_,by rw [a8,b4.out];exact aO⟩);have b7:=((y.mono (bl':=(LT.nd b c e).blks) zs).trans ((ah.mono (bl':=(LT.nd b c e).blks) (λr _ a3=>by simp [LT.blks,a3])).trans (I.mono zs)));have b6:=G;obtain ⟨aY,b2,b5⟩:=hqq3 K a0 a8;have am:=(y.keep.size);clear s N a1 I aO F R aA ay aN aL ah G K az aF bw ad ae a0 a8;go_wp2_with fail;rw [b5.out,b2.out];clear b9 bl bk bd bF bG;refine (zP aZ N3 bt bu bj a7.l bq).mono ?_;rintro E bC ⟨aR,bD,V,rfl,aS,c2,aM,bc,aP,U,aT,aQ⟩;have b0:=(show aBm p m t (.nd b c e) v u q z S (Tr.bal c.er C) x (.returned (.int .i64 (aR.num:Nat))) bC from by
  refine ⟨aR,H,bD,L,1+W+V,rfl,?_,?_,?_,aM,?_,ap,b6,?_,λr a3=>?_,?_,b7.trans (aQ.mono zs)⟩;have:=aS;rw [gT,gT] at this;rw [show ((1+W+V:Nat):Int)=1+((W:Int)+V) by omega];exact this;have J:=bb;have B:=av;have aX:(LT.nd b c e).ht=O:=B;omega
  .rw [bc,aY.out]
  refine List.Perm.trans ?_ ag;have bE:=zDc.1 aP;rw [zDc];intro g;have:=bE g;simp only [zDg,zCc] at this⊢;omega;refine U.nodup_iff.2 ?_;have au:=ar;rw [LT.blks,zDb] at au;rw [zDb];refine ⟨au.1,bv,λg aK cd bs E=>?_⟩;subst E;rcases ao g bs with a | a;exact aD g aK a;obtain ⟨D,bi⟩:=b3 g aK;have cb:=bi.lt;have cc:=am;omega;rcases zCp.1 (U.mem_iff.1 a3) with a | a;exact .inl (by simp [LT.blks,a]);rcases ao r a with G | G;exact .inl (by simp [LT.blks,G]);have:=am;exact .inr oM
  .intro d D f an;simp only [LT.nums,zCp,zDf,not_or] at f;have bx:d < t:=an.lt br;have bz:d∉l.nums:=λa=>by have J:d∈(LT.nd b c e).nums++(v++q):=aG.mem_iff.2 (zCj.2 bx);simp only [LT.nums,zCp,zDf] at J;have B:=(iR (show ((l.nums++(b::(c.nums++v)))++L).Perm (List.range H) by simpa using ag)).2.2;rw [zDb] at B;have aX:=B.2.2 d a;rcases J with (g | g | g)| g | g;exact f.1.1 g;exact f.1.2.1 g;exact f.1.2.2 g;exact aX d (by simp [g]) rfl;exact f.2 g
   refine aT d D (λa=>?_) (ak d D (λa=>f.1.1 (zDa.1 a)) (aj d D (λa=>?_) an));simp only [zDf,zCp] at a;rcases a with a | a | a;exact f.1.1 a;exact f.1.2.1 a;exact bz a
   .rcases zCp.1 a with a | a;exact f.1.2.2 a
    .exact f.2 a)
 clear aS aM aP U aT aQ;go_wp2_with fail;go_ret;exact b0
def LT.L.of {a:LT} (b:a.ht<=50000/\a.len<=50000):a.L:=⟨by omega,by omega⟩
def aD0 (i:Nat->Prop) (t r:Nat) (d:Bool) (u:List Value) (s:List Nat) (y:Int) (H:r<=50000):∀(e:LT) (a:Nat) (m:List Nat) (z:Int) (l:World),TS l i t r u s y z->e.In l u->(e.nums++(m++s)).Perm (List.range r)->e.blks.Nodup->(∀f,f∈e.blks->i f)->(∀n,l.heap.size<=n->i n)->a<=e.len->e.er.Le->e.er.Avl->(e.ht<=50000/\e.len<=50000)->
 Calls prog 234 #[t,(e.num:Int),(a:Int),.bool d] l (aBm i t r e m u s y z (e.er.ins a d) l)
 | .lf k f o,a,m,z,l,w,x,q,B,p,F,R,C,P,I=>by have T:a<=o.length:=R;have X:o.length<=128:=C;by_cases g:o.length=128;exact qA i t r a k f d o m u s y z l w x q (p f (by simp [LT.blks])) F g oM H;have v:(LT.lf k f o).er.ins a d=.lf (aT o a d):=(by show (Tr.lf o).ins a d=_;unfold Tr.ins;rw [zBw g]);rw [v];exact aLs d w x q (p f (by simp [LT.blks])) oM T
 | .nd k b c,a,m,z,l,w,x,q,B,p,F,R,C,P,I=>by have Y:=LT.len_nd k b c;have W:(LT.nd k b c).ht=max b.ht c.ht+1:=rfl;have E:=B;rw [LT.blks,zDb] at E;obtain ⟨N,O,_,_⟩:=P;have Q:∀j,LK i [] l j->∀n,j.heap.size<=n->i n:=λj U n S=>F n (zAk U.keep.size S);by_cases g:a<=b.len;have v:(LT.nd k b c).er.ins a d=Tr.bal (b.er.ins a d) c.er:=(by show (Tr.nd b.er c.er).ins a d=_;rw [Tr.ins,zBx g]);rw [v];refine aLr d w x q B p g (LT.L.of I) ⟨by have:=(Tr.ins_avl b.er a d N).2.2;have A:b.er.ht=b.ht:=rfl;omega,by rw [Tr.ins_bits _ _ _ g,cM _ _ g];have A:b.er.bits.length=b.len:=rfl;omega⟩ λj M L J K=>?_;refine aD0 i t r d u s y H b a (k::(c.nums++m)) M j L J ?_ E.1 (λf G=>p f (by simp [LT.blks,G])) (Q j K) g C.1 N ⟨by omega,by omega⟩;refine List.Perm.trans ?_ q;rw [zDc];intro V;simp only [LT.nums,zDg,zCc];omega;have v:(LT.nd k b c).er.ins a d=Tr.bal b.er (c.er.ins (a - b.len) d):=(by show (Tr.nd b.er c.er).ins a d=_;rw [Tr.ins,zBw g]);have D:a - b.len<=c.er.bits.length:=(by have A:c.er.bits.length=c.len:=rfl;omega);rw [v];refine aLq d w x q B p g oM (LT.L.of I) ⟨by have:=(Tr.ins_avl c.er (a - b.len) d O).2.2;have A:c.er.ht=c.ht:=rfl;omega,by rw [Tr.ins_bits _ _ _ D,cM _ _ D];have A:c.er.bits.length=c.len:=rfl;omega⟩ λj M L J K=>?_;refine aD0 i t r d u s y H c (a - b.len) (k::(b.nums++m)) M j L J ?_ E.2.1 (λf G=>p f (by simp [LT.blks,G])) (Q j K) D C.2 O ⟨by omega,by omega⟩;refine List.Perm.trans ?_ q;rw [zDc];intro V;simp only [LT.nums,zDg,zCc];omega
def aAJ (c:Nat->Prop) (b:Nat) (d:List Bool):Value->World->Prop:=λe f=>∃a,e=.tuple #[.pointer (some ⟨a,0,none⟩),o0]/\Bk f a 240 (dL d)/\b<=a/\¬c a
def aLZ (c:Nat->Prop) (b:Nat) (d:List Bool):Value->World->Prop:=λe f=>∃a,e=.pointer (some ⟨a,0,none⟩)/\Bk f a 240 (dL d)/\b<=a/\¬c a
def aB5 (a c d):tO a (aAJ a c d):=λ_ _ _ ⟨e,f,g,i,b⟩ j=>⟨e,f,j.d g b,i,b⟩
def aB6 (a c d):tO a (aLZ a c d):=λ_ _ _ ⟨e,f,g,i,b⟩ j=>⟨e,f,j.d g b,i,b⟩
def LT.J:LT->Bool
 | lf _ _ a=>decide (a.length < 32)
 | nd _ _ _=>false
def jS (p m g) (e:LT) (i s w x d) (u:TS d p m g i s w x) (k:e.In d i):
 Calls prog 254 #[m,(e.num:Int)] d λf y=>f=.returned (.bool e.J)/\y=d:=by
 obtain ⟨D,z,B,H,a⟩:=u;have c:=k.at
 obtain ⟨E,C,rfl,n⟩:=a.rd.ex (zj (c.lt a.rd.len));have A:=a.rd.c1;have o:(e.num:Int) < g:=zj (c.lt a.rd.len)
 cases e with
 | lf b t j=>
  obtain ⟨v,l⟩:=eqx j.length;obtain ⟨_,_,_,q,_,_,_,r⟩:=a.rd.at (show At8 i b [_,_,_,_,_,_,_,_] from c);rw [l] at q;have f:(LT.lf b t j).J=decide ((v:Int) < 32):=(by show decide (j.length < 32)=_;rw [l];exact decide_eq_decide.2 oM);rw [f];change (b:Int) < (g:Int) at o;change Calls _ _ #[_,(b:Int)] d _;clear c a n k l f;go_enter func254,ntmps254;go_wp2_with fail;go_ret;exact ⟨rfl,rfl⟩
 | nd b F G=>
  obtain ⟨_,_,_,_,_,_,_,r⟩:=a.rd.at (show At8 i b [_,_,_,_,_,_,_,_] from c);change (b:Int) < (g:Int) at o;change Calls _ _ #[_,(b:Int)] d _;clear c a n k;go_enter func254,ntmps254;go_wp2_with fail;go_ret;exact ⟨rfl,rfl⟩
def xI {d o m f q c g r s i w z A b} (D:TS b d o m i w z A) (U:(LT.lf f c r).In b i) (x:(LT.lf q g s).In b i) (Y:g≠c) (R:d c) (S:d g) (X:r.length+s.length<=128):
 Calls prog 255 #[o,(f:Int),(q:Int)] b λa B=>a=.returned (.bool false)/\∃j,TS B d o m j w z A/\(LT.lf f c (r++s)).In B j/\ButL [f] i j/\LK d [c,g] b B:=by
 obtain ⟨n,u⟩:=U;obtain ⟨t,v⟩:=x;have G:=D;obtain ⟨a8,a2,a4,ac,e⟩:=D;obtain ⟨a9,a6,rfl,V⟩:=e.rd.ex (zj (n.lt e.rd.len));have O:=e.rd.c1;have aa:(f:Int) < m:=zj (n.lt e.rd.len)
 have ab:(q:Int) < m:=zj (t.lt e.rd.len)
 obtain ⟨_,_,_,_,_,_,_,P⟩:=e.rd.at (show At8 i f [_,_,_,_,_,_,_,_] from n);obtain ⟨_,_,_,_,_,_,_,Q⟩:=e.rd.at (show At8 i q [_,_,_,_,_,_,_,_] from t);clear e V t;go_enter func255,ntmps255;go_wp2_with fail;go_quiet (fail);have k:Below b.heap.size b (b.drewN nq):=km (kg b.heap.size b) nq;have T:=G.below k;have E:=u.below k u.lt;have F:=v.below k v.lt;have Z:LK d [c,g] b (b.drewN nq):=LK.below k;clear O P Q u v G;generalize b.drewN nq=w1 at*
 clear k;go_wp2_with fail;refine (aBY E F Y X).mono ?_;rintro a a0 ⟨rfl,H,p⟩;have M:=(T.dd E F p);have N:=(Z.trans (⟨p.mono (λa3 _ a=>by rcases a with a | a;rw [a];exact R;rw [a];exact S),λa7 a5 W x=>p.d x (λa=>W (by rcases a with a | a <;> simp [a]))⟩:LK d [c,g] w1 a0));clear p;go_wp2_with fail;refine (lU M n H (by rw [zAi];omega)).mono ?_;rintro a C ⟨rfl,a1,J,I,K,y,_⟩;have L:=(show ∃j,TS C d o m j w z A/\(LT.lf f c (r++s)).In C j/\ButL [f] i j/\LK d [c,g] b C from ⟨a1,J,⟨I,y.a c _ zs H⟩,K.l zs,N.trans (y.mono zs)⟩);clear J I K y;go_wp2_with fail;go_ret;exact ⟨rfl,L⟩
def aBk {C z u i n b1 b2 e f J a8 ah ai v} (S:TS v C z u J a8 ah ai) (bS:(LT.lf i b1 e).In v J) (Y:(LT.lf n b2 f).In v J) (c5:b2≠b1) (aj:i≠n) (cL:∀a,v.heap.size<=a->C a) (c4:128 < e.length+f.length) (T:e.length<=128) (O:f.length<=128):
 Calls prog 255 #[z,(i:Int),(n:Int)] v λD a1=>D=.returned (.bool true)/\∃R s B,TS a1 C z u R a8 ah ai/\(LT.lf i s ((e++f).take ((e.length+f.length)/ 2))).In a1 R/\(LT.lf n B ((e++f).drop ((e.length+f.length)/ 2))).In a1 R/\s≠B/\v.heap.size<=s/\v.heap.size<=B/\ButL [i,n] J R/\LK C [] v a1:=by
 obtain ⟨cd,c3,ca,cb,cc⟩:=info_parts nE;obtain ⟨a7,aq⟩:=bS;obtain ⟨ap,ar⟩:=Y;have bN:=S;obtain ⟨cI,cp,K,d1,U⟩:=S;obtain ⟨b,cu,rfl,bW⟩:=U.rd.ex (zj (a7.lt U.rd.len));have bA:=U.rd.c1;have cR:(i:Int) < u:=zj (a7.lt U.rd.len)
 have cS:(n:Int) < u:=zj (ap.lt U.rd.len)
 obtain ⟨_,_,_,_,_,_,_,bF⟩:=U.rd.at (show At8 J i [_,_,_,_,_,_,_,_] from a7);obtain ⟨_,_,_,_,_,_,_,bI⟩:=U.rd.at (show At8 J n [_,_,_,_,_,_,_,_] from ap);obtain ⟨L,a0⟩:=eqx e.length;obtain ⟨aO,bb⟩:=eqx f.length;obtain ⟨a5,a6⟩:=hqq2 a0 bb;clear U bW a0 bb;go_enter func255,ntmps255;go_wp2_with fail;go_quiet (fail);have ab:Below v.heap.size v (v.drewN nq):=km (kg v.heap.size v) nq;have bO:=bN.below ab;have aw:=aq.below ab aq.lt;have ay:=ar.below ab ar.lt;clear bA bF bI aq ar;generalize v.drewN nq=w1 at*
 go_wp2_with fail;refine (aD7 aw ay c5 c4 T O).mono ?_;rintro D w ⟨rfl,ac⟩;have am:=(bO.below ac);have aT:=(aw.below ac aw.lt);have al:=(ay.below ac ay.lt);have a3:=(ab.trans (zDV ac ab.size));clear ac;go_wp2_with fail;refine (jA aT T).mono ?_;rintro D bi ⟨bj,rfl,aI,ad⟩;rw [a5.out] at aI⊢;have c9:=ad.size;have aY:=(am.below ad);have aU:=(al.below ad al.lt);have an:=(a3.trans (zDV ad a3.size));go_wp2_with fail;refine (jA aU O).mono ?_;rintro D cn ⟨cq,rfl,aJ,Z⟩;rw [a6.out] at aJ⊢;have cU:=an.size;have cT:=a3.size;have cV:=Z.size;have bm:=((zDV ad nL).trans (zDV Z c9));have br:=(aY.below Z);have cs:=(an.trans (zDV Z an.size));have ao:=(aI.below Z);clear Z
 rename_i cf
 refine cf _ _<|bE _ rfl (.tmp 34) (.tmp 36) _ rfl w.heap.size 4 cd (.bool false) 1 1 underlying119 c3 ca cb cc rfl dC (.slice bj L L) L _ rfl ao.own _ _ _ _ _ rfl aJ.rd (sI _) (by unfold maxLen;have:=a5.out;have:=a6.out;omega) (zk a5.out a6.out) oM ?_;intro d2 x b9 b8 bT;obtain ⟨A,q,rfl,af⟩:=aR b9;have b5:Below w.heap.size cn x:=aX bR ao.own b8 oM;have b4:Below w.heap.size w x:=(zDV (bm) nL).trans b5;have c7:L+aO=e.length+f.length:=by rw [a5.out,a6.out]
 obtain ⟨o,ba⟩:=eqx (L+aO);obtain ⟨d,cQ⟩:=eqx (o / 2);have cE:((L:Int)+aO)=(o:Int):=oM;have bJ:(o:Int)/ 2=d:=oM;have cF:(o:Int).tdiv 2=d:=by rw [zEG oM];exact bJ
 rw [<-zAz,ba] at af;rw [ba];have bQ:=am.below b4;obtain ⟨bL,cr,K,cl,W⟩:=bQ;obtain ⟨b,cv,rfl,ae⟩:=W.rd.ex oM;have cH:IntKind.i64.wrap d=(d:Int):=zu
 have cJ:o<=q:=af.cap;have d0:=jH (P:=prog) 119 4 1 underlying119 Tryz.sizeOf4 A o q d oM;have cZ:=iC (P:=prog) 119 4 1 underlying119 Tryz.sizeOf4 A o q d oM;have bu:=lhd (show d=(e.length+f.length)/ 2 by omega);have c2:=W.rd.a.lt;have aZ:=(show ¬z=b from Bk.ne W.rd.a ae dC);have a4:=(show b < x.heap.size from ae.lt);have ax:∀a,(Value.slice A o q).ownBlock=some a->a≠b:=λa D S=>by subst S;exact absurd (nZ (cG af.own (zAp _)) D ae) dC
 have bP:∀c,Keep (λa=>a=b) x c->Rd c c.heap.size 1 (dH A q 0 1) d (((e++f).take d).map Value.bool):=λc N=>by have av:=aC (w':=c) af.own λa bC Y aH=>N.d aH (ax a Y);have au:=(Rd.s av).aj (k:=d) (cap:=q) oM;rwa [zBl,<-zDw] at au
 have c0:=ae.lt;have bX:d<=128:=oM;have bY:o - d<=128:=oM;have cK:d<=o:=oM;clear b9 b8 bT b5 ae c7 am aY br aU aT al ao aJ aI;go_wp2_with fail;refine wp_region_any kR<|bM (pJ:=(λ_ w=>∃r,w.ownsRow 0 226 8 (.slice (some b) u K) u ((J).set (i*8+7) (.pointer (some ⟨r,0,none⟩)))/\Bk w r 240 (dL ((e++f).take d))/\x.heap.size<=r)) [39,40,41,42,43,44,45,46,47,48,49,38,50,51,52,53] (λa=>a=b) 16 [16] [is z,is z,is (.pointer (some ⟨z,1,none⟩)),is (.slice (some b) u K),is (i:Int),is (.slice A o q),is (.slice A o q),is (o:Int),is (d:Int),is (.slice (dH A q 0 1) d q),aAJ (λa=>a=b) x.heap.size ((e++f).take d),aAJ (λa=>a=b) x.heap.size ((e++f).take d),aLZ (λa=>a=b) x.heap.size ((e++f).take d),is o0,is (.pointer (some ⟨b,i*8,none⟩)),is (.pointer (some ⟨b,i*8+7,none⟩)),cO] _ rfl kR kR (W.rd.row) (λw bi S _ aG=>aP S aG) (λ_ _ _ ⟨r,T,O,a9⟩ N=>⟨r,aP T N,O.below N O.lt,a9⟩) (by repeat' (first | exact gK _ _ | exact fB _ | exact aB5 _ _ _ | exact aB6 _ _ _ |(refine zAe.2 ⟨?_,?_⟩)|(intro L a0;cases a0))) ?_ ?_
 .refine aL<|pH3 0 (.pointer (some z))<|pV3 0 39<|pV3 1 40<|pL3 2 41 (λc g=>have g:Keep (λa=>a=b) x c:=kD g;(((g.d W.rd.a aZ).cell 1).trans rfl:c.cell? ⟨z,1,none⟩=some (.slice (some b) u K))) ?_;refine pH3 1 (.int .i64 i)<|pH3 9 (.slice A o q)<|pH3 9 (.slice A o q)<|pV3 6 45<|pV3 7 46<|pW3 5 44 8 47<|sC3 (λ_ c g _ _ _ _ m _ _ _ t=>?_) ?_
  .replace g:Keep (λa=>a=b) x c:=kD g;have cw:_=_:=m 9 48 kR rfl;go_simp;have aK:=bP c g;refine (gQ _ aK nL bX).mono ?_;rintro D a2 ⟨rfl,aA,aD⟩;exact t _ _ (aE aD) ⟨_,rfl,aA,g.size,λD=>by have T:=a4;have O:=g.size;have a9:c.heap.size=b:=D;omega⟩
  refine sC3 (λy c _ _ _ _ _ m _ _ _ t=>?_) ?_
  .have cg:(aAJ (λa=>a=b) x.heap.size ((e++f).take d)) (y (.tmp 49)) c:=m 10 49 kR rfl;obtain ⟨E,cx,G,H,I⟩:=cg;go_simp;exact t _ _ (aE bR) ⟨E,rfl,G,H,I⟩
  refine sC3 (λy c _ _ _ _ _ m _ _ _ t=>?_) ?_
  .have aM:(aAJ (λa=>a=b) x.heap.size ((e++f).take d)) (y (.tmp 38)) c:=m 11 38 kR rfl;obtain ⟨E,bG,G,H,I⟩:=aM;go_simp;exact t _ _ (aE bR) ⟨E,rfl,G,H,I⟩
  refine sC3 (λy c _ _ _ _ _ m _ _ _ t=>?_) ?_
  .have aM:(aAJ (λa=>a=b) x.heap.size ((e++f).take d)) (y (.tmp 38)) c:=m 11 38 kR rfl;obtain ⟨E,bG,G,H,I⟩:=aM;go_simp;exact kq t rfl
  refine pW3 3 42 4 43<|pV3 14 52<|sC3 (λy c _ az _ _ _ m _ _ _ t=>?_) ?_
  .have Q:=az rfl;have cz:_=_:=m 15 53 kR rfl;have ch:(aLZ (λa=>a=b) x.heap.size ((e++f).take d)) (y (.tmp 50)) c:=m 12 50 kR rfl;obtain ⟨E,cy,G,H,I⟩:=ch;have bB:c.cell? ⟨b,i*8+7,none⟩=_:=(kh Q (i*8+7) oM).trans (a7.2 7 oM);have bK:=zFR Q (i*8+7);obtain ⟨bD,bV⟩:=fE Q;go_simp;exact t (.bool true) _ (aW (ka (F:=λa=>a=b) (ke _ _) (p:=⟨b,i*8+7,none⟩) (.inl rfl) _)) ⟨E,(kk Q (i*8+7) _).1,G.m (p:=⟨b,i*8+7,none⟩) I _,H⟩
  exact aB
 .intro y M g m aa;replace g:Keep (λa=>a=b) x M:=kD g;obtain ⟨cm,ag⟩:∃aS,(λ_ w=>∃r,w.ownsRow 0 226 8 (.slice (some b) u K) u ((J).set (i*8+7) (.pointer (some ⟨r,0,none⟩)))/\Bk w r 240 (dL ((e++f).take d))/\x.heap.size<=r) aS M:=aa 16 dC;simp only [zqq];clear m aa;obtain ⟨s,bc,b6,bZ⟩:=ag;have X:TX M C z bL (some ⟨b,0,none⟩) K u (J.set (i*8+7) (.pointer (some ⟨s,0,none⟩))) cl a8 ah ai:=W.av g bc;have bf:LK C [] x M:=W.lk g;have c8:∀c,Keep (λa=>a=b) M c->Rd c c.heap.size 1 (dH A q d 1) (o - d) (((e++f).drop d).map Value.bool):=λc N=>by have av:=aC (w':=c) af.own λa bC Y aH=>N.d (g.d aH (ax a Y)) (ax a Y);have au:=(Rd.s av).cut (k:=d) (cap:=q) oM oM;rwa [zBl,<-zEb] at au
  have aV:=(ap.ac aj.symm (j:=7) oM (.pointer (some ⟨s,0,none⟩)));have bn:=(a7.set (j:=7) oM (.pointer (some ⟨s,0,none⟩)));have cW:=g.size;have c1:b < M.heap.size:=oM;have cP:=X.rd.a.lt;have ct:=a4;clear bc a4 c2 c0;have a4:=c1;generalize M=wx at*
  go_wp2_with fail;refine wp_region_any kR<|bM (pJ:=(λ_ w=>∃r,w.ownsRow 0 226 8 (.slice (some b) u K) u ((J.set (i*8+7) (.pointer (some ⟨s,0,none⟩))).set (n*8+7) (.pointer (some ⟨r,0,none⟩)))/\Bk w r 240 (dL ((e++f).drop d))/\wx.heap.size<=r)) [55,56,57,58,59,60,61,62,63,64,65,54,66,67,68,69] (λa=>a=b) 16 [16] [is z,is z,is (.pointer (some ⟨z,1,none⟩)),is (.slice (some b) u K),is (n:Int),is (.slice A o q),is (.slice A o q),is (o:Int),is (d:Int),is (.slice (dH A q d 1) (o - d) (q - d)),aAJ (λa=>a=b) wx.heap.size ((e++f).drop d),aAJ (λa=>a=b) wx.heap.size ((e++f).drop d),aLZ (λa=>a=b) wx.heap.size ((e++f).drop d),is o0,is (.pointer (some ⟨b,n*8,none⟩)),is (.pointer (some ⟨b,n*8+7,none⟩)),cO] _ rfl kR kR (X.rd.row) (λw bi S _ aG=>aP S aG) (λ_ _ _ ⟨r,T,O,a9⟩ N=>⟨r,aP T N,O.below N O.lt,a9⟩) (by repeat' (first | exact gK _ _ | exact fB _ | exact aB5 _ _ _ | exact aB6 _ _ _ |(refine zAe.2 ⟨?_,?_⟩)|(intro L a0;cases a0))) ?_ ?_
  .refine aL<|pH3 0 (.pointer (some z))<|pV3 0 55<|pV3 1 56<|pL3 2 57 (λc g=>have g:Keep (λa=>a=b) wx c:=kD g;(((g.d X.rd.a aZ).cell 1).trans rfl:c.cell? ⟨z,1,none⟩=some (.slice (some b) u K))) ?_;refine pH3 2 (.int .i64 n)<|pH3 9 (.slice A o q)<|pH3 9 (.slice A o q)<|pV3 6 61<|pV3 7 62<|pW3 5 60 8 63<|sC3 (λ_ c g _ _ _ _ m _ _ _ t=>?_) ?_
   .replace g:Keep (λa=>a=b) wx c:=kD g;have cA:_=_:=m 9 64 kR rfl;go_simp;have aK:=c8 c g;refine (gQ _ aK nL bY).mono ?_;rintro D a2 ⟨rfl,aA,aD⟩;exact t _ _ (aE aD) ⟨_,rfl,aA,g.size,λD=>by have T:=a4;have O:=g.size;have a9:c.heap.size=b:=D;omega⟩
   refine sC3 (λy c _ _ _ _ _ m _ _ _ t=>?_) ?_
   .have ci:(aAJ (λa=>a=b) wx.heap.size ((e++f).drop d)) (y (.tmp 65)) c:=m 10 65 kR rfl;obtain ⟨E,cB,G,H,I⟩:=ci;go_simp;exact t _ _ (aE bR) ⟨E,rfl,G,H,I⟩
   refine sC3 (λy c _ _ _ _ _ m _ _ _ t=>?_) ?_
   .have aN:(aAJ (λa=>a=b) wx.heap.size ((e++f).drop d)) (y (.tmp 54)) c:=m 11 54 kR rfl;obtain ⟨E,bH,G,H,I⟩:=aN;go_simp;exact t _ _ (aE bR) ⟨E,rfl,G,H,I⟩
   refine sC3 (λy c _ _ _ _ _ m _ _ _ t=>?_) ?_
   .have aN:(aAJ (λa=>a=b) wx.heap.size ((e++f).drop d)) (y (.tmp 54)) c:=m 11 54 kR rfl;obtain ⟨E,bH,G,H,I⟩:=aN;go_simp;exact kq t rfl
   refine pW3 3 58 4 59<|pV3 14 68<|sC3 (λy c _ az _ _ _ m _ _ _ t=>?_) ?_
   .have Q:=az rfl;have cD:_=_:=m 15 69 kR rfl;have cj:(aLZ (λa=>a=b) wx.heap.size ((e++f).drop d)) (y (.tmp 66)) c:=m 12 66 kR rfl;obtain ⟨E,cC,G,H,I⟩:=cj;have bB:c.cell? ⟨b,n*8+7,none⟩=_:=(kh Q (n*8+7) oM).trans (aV.2 7 oM);have bK:=zFR Q (n*8+7);obtain ⟨bD,bV⟩:=fE Q;go_simp;exact t (.bool true) _ (aW (ka (F:=λa=>a=b) (ke _ _) (p:=⟨b,n*8+7,none⟩) (.inl rfl) _)) ⟨E,(kk Q (n*8+7) _).1,G.m (p:=⟨b,n*8+7,none⟩) I _,H⟩
   exact aB
  .intro y M g m aa;replace g:Keep (λa=>a=b) wx M:=kD g;obtain ⟨cm,ag⟩:∃aS,(λ_ w=>∃r,w.ownsRow 0 226 8 (.slice (some b) u K) u ((J.set (i*8+7) (.pointer (some ⟨s,0,none⟩))).set (n*8+7) (.pointer (some ⟨r,0,none⟩)))/\Bk w r 240 (dL ((e++f).drop d))/\wx.heap.size<=r) aS M:=aa 16 dC;simp only [zqq];clear m aa;obtain ⟨B,bd,bU,cN⟩:=ag;have b3:=X.av g bd;have V:LK C [] wx M:=X.lk g;have c6:s≠B:=(zj b6.lt);have b7:=V.a s _ zs b6;have bs:=(show TS M C z u _ a8 ah ai from ⟨_,_,_,_,b3⟩);have aF:Below v.heap.size v x:=a3.trans (zDV b4 a3.size);have bw:=((LK.below (F:=C) (bl:= []) aF).trans (bf.trans V));have bo:=(bn.ac aj (j:=7) oM (.pointer (some ⟨B,0,none⟩)));have bp:=(aV.set (j:=7) oM (.pointer (some ⟨B,0,none⟩)));have bt:=(((But8.set i J (j:=7) oM (.pointer (some ⟨s,0,none⟩))).l (l:= [i,n]) zs).trans ((But8.set n _ (j:=7) oM (.pointer (some ⟨B,0,none⟩))).l zs));have cX:=aF.size;have cM:=bZ;have cY:=bf.keep.size;clear b3 V aF bd g X;go_wp2_with fail;refine (lU bs (x0:=(e.length:Int)) (y0:=((e.count true:Nat):Int)) bo b7 (by rw [zAj];omega)).mono ?_;rintro D d3 ⟨rfl,d4,ck,ce,bh,V,_⟩;have bz:=bh _ _ aj.symm bp;have bv:=(bw.trans V);have bx:=(V.a s _ zs b7);have b0:=(V.a B _ zs bU);clear V;go_wp2_with fail;refine (lU ck (x0:=(f.length:Int)) (y0:=((f.count true:Nat):Int)) bz b0 (by have:=a5.out;have:=a6.out;rw [zAw,zAi];omega)).mono ?_;rintro D a2 ⟨rfl,co,bg,be,aQ,ak,_⟩
   have bq:=(show ∃R s B,TS a2 C z u R a8 ah ai/\(LT.lf i s ((e++f).take ((e.length+f.length)/ 2))).In a2 R/\(LT.lf n B ((e++f).drop ((e.length+f.length)/ 2))).In a2 R/\s≠B/\v.heap.size<=s/\v.heap.size<=B/\ButL [i,n] J R/\LK C [] v a2 from by
    rw [<-bu.out];exact ⟨co,s,B,bg,⟨aQ _ _ aj ce,ak.a s _ zs bx⟩,⟨be,ak.a B _ zs b0⟩,c6,by omega,by omega,bt.trans ((bh.l zs).trans (aQ.l zs)),bv.trans ak⟩)
   clear bg be aQ ak;go_wp2_with fail;go_ret;exact ⟨rfl,bq⟩
def aJo (b:Nat) (c:List Bool):Value->World->Prop:=λv w=>∃a,v=.tuple #[.pointer (some ⟨a,0,none⟩),o0]/\Bk w a 240 (dL c)/\b<=a
def aL0 (b:Nat) (c:List Bool):Value->World->Prop:=λv w=>∃a,v=.pointer (some ⟨a,0,none⟩)/\Bk w a 240 (dL c)/\b<=a
def aIs (a b):tO (λ_=>False) (aJo a b):=λ_ _ _ ⟨c,e,f,g⟩ i=>⟨c,e,i.d f (λd=>d),g⟩
def aIt (a b):tO (λ_=>False) (aL0 a b):=λ_ _ _ ⟨c,e,f,g⟩ i=>⟨c,e,i.d f (λd=>d),g⟩
def aIy:∀w,(sizeOf 4).run prog w=.ok 1 w:=λw=>by kernel_rfl
def aNL {a b c:Nat} (e:a*b=c) (f:c<=4000000):IntKind.i64.wrap (a*b)=((c:Nat):Int):=by
 have d:(a:Int)*b=(c:Nat):=by rw [<-e];exact (Int.natCast_mul a b).symm
 rw [d,wI0];omega
def aNM {a b c:Nat} (e:a / b=c) (f:c<=4000000):IntKind.i64.wrap (a/b)=((c:Nat):Int):=by
 have d:(a:Int)/b=(c:Nat):=by rw [<-e];exact (Int.natCast_ediv a b).symm
 rw [d,wI0];omega
def aN4 {w:World} {d n c a b:Nat} {A:Option Addr} {f:List Bool} (g:Rd w d 1 A n (f.map Value.bool)) (i:a<=b) (j:b<=n) (k:n<=c):Rd w d 1 (dH A c a 1) (b - a) (((f.take b).drop a).map Value.bool):=by
 have e:=(g.cut_hi j).cut (cap:=c) i oM;rw [zBl,zBl,<-zDw,<-zEb] at e;exact e
def aG9 {F:Nat->Prop} {gt n:Nat} {xs:List Value} {fr:List Nat} {rt v:Int} {A:Option Addr} {c f L e o m:Nat} (j l y z:Nat) {N d:List Bool} {w:World} (p:TS w F gt n xs fr rt v) (U:∀t,w.heap.size<=t->F t) (am:n<=100000) (X:aD3 n fr) (Y:Rd w L 1 A c (N.map Value.bool)) (hB:L<=w.heap.size) (al:c<=f) (W:c<=2000) (aU:0 < e) (aW:e<=1000) (ht:m=o+1) (ap:m<=e) (s:c*o=y) (q:c*m=z) (J:y / e=j) (u:z / e=l) (ak:l - j<=128) (T:(N.take l).drop j=d) (ah:d.length<=128):
 Calls prog 223 #[gt,.slice A c f,(o:Int),(m:Int),(e:Int)] w λC w'=>∃x E,C=.returned (.int .i64 (x:Nat))/\aHy F gt n xs fr rt v (lH (d.length:Int) ((d.count true:Nat):Int) E) w x w'/\Bk w' E 240 (dL d)/\w.heap.size<=E:=by
 have a0:j<=l:=by rw [<-J,<-u,<-s,<-q];exact zEV (zGf _ oM)
 have aq:l<=c:=by rw [<-u,<-q];exact Nat.div_le_of_le_mul (by rw [zFY];exact zEk _ ap)
 have aY:y<=2000*1000:=by rw [<-s];exact Nat.mul_le_mul W oM
 have aZ:z<=2000*1000:=by rw [<-q];exact Nat.mul_le_mul W oM
 have ag:¬(e:Int)=0:=oM;have aX:¬e=0:=oM;have aV:((e:Int)==0)=false:=zCb.2 ag;have b0:(m:Int) -o=1:=oM;have hcut:=kN (P:=prog) 119 4 1 underlying119 aIy A c f j l a0 oM;replace s:=lhd s;replace q:=lhd q;obtain ⟨a9,ab,aa,ac,a5,a3,a8,a6,a7⟩:=hqq9 J u a0 aq T p (Y.mono hB) U X;have aG:=lhd ht;clear p Y U X J u T ht;go_enter func223,ntmps223;go_wp2_with fail;refine wp_region_any kR<|bM (pJ:=(cO)) [20,21,22,23,24,25,26,27,28,29,30,31,32,33,34,19,35,36,11,12] (λ_=>False) 19 [] [is (.slice A c f),is (.slice A c f),is (c:Int),is (o:Int),is (.int .i64 (y:Nat)),is (e:Int),is (j:Int),is (.slice A c f),is (c:Int),is (m:Int),is (.int .i64 (z:Nat)),is (e:Int),is (l:Int),is (.slice (dH A f j 1) (l - j) (f - j)),aJo w.heap.size d,aJo w.heap.size d,aL0 w.heap.size d,is o0,aL0 w.heap.size d,cO] _ rfl kR kR (trivial) (λ_ _ _ _ _=>trivial) (λ_ _ _ _ _=>trivial) (by repeat' (first | exact gK _ _ | exact fB _ | exact aIs _ _ | exact aIt _ _ |(refine zAe.2 ⟨?_,?_⟩)|(intro b1 I;cases I))) ?_ ?_
 .refine aL<|pH3 1 (.slice A c f)<|pH3 1 (.slice A c f)<|pV3 1 21<|pH3 2 (.int .i64 o)<|sC3 (λ_ _ _ _ _ _ _ a _ _ _ b=>?_) ?_
  .have aI:_=_:=a 2 22 kR rfl;have aJ:_=_:=a 3 23 kR rfl;go_simp;exact b _ _ (aE bR) (cS (aNL s oM))
  refine pH3 4 (.int .i64 e)<|sC3 (λ_ _ _ _ _ _ _ a _ _ _ b=>?_) ?_
  .have aK:_=_:=a 4 24 kR rfl;have aM:_=_:=a 5 25 kR rfl;go_simp;exact b _ _ (aE bR) (cS (aNM a9 oM))
  refine pH3 1 (.slice A c f)<|pV3 7 27<|pH3 3 (.int .i64 m)<|sC3 (λ_ _ _ _ _ _ _ a _ _ _ b=>?_) ?_
  .have aO:_=_:=a 8 28 kR rfl;have aP:_=_:=a 9 29 kR rfl;go_simp;exact b _ _ (aE bR) (cS (aNL q oM))
  refine pH3 4 (.int .i64 e)<|sC3 (λ_ _ _ _ _ _ _ a _ _ _ b=>?_) ?_
  .have aQ:_=_:=a 10 30 kR rfl;have aR:_=_:=a 11 31 kR rfl;go_simp;exact b _ _ (aE bR) (cS (aNM ab oM))
  refine sC3 (λ_ _ _ _ _ _ _ a _ _ _ b=>?_) ?_
  .have aH:_=_:=a 0 20 kR rfl;have aN:_=_:=a 6 26 kR rfl;have aS:_=_:=a 12 32 kR rfl;go_simp;exact kq b rfl
  refine sC3 (λ_ k g _ _ _ _ a _ _ _ b=>?_) ?_
  .replace g:Keep (λ_=>False) w k:=kD g;have aT:_=_:=a 13 33 kR rfl;go_simp;have an:=g.rd a8 nL (λ_ _ p=>p);have Z:=aN4 an aa ac al;rw [a5.out] at Z;refine (gQ (f - j) Z g.size ak).mono ?_;rintro C b4 ⟨rfl,af,aj⟩;exact b _ _ (aE aj) ⟨_,rfl,af,g.size⟩
  refine sC3 (λi k _ _ _ _ _ a _ _ _ b=>?_) ?_
  .have av:(aJo w.heap.size d) (i (.tmp 34)) k:=a 14 34 kR rfl;go_simp;exact b _ _ (aE bR) av
  refine sC3 (λi k _ _ _ _ _ a _ _ G b=>?_) ?_
  .have K:(aJo w.heap.size d) (i (.tmp 19)) k:=a 15 19 kR rfl;go_simp;obtain ⟨r,D,S,V⟩:=K;subst G;rw [D];go_simp;exact b _ _ (aE bR) ⟨r,rfl,S,V⟩
  refine sC3 (λi k _ _ _ _ _ a _ _ G b=>?_) ?_
  .have K:(aJo w.heap.size d) (i (.tmp 19)) k:=a 15 19 kR rfl;go_simp;obtain ⟨r,D,S,V⟩:=K;subst G;rw [D];go_simp;exact kq b rfl
  refine sC3 (λi k _ _ _ _ _ a _ _ _ b=>?_) ?_
  .have aw:(aL0 w.heap.size d) (i (.tmp 35)) k:=a 16 35 kR rfl;go_simp;exact b _ _ (aE bR) aw
  refine sC3 (λ_ _ _ _ _ _ _ a _ _ _ b=>?_) ?_
  .have O:_=_:=a 17 36 kR rfl;go_simp;exact b _ _ (aE bR) trivial
  exact aB
 .intro i B g a Q;replace g:Keep (λ_=>False) w B:=kD g;have au:(aL0 w.heap.size d) (i (.tmp 11)) B:=a 18 11 rfl;have O:i (.tmp 36)=.int .i64 0:=a 17 36 rfl;obtain ⟨b2,ax⟩:∃aD,(cO) aD B:=Q 19 dC;simp only [zqq];rw [O];clear a Q;obtain ⟨r,ad,R,ai⟩:=au;rw [ad];have H:Below w.heap.size w B:=g.e nL (λ_ _ p=>p);have ao:=g.size;obtain ⟨a2,a4,M⟩:=hqq3 H (a3.out.below H) R;clear g H R;go_wp2_with fail;refine (aBl a4 (λt ae=>a6 t (zAk ao ae)) am a7 M ah).mono ?_;rintro C b3 ⟨x,rfl,I⟩;go_wp2_with fail;go_ret;obtain ⟨ar,aF,fr',ay,az,aA,aC,a1⟩:=I;exact ⟨x,r,rfl,⟨ar,aF,fr',ay,az,aA,aC,(LK.below a2).trans a1⟩,a1.a r _ zs M,ai⟩
def aNI (F:Nat->Prop) (gt n:Nat) (e:List Nat) (xs:List Value) (rt v:Int) (g:Nat) (f:Tr) (w:World) (i:Ending) (w':World):Prop:=
 ∃(a:LT) (b:Nat) (c:List Value),i=.returned (.int .i64 (a.num:Nat))/\TS w' F gt b c [] rt v/\a.er=f/\a.In w' c/\(a.nums++e).Perm (List.range b)/\b+1=n+2*g/\a.blks.Nodup/\(∀d,d∈a.blks->w.heap.size<=d)/\ButL [] xs c/\LK F [] w w'
def aH4 {n a b fr'} (c:Got n [] a b fr'):a=n/\b=n+1/\fr'= []:=by
 rcases c with ⟨d,_,_⟩|⟨_,e,f,g⟩
 .simp at d
 exact ⟨by omega,by omega,by assumption⟩
def aET (n):aD3 n []:=⟨List.nodup_nil,λc b=>by simp at b,λa=>absurd rfl a⟩
def aLN (a b c d):(Tr.cut a b c d).length<=a.length:=by
 unfold Tr.cut;rw [zAw,zAj];exact zAk (Nat.sub_le _ _) (Nat.min_le_right _ _)
def aJn {F gt n a c d xs rt v b w w'} (i:d.Perm (List.range n)) (g:aHy F gt n xs [] rt v (lH (b.length:Int) ((b.count true:Nat):Int) c) w a w') (j:Bk w' c 240 (dL b)) (u:w.heap.size<=c) (l:xs.length=n*8):
 aNI F gt n d xs rt v 1 (.lf b) w (.returned (.int .i64 (a:Nat))) w':=by
 obtain ⟨y,t,fr',o,p,q,r,s⟩:=g;obtain ⟨rfl,rfl,rfl⟩:=aH4 o;refine ⟨.lf a c b,a+1,t,rfl,p,rfl,⟨q,j⟩,?_,by omega,by simp [LT.blks],?_,?_,s⟩;show ([a]++d).Perm (List.range (a+1));rw [zDx];exact (i.cons a).trans (zFw a _).symm;intro z k;simp [LT.blks] at k;omega;intro m f x e;refine r m f ?_ e;have:=e.lt l;omega
def rO {w:World} {xs:List Value}:∀ {e:LT},e.In w xs->∀a,a∈e.blks->a < w.heap.size
 | .lf _ _ _,c,a,d=>by have b:a∈ [_]:=d;rw [zDa] at b;subst b;exact c.2.lt
 | .nd _ f g,c,a,d=>by have b:a∈f.blks++g.blks:=d;rw [zCp] at b;exact b.elim (rO c.2.1 a) (rO c.2.2 a)
def aJm {F gt n z j f s t q xs o g rt v} {p r:Tr} {a d:LT} {w w1 m C} (J:a.er=p) (K:d.er=r) (Q:a.In w1 o) (T:d.In m g) (S:(d.nums++(a.nums++q)).Perm (List.range j)) (a3:z+1=n+2*s) (a4:j+1=z+2*t) (G:a.blks.Nodup) (H:d.blks.Nodup) (L:∀c,c∈a.blks->w.heap.size<=c) (u:∀c,c∈d.blks->w1.heap.size<=c) (P:∀c,c∈a.blks->c < w1.heap.size) (a1:ButL [] xs o) (B:ButL [] o g) (x:LK F [] w w1) (y:LK F [] w1 m) (V:g.length=j*8) (b:aHy F gt j g [] rt v (ndL a.num d.num ((max a.ht d.ht+1:Nat):Int) ((a.len+d.len:Nat):Int) ((a.on+d.on:Nat):Int) a.len a.on) m f C):
 aNI F gt n q xs rt v (s+t) (.nd p r) w (.returned (.int .i64 (f:Nat))) C:=by
 obtain ⟨a6,D,fr',X,Y,Z,a0,k⟩:=b;obtain ⟨rfl,rfl,rfl⟩:=aH4 X;have l:ButL [] g D:=by intro W I a5 i;refine a0 W I ?_ i;have:=i.lt V;omega
 have R:=Q.but B y (λ_ _ b=>by simp at b) (λ_ _ b=>by simp at b);have U:=x.keep.size;refine ⟨.nd f a d,f+1,D,rfl,Y,by rw [<-J,<-K];rfl,⟨Z,R.but l k (λ_ _ b=>by simp at b) (λ_ _ b=>by simp at b),T.but l k (λ_ _ b=>by simp at b) (λ_ _ b=>by simp at b)⟩,?_,by omega,?_,?_,(a1.trans B).trans l,(x.trans y).trans k⟩;rw [zDx];refine List.Perm.trans ?_ ((S.cons f).trans (zFw f _).symm);rw [zDc];intro a7;simp only [LT.nums,zDg,zCc];omega;show (a.blks++d.blks).Nodup;rw [zDb];refine ⟨G,H,λi M E N a2=>?_⟩;have:=P i M;have:=u E N;omega;intro c O;have e:c∈a.blks++d.blks:=O;rw [zCp] at e;rcases e with e | e;exact L c e;exact zAk U (u c e)
def aJV (F gt rt v A r H u c e) (au:r<=H) (ar:r<=2000) (Y:0 < c) (an:c<=1000) (W:e.length=r) (am:∀j,j < u->¬F j) (a0:∀a,a < c->(Tr.cut e c a (a+1)).length<=128):
 ∀(m a b n:Nat) (xs:List Value) (i:List Nat) (w:World),a < b->b - a<=m+1->b<=c->TS w F gt n xs [] rt v->(∀j,w.heap.size<=j->F j)->n+2*(b - a)<=10000->i.Perm (List.range n)->Rd w u 1 A r (e.map Value.bool)->u<=w.heap.size->
 Calls prog 223 #[gt,.slice A r H,(a:Int),(b:Int),(c:Int)] w (aNI F gt n i xs rt v (b - a) (Tr.bld e c m a b) w):=by
 have P:∀(a b n:Nat) (xs:List Value) (i:List Nat) (w:World),b=a+1->b<=c->TS w F gt n xs [] rt v->(∀j,w.heap.size<=j->F j)->n+2*(b - a)<=10000->i.Perm (List.range n)->Rd w u 1 A r (e.map Value.bool)->u<=w.heap.size->
  Calls prog 223 #[gt,.slice A r H,(a:Int),(b:Int),(c:Int)] w (aNI F gt n i xs rt v (b - a) (.lf (Tr.cut e c a b)) w):=by
  intro a b n xs i w ht a1 g o B p q hB;have Z:(Tr.cut e c a b).length<=128:=by rw [ht];exact a0 a oM
  have X:=Tr.cut_len (bs:=e) (f:=a) Y a1;rw [W] at X;have ax:=g.len;refine (aG9 _ _ _ _ g o oM (aET n) q hB au ar Y an ht a1 rfl rfl rfl rfl (by rw [<-X];exact Z) (by rw [<-W];rfl) Z).mono ?_;rintro I w' ⟨az,K,rfl,C,z,ap⟩;have J:b - a=1:=oM;rw [J];exact aJn p C z ap ax
 intro m
 induction m with
 | zero=>
  intro a b n xs i w L y M g o B p q hB;exact P a b n xs i w oM M g o B p q hB
 | succ m a2=>
  intro a b n xs i w L y M g o B p q hB;unfold Tr.bld;split;exact P a b n xs i w oM M g o B p q hB
  .rename_i aM
   obtain ⟨s,l⟩:=eqx ((a+b)/ 2);rw [l];have av:¬((b:Int) -a=1):=oM;have aN:((b:Int) -a==1)=false:=zCb.2 av;have aL:((a:Int)+b)/ 2=(s:Int):=oM;have a6:=(a2 a s n xs i w oM oM oM g o oM p q hB);have aF:=g.len;have aG:n<=10000:=oM;clear P g p a0;go_enter func223,ntmps223;go_wp2_with fail;refine a6.mono ?_;rintro I w1 ⟨d,aA,aE,rfl,a9,D,E,R,S,T,x⟩;have aq:d.blks.Nodup/\(∀K,K∈d.blks->w.heap.size<=K):=⟨T,x.1⟩;have N:=x.2.2.keep;have a7:=(N.rd q hB am);have O:=N.size;have a8:=(a2 s b aA aE (d.nums++i) w1 oM oM oM a9 (λj z=>o j (zAk O z)) oM R a7 (zAk hB O));have a5:=T;clear R aq N;go_wp2_with fail;refine a8.mono ?_;rintro I aQ ⟨k,aB,a4,rfl,b2,G,U,ac,ad,ae,t⟩;have a3:=E.but t.2.1 t.2.2 (λ_ _ g=>by simp at g) (λ_ _ g=>by simp at g);obtain ⟨af,ag,ah,ai,aC,V⟩:=d.R;obtain ⟨aj,J,ak,al,aD,er⟩:=k.R;have aa:At8 a4 d.num (xA af ag d.ht d.len d.on ah ai aC):=V ▸ a3.at
   have ab:At8 a4 k.num (xA aj J k.ht k.len k.on ak al aD):=er ▸ U.at
   have aw:=t.2.2.keep.size;have aH:d.len<=2000:=(by show d.er.bits.length<=2000;rw [D,Tr.bld_bits e c m _ _ (zj l) (zj l)];exact zAk (aLN _ _ _ _) oM);have aI:k.len<=2000:=(by show k.er.bits.length<=2000;rw [G,Tr.bld_bits e c m _ _ (zj l) (zj l)];exact zAk (aLN _ _ _ _) oM);have aJ:d.ht<=100000:=(by have L:=Tr.ht_lv d.er;have y:=Tr.bld_lv e c m a s (zj l) (zj l);rw [<-D] at y;show d.er.ht<=100000;omega);have aK:k.ht<=100000:=(by have L:=Tr.ht_lv k.er;have y:=Tr.bld_lv e c m s b (zj l) (zj l);rw [<-G] at y;show k.er.ht<=100000;omega);have aO:=d.on_le;have aP:=k.on_le;have ay:=b2.len;clear a3 V er;go_wp2_with fail;refine (aFE b2 (λj z=>o j (zAk O (zAk aw z))) (zj S) (aET aB) zs zs aa ab oM oM oM oM oM oM).mono ?_;rintro I aR ⟨az,rfl,C⟩;have ao:(s - a)+(b - s)=b - a:=(zj l);have Q:=(aJm D G E U ac S ad a5 ae x.1 t.1 (rO E) x.2.1 t.2.1 x.2.2 t.2.2 ay C);rw [ao] at Q;clear C;go_wp2_with fail;go_ret;exact Q
def lI (w:World) (a:Nat) (v:Value):Nat:=match w.cell? ⟨a,(intOf v).toNat*8+2,none⟩ with
 | some (.int _ b)=>b.toNat
 | _=>0
def kS {w gt ga b cap n xs rt v} {a:LT} (e:TR w gt ga (some ⟨b,0,none⟩) cap n xs rt v) (f:a.In w xs):lI w b (.int .i64 a.num)=a.ht:=by
 obtain ⟨g,i,j,k,l,d⟩:=a.R;obtain ⟨_,_,c,_⟩:=e.at (show At8 xs a.num [_,_,_,_,_,_,_,_] from d ▸ f.at);unfold lI;rw [show (intOf (.int .i64 a.num)).toNat=a.num from rfl,c];rfl
def wV (a d:List Bool) (c:Nat) (b:Bool) (e:a.length<=c):((a++d).take c).count b=a.count b+(d.take (c - a.length)).count b:=by
 rw [zEI,zAg e,zCc]
def jJ (w:World) (gt:Nat) (v:Value) (a:Array Value):Bk ((w.setCell ⟨gt,3,none⟩ v).alloc (.cells a 226)) w.heap.size 226 a:=by
 have b:=kd (w.setCell ⟨gt,3,none⟩ v) 226 a;rwa [show (w.setCell ⟨gt,3,none⟩ v).heap.size=w.heap.size by simp [World.setCell]] at b
def aEc {b a:Nat} (c:b=a) (ht:a<=1100):wrap64 a=(b:Int):=by subst c;unfold wrap64;omega
structure AtSub (w:World) (xs:List Value) (s:LT):Prop where
 sub:s.In w xs
 le:s.er.Le
 len:s.len<=1100
def AtSub.l {w xs b} {l c:LT} (a:AtSub w xs (.nd b l c)):AtSub w xs l:=⟨a.sub.2.1,a.le.1,by have:=a.len;rw [LT.len_nd] at this;omega⟩
def AtSub.r {w xs c} {d b:LT} (a:AtSub w xs (.nd c d b)):AtSub w xs b:=⟨a.sub.2.2,a.le.2,by have:=a.len;rw [LT.len_nd] at this;omega⟩
def aFY {v:Nat} (a:v<=100000):wrap64 (v+1)=((v+1:Nat):Int):=by unfold wrap64;omega
def oht (a:Option Tr):Nat:=
 match a with
 | none=>0
 | some b=>b.ht
def RankV (gt b:Nat) (w':World):Prop:=∃a:Nat,a<=b/\w'.cell? ⟨gt,3,none⟩=some (.int .i64 a)
def RankV.of {gt v a:Nat} {b:Int} {k c d e w} (g:Bk w gt k #[c,d,e,(b:Int)]) (j:b=wrap64 (v+1)) (i:v<=100000) (f:v+1<=a):RankV gt a w:=⟨v+1,f,by rw [g.cell 3,j,aFY i];rfl⟩
def aHh {gt} {Z:Option Tr} {i} (b) {w} (a3:TreeO w gt Z) (aR:i<=(cH Z).length):
 Calls prog 205 #[gt,(i:Int),.bool b] w λf w'=>f=.returned (.int .i64 (((cH Z).take i).count b:Nat))/\VisK (λb=>b=gt) w w'/\RankV gt (oht Z+1) w':=by
 have bi:=a3.le;obtain ⟨b7,N,aN⟩:=a3.a;have aw:=VisK.E N 0;have au:=a3.b aw.1;have bj:=N.lt;have aI:w.cell? ⟨gt,3,none⟩=some b7[3]:=by rw [N.cell 3];simp [aN]
 have aL:=N.frozen 3;have b5:=(show (w.setCell ⟨gt,3,none⟩ (.int .i64 0)).cell? ⟨gt,3,none⟩=some (.int .i64 0) by rw [(N.set 3 (.int .i64 0)).cell 3];simp [aN]);obtain ⟨b6,aj⟩:=eqx ((cH Z).length);rw [aj] at aR bi;have bx:max (i:Int) 0=(i:Int):=oM;have bW:min (i:Int) (b6:Int)=(i:Int):=oM;have ac:=lhd aj;have bA:=aR;clear a3 N aj;go_enter func205,ntmps205;go_wp2_with fail;clear aI aL;refine (jL au).mono ?_;rintro f m ⟨rfl,a4⟩;rw [ac.out];clear bx;have aH:=((a4.cell (p:=⟨gt,3,none⟩) (by simpa [World.setCell] using bj)).trans b5);have y:=aw.below a4;have bv:=au.b (kb a4);have aB:=y;clear y aw au a4;rcases zBa i with aS | aS
 .subst aS;go_wp2_with fail;go_ret;exact ⟨rfl,aB,0,zAp _,aH⟩
 .have bl:¬((i:Int)=0):=oM;have bL:((i:Int)==0)=false:=zCb.2 bl;obtain ⟨ga,A,cap,n,xs,rt,v,u,⟨rfl,rfl⟩|⟨C,rfl,am,rfl,M,ai⟩⟩:=bv;have:=ac.out;simp [cH] at this;omega;obtain ⟨t,bD,rfl,aP⟩:=u.ex (zj (am.at.lt u.len));obtain ⟨R,av⟩:=eqx (((cH (some C.er)).take i).count b);have bw:R<=1100:=(by rw [<-av];exact zAk zBv (by rw [zAj];omega));have bC:=u.c2;have bJ:=u.a.lt;have bH:=aP.lt;have ae:=lhd (show C.ht<=1100 from zAk M.a4 ai);have b2:=(show AtSub m xs C from ⟨am,M.le,ai⟩);have bm:i<=C.len:=(by have:=ac.out;have f:(cH (some C.er)).length=C.len:=rfl;omega);clear am aP M ai;go_wp2_with fail;go_loopw [1,7,8] (λbz J o wr=>∃(s:LT) (a k:Nat),bz=.int .i64 a/\J=.int .i64 (s.num:Nat)/\o=.int .i64 k/\AtSub m xs s/\a<=s.len/\k+(s.bits.take a).count b=R/\VisK (λb=>b=gt) m wr/\∃I:Nat,I+s.ht<=C.ht/\wr.cell? ⟨gt,3,none⟩=some (.int .i64 I)) (λ_ J _ _=>lI m t J)
  case atStart=>exact ⟨C,i,0,rfl,rfl,rfl,b2,bm,by rw [zBi];exact av,VisK.refl _ _,0,by omega,aH⟩
  case round=>
   obtain ⟨s,a,k,rfl,rfl,rfl,q,an,a9,P,I,b1,b0⟩:=hrel;obtain ⟨H,e⟩:=u.b P.1;have af:=lhd (show H=I by have f:=e.c3.symm.trans b0;injection f with f;injection f);have ay:=(e.a.set 3 (.int .i64 (wrap64 (H+1))));have T:=lhd b1;clear b0 b1;have bB:=e.c1;have aI:=e.c3;have aL:=e.a.frozen 3;have bK:=e.a.lt;obtain ⟨bE,a5⟩:=fE e.row;have bI:=a5.lt;have O:=q.sub.b P.1;have bO:gt≠t:=Bk.ne e.a a5 dC;have aV:(s.num:Int) < n:=(zj (O.at.lt e.len));have aq:=kS u q.sub;generalize aY:s.num=g at*
   cases s with
   | lf a0 ah l=>
    change a0=g at aY;subst a0;obtain ⟨ax,bq⟩:=eqx l.length;obtain ⟨r,X⟩:=eqx (l.count true);obtain ⟨b8,b9,ba,aJ,aK,bb,bc,bd⟩:=e.at (show At8 xs g [_,_,_,_,_,_,_,_] from O.1);rw [bq] at aJ;rw [X] at aK;change (g:Int) < (n:Int) at aV;have bn:l.length<=128:=q.le;have ao:a<=l.length:=an;have bu:k+(l.take a).count b=R:=a9;have bk:gt≠wr.heap.size:=oM;have y:VisK (λb=>b=gt) wr ((wr.setCell ⟨gt,3,none⟩ (.int .i64 (wrap64 (H+1)))).alloc (.cells #[(-1:Int),(-1:Int),o0,(ax:Int),(r:Int),o0,o0,ah] 226)):=(VisK.E e.a _).alloc _;have al:=O.2;have bh:=(al.m (p:=⟨gt,3,none⟩) (Bk.ne al e.a dC) (.int .i64 (wrap64 (H+1)))).alloc (.cells #[(-1:Int),(-1:Int),o0,(ax:Int),(r:Int),o0,o0,ah] 226);have a2:=(P.trans y);have K:=(ay.alloc (.cells #[(-1:Int),(-1:Int),o0,(ax:Int),(r:Int),o0,o0,ah] 226));have aE:=bn;clear q an a9 P e a5 O aq y al X;go_wp2_with fail;refine (aBW bh aE ao).mono ?_;rintro f bX ⟨rfl,ak⟩;obtain ⟨J,aa⟩:=eqx (List.count true (List.take a l));have bt:J<=a:=(by rw [<-aa];exact zAk zBv (by rw [zAj];omega));have aW:(if b then J else a - J)=(l.take a).count b:=(by have L:(l.take a).length=a:=(by rw [zAj];have:=ao;omega);have D:=tE (l.take a) b;rw [L,aa] at D;exact D);rw [aa];have aA:=lhd aW;have aC:=(a2.below ak);have az:=(K.below ak K.lt);have aU:a<=100000:=(zk ao aE);clear aa aW ak;go_wp2_with fail;refine (pY b _ aU bt).mono ?_;rintro f ab ⟨rfl,x⟩;rw [aA.out];have aZ:=aC.below x;have a1:=(az.below x az.lt);obtain ⟨o,z⟩:=eqx (List.count b (List.take a l));have bV:k+o=R:=(by rw [<-z];exact bu);rw [z];have ad:=(aB.trans aZ);have bS:wrap64 (k+o)=(R:Int):=(by unfold wrap64;omega);have bT:((k:Int)+o)=(R:Int):=oM;clear z aZ x aA aC;go_wp2_with fail;go_ret;have U:=T.out;have E:=ae.out;exact ⟨fM (aEc av bw),ad,RankV.of (v:=I) a1 (by rw [af.out]) oM (Nat.succ_le_succ (zAk (Nat.le_add_right _ _) U))⟩
   | nd a0 c j=>
    change a0=g at aY;subst a0;obtain ⟨d,W⟩:=eqx c.len;obtain ⟨B,a6⟩:=eqx c.on;obtain ⟨Y,aX⟩:=eqx (c.len+j.len);obtain ⟨r,X⟩:=eqx (c.on+j.on);obtain ⟨V,aQ⟩:=eqx (max c.ht j.ht+1);obtain ⟨Q,ap⟩:=eqx c.num;obtain ⟨G,ar⟩:=eqx j.num;have aT:At8 xs g (ndL Q G V Y r d B):=(by rw [<-W,<-a6,<-aX,<-X,<-aQ,<-ap,<-ar];exact O.1);obtain ⟨b8,b9,ba,aJ,aK,bb,bc,bd⟩:=e.at aT;change (g:Int) < (n:Int) at aV;have bM:=q.len;have bo:=LT.len_nd g c j;have br:=kS u q.l.sub;have bs:=kS u q.r.sub;have a7:(LT.nd g c j).ht=max c.ht j.ht+1:=rfl;have bp:B<=d:=(by rw [<-a6,<-W];exact c.on_le);have bN:d<=1100:=oM;have aU:a<=1100:=oM;have aM:(LT.nd g c j).bits=c.bits++j.bits:=rfl;have aO:(if b then B else d - B)=c.bits.count b:=(by rw [<-a6,<-W];exact tE c.bits b);have bP:k<=1100:=oM;have bk:gt≠wr.heap.size:=oM;have y:VisK (λb=>b=gt) wr ((wr.setCell ⟨gt,3,none⟩ (.int .i64 (wrap64 (H+1)))).alloc (.cells #[(Q:Int),(G:Int),(V:Int),(Y:Int),(r:Int),(d:Int),(B:Int),.pointer none] 226)):=(VisK.E e.a _).alloc _;have a2:=(P.trans y);have K:=lhd (ay.alloc (.cells #[(Q:Int),(G:Int),(V:Int),(Y:Int),(r:Int),(d:Int),(B:Int),.pointer none] 226));obtain ⟨S,aF,aG,b4,aD⟩:=hqq5 W ap ar aO aM;clear W a6 aX X aQ ap ar aO aM aT O a5 e P y;by_cases ag:a<=d
    .have be:=zy ((a:Int)<=d);have bf:=zBz ag;go_wp2_with fail;go_roundw
     case rel=>exact ⟨c,a,k,rfl,by rw [aF.out],rfl,q.l,by rw [S.out];exact ag,by
      have:=a9;rw [aD.out,zDi (by have f:c.bits.length=d:=S;omega)] at this;exact this,a2,I+1,by have U:=T.out;have E:=a7;omega,by rw [K.cell 3,af.out,aFY (by have U:=T.out;have E:=ae.out;omega)];rfl⟩
     case measure=>have D:=aq;have L:=br;have M:=a7;rw [aF.out] at L;show lI m t (.int .i64 Q) < lI m t (.int .i64 (g:Nat));have bg:lI m t (.int .i64 (g:Nat))=(LT.nd g c j).ht:=D;omega
    .have be:=zn ((a:Int)<=d);have bf:=zBy ag;go_wp2_with fail;refine (pY b _ oM bp).mono ?_;rintro f ab ⟨rfl,x⟩;rw [b4.out];obtain ⟨o,z⟩:=eqx (c.bits.count b);rw [z];have bU:o<=d:=(by have f:c.bits.length=d:=S;rw [<-z,<-f];exact zBv);have ad:=(a2.below x);have a1:=lhd (K.out.below x K.out.lt);have a8:=(jJ wr gt (.int .i64 (wrap64 (H+1))) #[(Q:Int),(G:Int),(V:Int),(Y:Int),(r:Int),(d:Int),(B:Int),.pointer none]).below x (jJ wr gt (.int .i64 (wrap64 (H+1))) #[(Q:Int),(G:Int),(V:Int),(Y:Int),(r:Int),(d:Int),(B:Int),.pointer none]).lt;have bF:ab.cell? ⟨wr.heap.size,1,none⟩=some (.int .i64 G):=(by rw [a8.cell 1];rfl);have bG:ab.cell? ⟨wr.heap.size,5,none⟩=some (.int .i64 d):=(by rw [a8.cell 5];rfl);have bQ:wr.heap.size < ab.heap.size:=a8.lt;clear a8;have b3:=lhd z;clear x z;go_wp2_with fail;go_quiet (fail);go_wp2_with fail;go_roundw
     case rel=>exact ⟨j,a - d,k+o,congrArg (Value.int .i64) (show (a:Int) -(d:Int)=(a - d:Nat) by omega),by rw [aG.out],congrArg (Value.int .i64) (show (k:Int)+(o:Int)=(k+o:Nat) from rfl),q.r,by
      have D:=an;have L:=bo;have M:=S.out;omega,by
      have E:=a9;have f:c.bits.length=d:=S;rw [aD.out,wV _ _ _ _ oM,b3.out,f] at E;rw [zDp];exact E,ad.below (km bR _),I+1,by have U:=T.out;have E:=a7;omega,by rw [(a1.below (km bR _) a1.lt).cell 3,af.out,aFY (by have U:=T.out;have E:=ae.out;omega)];rfl⟩
     case measure=>have D:=aq;have L:=bs;have M:=a7;rw [aG.out] at L;show lI m t (.int .i64 G) < lI m t (.int .i64 (g:Nat));have bg:lI m t (.int .i64 (g:Nat))=(LT.nd g c j).ht:=D;omega
def aOr {b d:List Bool} {a:Nat} (c:a < b.length):(b++d).getD a false=b.getD a false:=by
 rw [zAb,zAb,zAn c]
def aOq {b c:List Bool} {a:Nat} (d:b.length<=a):(b++c).getD a false=c.getD (a - b.length) false:=by
 rw [zAb,zAb,zAo d]
def aCw {gt} {e:Option Tr} {b w} (c:TreeO w gt e) (r:b < (cH e).length):
 Calls prog 202 #[gt,(b:Int)] w λf w'=>f=.returned (.int .i64 0)/\VisK (λk=>k=gt) w w':=by
 obtain ⟨m,a,q⟩:=c.a;have d:=VisK.E a 0;have i:=c.b d.1;have t:=a.lt;have l:w.cell? ⟨gt,3,none⟩=some m[3]:=by rw [a.cell 3];simp [q]
 have o:=a.frozen 3;have u:¬(b:Int) < 0:=oM;obtain ⟨j,p⟩:=eqx ((cH e).length);have x:¬(j<=b):=oM;clear c a r;go_enter func202,ntmps202;go_wp2_with fail;clear l o;refine (jL i).mono ?_;rintro f y ⟨rfl,g⟩;rw [p];have s:=d.below g;clear g d i;go_wp2_with fail;go_ret;exact ⟨rfl,s⟩
def aJA {gt} {L:Option Tr} {u w} (G:TreeO w gt L) (P:u < (cH L).length):
 Calls prog 148 #[gt,(u:Int)] w λq w'=>q=.returned (.tuple #[.bool ((cH L).getD u false),o0])/\VisK (λo=>o=gt) w w':=by
 have aB:=G.le;obtain ⟨a0,a6⟩:=eqx ((cH L).getD u false);rw [a6];have aD:u<=1100:=oM;clear aB;go_enter func148,ntmps148;go_wp2_with fail;refine (aCw G P).mono ?_;rintro q g ⟨rfl,j⟩;have ao:=(G.b j.1);have al:=j;clear j G;obtain ⟨ga,A,cap,n,xs,rt,v,l,⟨rfl,rfl⟩|⟨aj,rfl,O,rfl,y,a4⟩⟩:=ao
 .have:=P;simp [cH] at this
 obtain ⟨k,aO,rfl,a8⟩:=l.ex (zj (O.at.lt l.len));have aM:=l.c2;have aT:=l.a.lt;have aR:=a8.lt;have ak:=(show AtSub g xs aj from ⟨O,y.le,a4⟩);clear O a8 y a4;go_wp2_with fail;go_loopw [1,7] (λaK Z wr=>∃(m:LT) (a:Nat),aK=.int .i64 a/\Z=.int .i64 (m.num:Nat)/\AtSub g xs m/\a < m.len/\m.bits.getD a false=a0/\VisK (λo=>o=gt) g wr) (λ_ Z _=>lI g k Z)
 case atStart=>exact ⟨aj,u,rfl,rfl,ak,P,a6,VisK.refl _ _⟩
 case round=>
  obtain ⟨m,a,rfl,rfl,i,Q,K,t⟩:=hrel;obtain ⟨Y,e⟩:=l.b t.1;have aL:=e.c1;have aN:=e.c3;have aQ:=e.a.frozen 3;have aU:=e.a.lt;obtain ⟨aP,J⟩:=fE e.row;have aS:=J.lt;have r:=i.sub.b t.1;have aY:gt≠k:=Bk.ne e.a J dC;have ac:(m.num:Int) < n:=zj (r.at.lt e.len)
  have T:=kS l i.sub;generalize ag:m.num=c at*
  cases m with
  | lf D a3 x=>
   change D=c at ag;subst D;obtain ⟨ah,ad⟩:=eqx x.length;obtain ⟨C,B⟩:=eqx (x.count true);obtain ⟨ap,aq,ar,a1,a2,au,av,aw⟩:=e.at (show At8 xs c [_,_,_,_,_,_,_,_] from r.1);rw [ad] at a1;rw [B] at a2;change (c:Int) < (n:Int) at ac;have aF:x.length<=128:=i.le;have aE:a < x.length:=Q;have aJ:x.getD a false=a0:=K;have aC:gt≠wr.heap.size:=oM;have j:VisK (λo=>o=gt) wr ((wr.setCell ⟨gt,3,none⟩ (.int .i64 (wrap64 (Y+1)))).alloc (.cells #[(-1:Int),(-1:Int),o0,(ah:Int),(C:Int),o0,o0,a3] 226)):=(VisK.E e.a _).alloc _;have N:=r.2;have aA:=(N.m (p:=⟨gt,3,none⟩) (Bk.ne N e.a dC) (.int .i64 (wrap64 (Y+1)))).alloc (.cells #[(-1:Int),(-1:Int),o0,(ah:Int),(C:Int),o0,o0,a3] 226);have E:=(t.trans j);have an:=aF;clear i Q K t e J r T j N ad B;go_wp2_with fail;refine (vV a aA an aE).mono ?_;rintro q aZ ⟨rfl,a5⟩;rw [aJ];have am:=(al.trans (E.below a5));clear a5;go_wp2_with fail;go_ret2;exact ⟨rfl,am⟩
  | nd D b f=>
   change D=c at ag;subst D;obtain ⟨d,s⟩:=eqx b.len;obtain ⟨W,S⟩:=eqx b.on;obtain ⟨ai,af⟩:=eqx (b.len+f.len);obtain ⟨C,B⟩:=eqx (b.on+f.on);obtain ⟨a9,aa⟩:=eqx (max b.ht f.ht+1);obtain ⟨V,R⟩:=eqx b.num;obtain ⟨X,U⟩:=eqx f.num;have ab:At8 xs c (ndL V X a9 ai C d W):=(by rw [<-s,<-S,<-af,<-B,<-aa,<-R,<-U];exact r.1);obtain ⟨ap,aq,ar,a1,a2,au,av,aw⟩:=e.at ab;change (c:Int) < (n:Int) at ac;have aV:=i.len;have aG:=LT.len_nd c b f;have aH:=kS l i.l.sub;have aI:=kS l i.r.sub;have ae:(LT.nd c b f).ht=max b.ht f.ht+1:=rfl;have aX:W<=d:=(by rw [<-S,<-s];exact b.on_le);have aW:d<=1100:=oM;have aD:a<=1100:=oM;have a7:(LT.nd c b f).bits=b.bits++f.bits:=rfl;have aC:gt≠wr.heap.size:=oM;have j:VisK (λo=>o=gt) wr ((wr.setCell ⟨gt,3,none⟩ (.int .i64 (wrap64 (Y+1)))).alloc (.cells #[(V:Int),(X:Int),(a9:Int),(ai:Int),(C:Int),(d:Int),(W:Int),.pointer none] 226)):=(VisK.E e.a _).alloc _;have E:=(t.trans j);clear S af B aa ab r J e t j;by_cases M:a < d
   .have ax:=zy ((a:Int) < d);have ay:=zBz M;go_wp2_with fail;go_roundw
    case rel=>exact ⟨b,a,rfl,by rw [R],i.l,by rw [s];exact M,by
     have z:=K;rw [a7,aOr (by have q:b.bits.length=d:=s;omega)] at z;exact z,E⟩
    case measure=>have H:=T;have I:=aH;have y:=ae;rw [R] at I;show lI g k (.int .i64 V) < lI g k (.int .i64 (c:Nat));have az:lI g k (.int .i64 (c:Nat))=(LT.nd c b f).ht:=H;omega
   .have ax:=zn ((a:Int) < d);have ay:=zBy M;go_wp2_with fail;go_quiet (fail);go_wp2_with fail;go_roundw
    case rel=>exact ⟨f,a - d,congrArg (Value.int .i64) (show (a:Int) -(d:Int)=(a - d:Nat) by omega),by rw [U],i.r,by
     have H:=Q;have I:=aG;have y:=s;omega,by
     have z:=K;have q:b.bits.length=d:=s;rw [a7,aOq oM,q] at z;exact z,E.below (km bR _)⟩
    case measure=>have H:=T;have I:=aI;have y:=ae;rw [U] at I;show lI g k (.int .i64 X) < lI g k (.int .i64 (c:Nat));have az:lI g k (.int .i64 (c:Nat))=(LT.nd c b f).ht:=H;omega
def aJO {F} {ga j a b:Nat} {tk fr w} (x:ArenaE w F ga tk fr) (L:tk[a]?=some true) (M:tk[b]?=some true) (aT:a≠b) (G:Bk w j 3 #[(a:Int),(b:Int)]) (aN:fr.length<=1000000):
 Calls prog 208 #[ga,.slice (some j) 2 2] w λs w'=>s=.returned (.int .i64 0)/\ArenaE w' (Gw F w.heap.size) ga ((tk.set a false).set b false) (fr++ [a,b])/\Keep F w w':=by
 have ak:=qW x L;obtain ⟨Y,A,m,k,o,f,r,a4,P,O⟩:=x;obtain ⟨aU,_⟩:=zAc.1 L;obtain ⟨aV,_⟩:=zAc.1 M;obtain ⟨b3,aP,b0,b1,b2⟩:=info_parts gI;obtain ⟨e,J⟩:=eqx tk.length;obtain ⟨d,y⟩:=eqx fr.length;rw [y] at f a4 O aN;rw [J] at f r P aU aV;obtain ⟨gt,b5,X,_,bf⟩:=kj r oM;injection X with X _ hcc;subst X hcc;have aF:w.cell? ⟨gt,a,none⟩=some (.bool true):=by refine (kh r a oM).trans ?_;rw [zAf,L];rfl
 have aq:ga≠gt:=λs=>bC r f dC (by rw [s];rfl);have aO:∃B,Bk w gt 4 B:=by
  rcases r.2 with ⟨c,_⟩|⟨ai,cap,B,c,_,W,_⟩
  .cases c
  injection c with c _ _;injection c with c;injection c with c _;subst c;exact ⟨B,W⟩
 obtain ⟨B,E⟩:=aO;have aL:=E.frozen a;have aA:w.cell? ga=some (.slice (some gt) e m):=(f.cell 0).trans rfl;have aG:w.cell? ⟨gt,b,none⟩=some (.bool true):=by refine (kh r b oM).trans ?_;rw [zAf,M];rfl
 have aH:w.cell? j=some (.int .i64 (a:Int)):=(G.cell 0).trans rfl;have bc:=f.lt;have be:=G.lt;have bg:(a:Int) < (e:Int):=oM;have bh:(b:Int) < (e:Int):=oM;have ap:j≠gt:=Bk.ne G E dC;obtain ⟨i,q⟩:=eqx (w.setCell ⟨gt,a,none⟩ (.bool false));have C:Bk i ga 173 #[.slice (some gt) e m,.slice k d o,(268435456:Int)]:=by rw [<-q];exact f.m (p:=⟨gt,a,none⟩) aq _
 have R:Bk i j 3 #[(a:Int),(b:Int)]:=by rw [<-q];exact G.m (p:=⟨gt,a,none⟩) ap _
 have Q:i.ownsRow 0 4 1 (.slice (some gt) e m) e ((tk.set a false).map Value.bool):=by rw [<-q,zGi];exact (kk r a (.bool false)).1
 have a5:i.ownsRow 0 3 1 (.slice k d o) d (fr.map sv):=by rw [<-q];exact aC a4 λz V _ g=>g.m (p:=⟨gt,a,none⟩) (Bk.ne g E dC) _
 have a0:Bk i gt 4 (B.setIfInBounds a (.bool false)):=by rw [<-q];exact E.set a _
 have N:(tk.set a false).length=e:=by rw [zAt];exact J
 have a2:(tk.set a false)[b]?=some true:=by rw [zDr aT];exact M
 have al:=qW ⟨Y,some ⟨gt,0,none⟩,m,k,o,by rw [N,y];exact C,by rw [N];exact Q,by rw [y];exact a5,by rw [N];exact P,by rw [y];exact O⟩ a2;have aB:i.cell? ga=some (.slice (some gt) e m):=(C.cell 0).trans rfl;have aD:i.cell? ⟨j,1,none⟩=some (.int .i64 (b:Int)):=(R.cell 1).trans rfl;have aE:i.cell? ⟨gt,b,none⟩=some (.bool true):=by refine (kh Q b oM).trans ?_;rw [zAf,a2];rfl
 have aK:=a0.frozen b;have ba:=C.lt;have bd:=R.lt;obtain ⟨l,u⟩:=eqx (i.setCell ⟨gt,b,none⟩ (.bool false));have D:Bk l ga 173 #[.slice (some gt) e m,.slice k d o,(268435456:Int)]:=by rw [<-u];exact C.m (p:=⟨gt,b,none⟩) aq _
 have a7:Bk l j 3 #[(a:Int),(b:Int)]:=by rw [<-u];exact R.m (p:=⟨gt,b,none⟩) ap _
 have ao:l.ownsRow 0 4 1 (.slice (some gt) e m) e (((tk.set a false).set b false).map Value.bool):=by rw [<-u,zGi];exact (kk Q b (.bool false)).1
 have a6:l.ownsRow 0 3 1 (.slice k d o) d (fr.map sv):=by rw [<-u];exact aC a5 λz V _ g=>g.m (p:=⟨gt,b,none⟩) (Bk.ne g a0 dC) _
 have Z:F gt:=OwnF.at P;have am:Keep F w l:=by rw [<-u,<-q];exact ka (F:=F) (ka (F:=F) (ke _ _) (p:=⟨gt,a,none⟩) (.inl Z) _) (p:=⟨gt,b,none⟩) (.inl Z) _
 have b7:l.cell? ⟨ga,1,none⟩=some (.slice k d o):=(D.cell 1).trans rfl;have bb:=D.lt;have an:Rd l l.heap.size 1 (some ⟨j,0,none⟩) 2 [.int .i64 (a:Int),.int .i64 (b:Int)]:=⟨rfl,λ_=>⟨j,0,rfl,a7.lt,λS bj a8=>by
  rw [zBi,a7.cell];rcases S with _ | _ | S;exact a8;exact a8
  .simp at a8⟩⟩
 obtain ⟨aw,ag,af,ad,az,au,ar,ac,ae⟩:=hqq9 D ao a6 am an u q al O;obtain ⟨U,aa,ax⟩:=hqq3 y J (bC a6 D dC);clear f r a4 P O J y E G L D a7 ao a6 am u an q al C R Q a5 a0 N M a2 aG;go_enter func208,ntmps208;go_wp2_with fail;refine wp_loop_rounds 3 ?_;rw [rounds_succ];go_wp2_with fail;refine ak.mono ?_;rintro s w1 ⟨rfl,rfl⟩;clear ak;go_wp2_with fail;rw [ar.out];clear aA aH aF aL;rw [rounds_succ];go_wp2_with fail;refine ac.out.mono ?_;rintro s bl ⟨rfl,rfl⟩;clear ac;go_wp2_with fail;rw [au.out];clear aB aD aE aK;rw [rounds_succ];go_wp2_with (at_builtin;refine bE _ rfl (.tmp 48) (.tmp 49) _ rfl 0 3 b3 (.int .i64 0) 1 8 underlying27 aP b0 b1 b2 rfl dC (.slice k d o) d _ rfl af.out _ _ _ _ _ rfl az.out (by simp [Value.oneCell']) (by unfold maxLen;omega) oM (zAp _) ?_;intro bk a9 a3 a1 aj;have K:=aw.out.grown a1 ax.out;have b9:=K.frozen 1;have b8:=K.cell 1;obtain ⟨ay,ab,av,T⟩:=hqq4 a3 a1 aj K;obtain ⟨H,I,rfl,aW⟩:=aR a3;clear a3 a1 aj K aW);go_ret;have aS:Keep F w a9:=ad.out.grown ab.out (λS aQ=>.inl (ae.out S aQ));have aM:=T.out.set 1 (.slice H (d+2) I)
 have aY:=World.ownsRow.kept ag.out ab.out (by
  rcases hh:(Value.slice k d o).ownBlock with _ | b4
  .right;simp [Value.ownBlock]
  .right;intro s;have aI:gt=b4:=(by simpa [Value.ownBlock] using s);subst aI;rcases af.out.2 with ⟨c,_⟩|⟨ai,cap,b6,c,_,W,_⟩
   .rw [c] at hh;simp [Value.ownBlock] at hh
   .rw [c] at hh;have aJ:ai=gt:=(by simpa [Value.ownBlock] using hh);subst aJ;exact bC ag.out (t:=3) W dC rfl)
 have aZ:=aC (w':=a9.setCell ⟨ga,1,none⟩ (.slice H (d+2) I)) aY λz V _ g=>g.m (Bk.ne g T.out dC) _;have aX:=aC (w':=a9.setCell ⟨ga,1,none⟩ (.slice H (d+2) I)) ay.out λz V _ g=>g.m (Bk.ne g T.out dC) _;have bi:=ad.out.size;refine ⟨rfl,⟨.inl Y,some ⟨gt,0,none⟩,m,H,I,?_,?_,?_,?_,?_⟩,?_⟩;rw [zAt,zAt,aa.out,zAi,U.out];exact aM;rw [zAt,zAt,aa.out];exact aZ;rw [zAi,U.out,zAz];exact aX;exact OwnF.slice (.inl Z);intro z f;rw [zAi,U.out] at f;rcases av.out with x | x;exact .inl (ae.out z (x.symm.trans f));have ah:=x.symm.trans f;injection ah with ah;exact .inr oM;exact ka (F:=F) aS (p:=⟨ga,1,none⟩) (.inl Y) _
section
variable {w w' : World} {F Fa : Nat -> Prop} {gt ga cap n : Nat} {A : Option Addr} {xs : List Value} {tk tk' : List Bool} {fr fr' : List Nat} {rt v : Int}
def TX.bb (f:TX w F gt ga A cap n xs tk fr rt v) (t:∀a,w.heap.size<=a->F a) (l:∀a,Fa a->F a) (q:∀a b d,Fa a->Bk w a b d->b=173∨b=4∨b=3) (r:ArenaE w' (Gw Fa w.heap.size) ga tk' fr') (g:Keep Fa w w') (u:tk'.length=n) (x:∀j,j < n->tk'[j]?=some (decide (j∉fr'))):
 TX w' F gt ga A cap n xs tk' fr' rt v/\LK F [] w w':=by
 have k:∀a b d,Bk w a b d->b≠173->b≠4->b≠3->¬Fa a:=λa b d g m o p s=>by rcases q a b d s g with c | c | c;exact m c;exact o c;exact p c
 refine ⟨⟨f.W,⟨g.d f.rd.a (k _ _ _ f.rd.a dC dC dC),aC f.rd.row λa d _ i=>g.d i (k _ _ _ i dC dC dC)⟩,f.own,r.mono λa _ e=>?_,u,x⟩,LK.of g (λa _ c=>l a c) λa d c i=>k a _ d i dC dC dC c⟩;rcases e with e | e;exact l a e;exact t a e
end
def aMn {F gt ga cap n a e A xs tk fr rt v w} (c:TX w F gt ga A cap n xs tk fr rt v) (m:∀d,w.heap.size<=d->F d) (o:a < n) (p:a∉fr) (r:Bk w e 3 #[(a:Int)]) (q:fr.length<=1000000):
 Calls prog 208 #[ga,.slice (some e) 1 1] w λb w'=>b=.returned (.int .i64 0)/\TX w' F gt ga A cap n xs (tk.set a false) (fr++ [a]) rt v/\LK F [] w w':=by
 obtain ⟨Fa,j,k,u,l⟩:=c.V.own;refine (aFN l (by rw [c.au a o];simp [p]) r q).mono ?_;rintro b w' ⟨rfl,i,s⟩;have:=c.bb m j k i s (by rw [zAt];exact c.Y) λg f=>by
  by_cases b:g=a
  .subst b;rw [zDq (by rw [c.Y];exact f)];simp
  .rw [zDr (λt=>b t.symm),c.au g f];simp [b]
 exact ⟨rfl,this⟩
def aBn {F gt ga cap n b c k A xs tk fr rt v w} (a:TX w F gt ga A cap n xs tk fr rt v) (q:∀j,w.heap.size<=j->F j) (r:b < n) (t:b∉fr) (s:c < n) (u:c∉fr) (x:b≠c) (z:Bk w k 3 #[(b:Int),(c:Int)]) (y:fr.length<=1000000):
 Calls prog 208 #[ga,.slice (some k) 2 2] w λd w'=>d=.returned (.int .i64 0)/\TX w' F gt ga A cap n xs ((tk.set b false).set c false) (fr++ [b,c]) rt v/\LK F [] w w':=by
 obtain ⟨Fa,m,o,C,p⟩:=a.V.own;refine (aJO p (by rw [a.au b r];simp [t]) (by rw [a.au c s];simp [u]) x z y).mono ?_;rintro d w' ⟨rfl,l,B⟩;have:=a.bb q m o l B (by rw [zAt,zAt];exact a.Y) λg f=>by
  by_cases e:g=c
  .subst e;rw [zDq (by rw [zAt,a.Y];exact f)];simp
  .rw [zDr (λi=>e i.symm)];by_cases d:g=b
   .subst d;rw [zDq (by rw [a.Y];exact f)];simp
   .rw [zDr (λi=>d i.symm),a.au g f];simp [d,e]
 exact ⟨rfl,this⟩
end Go.Proofs.YtlghmcogeipojaaGreatDoor
