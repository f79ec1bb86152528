/- Lemmas of the walk. Conditions: each its own. -/
import Derived.Test.YtknjfpcdhdmghaaGreatDoorPt7
set_option linter.all false
set_option maxRecDepth 100000
set_option maxHeartbeats 4000000
namespace Go.Proofs.YtknjfpcdhdmghaaGreatDoor
open Tryz
open Go.RowKit
def aMq (f:Nat->Prop) (l m i:Nat) (q:List Value) (k:List Nat) (n o:Int) (b c:LT) (p:World) (j:Ending) (d:World):Prop:=
 ∃(a:LT) (e:List Value) (g:Nat),j=.returned (.int .i64 (a.num:Nat))/\TS d f l m e k n (wrap64 (o+g))/\g<=4/\a.In d e/\a.er=Tr.bal b.er c.er/\a.nums.Perm (i::(b.nums++c.nums))/\a.blks.Perm (b.blks++c.blks)/\ButL (i::(b.nums++c.nums)) q e/\LK f [] p d
def gT (c a b):wrap64 (wrap64 (c+a)+b)=wrap64 (c+(a+b)):=by
 unfold wrap64;omega
def LT.L.l {f} {a b:LT} (c:(LT.nd f a b).L):a.L:=by
 obtain ⟨d,e⟩:=c;rw [LT.len_nd] at e;simp only [LT.ht,LT.er,Tr.ht] at d;exact ⟨by simp only [LT.ht];omega,by omega⟩
def LT.L.r {f} {b a:LT} (c:(LT.nd f b a).L):a.L:=by
 obtain ⟨d,e⟩:=c;rw [LT.len_nd] at e;simp only [LT.ht,LT.er,Tr.ht] at d;exact ⟨by simp only [LT.ht];omega,by omega⟩
def ButL.mono {b l' c d} (g:ButL b c d) (j:∀a,a∈b->a∈l'):ButL l' c d:=λa f i e=>g a f (λk=>i (j a k)) e
def At8.nd {f g e b c d} (a:Nd f b c d) (i:ButL e f g) (k:b∉e):Nd g b c d:=by
 obtain ⟨j,n,o,l,m,a⟩:=a;exact ⟨j,n,o,l,m,i _ _ k a⟩
def aOH {c d} {e a b:LT} (f:(c::(e.nums++(LT.nd d a b).nums)).Nodup):(c::d::(e.nums++(a.nums++b.nums))).Nodup:=by
 refine (zGd ?_).1 f;rw [zDc];intro g;simp only [LT.nums,zDg,zCc];omega
def aOD (c d) (e a b:LT):(LT.nd d (.nd c e a) b).nums.Perm (c::(e.nums++(LT.nd d a b).nums)):=by
 rw [zDc];intro f;simp only [LT.nums,zDg,zCc];omega
def aOL (e c) (d a b:LT):(LT.nd c (.nd e d a) b).blks.Perm (d.blks++(LT.nd c a b).blks):=by
 simp only [LT.blks,zCo];exact .refl _
def aOG {b d c} {k g i f:LT} (j:(b::(k.nums++(LT.nd d (.nd c g i) f).nums)).Nodup):
 (d::c::(g.nums++(i.nums++f.nums))).Nodup/\b∉ [d,c]/\(∀e,e∈(LT.nd c g (.nd d i f)).nums->e≠b)/\(∀e,e∈k.nums->e∉ [d,c])/\(b::c::(k.nums++(g.nums++(LT.nd d i f).nums))).Nodup:=by
 have q:(b::(k.nums++(LT.nd d (.nd c g i) f).nums)).Perm (d::c::(g.nums++(i.nums++f.nums))++(b::k.nums)):=by rw [zDc];intro s;simp only [LT.nums,zDg,zCc];omega
 have r:(b::(k.nums++(LT.nd d (.nd c g i) f).nums)).Perm (b::c::(k.nums++(g.nums++(LT.nd d i f).nums))):=by rw [zDc];intro s;simp only [LT.nums,zDg,zCc];omega
 have n:=(q.nodup_iff).1 j;have m:=(r.nodup_iff).1 j;rw [zDb] at n;obtain ⟨p,t,o⟩:=n;refine ⟨p,λa=>o b (by simp only [zDf,zDh,or_false] at a;rcases a with a | a <;> simp [a]) b zs rfl,λe l a=>?_,λe l a=>o e (by simp only [zDf,zDh,or_false] at a;rcases a with a | a <;> simp [a]) e (by simp [l]) rfl,m⟩;subst a;rw [zDe] at m;refine m.1 ?_;simp only [LT.nums,zDf,zCp] at l⊢;rcases l with j | j | j | j | j <;> simp [j]
def aOC (d f e) (g b c a:LT):(LT.nd e (.nd d g b) (.nd f c a)).nums.Perm (d::(g.nums++(LT.nd f (.nd e b c) a).nums)):=by
 rw [zDc];intro i;simp only [LT.nums,zDg,zCc];omega
def aOK (g e d) (f b c a:LT):(LT.nd d (.nd g f b) (.nd e c a)).blks.Perm (f.blks++(LT.nd e (.nd d b c) a).blks):=by
 simp only [LT.blks,zCo];exact .refl _
def aOB {c e} {d a b:LT} (f:(LT.nd c (.nd e d a) b).L):(LT.nd c a b).L:=by
 obtain ⟨g,l⟩:=f;have i:=LT.len_nd c (.nd e d a) b;have j:=LT.len_nd e d a;have k:=LT.len_nd c a b;simp only [LT.ht,LT.er,Tr.ht] at g;refine ⟨?_,by omega⟩;simp only [LT.ht,LT.er,Tr.ht];omega
def aOI {b d c} {f b1 b2 i:LT} (g:(b::((LT.nd d f (.nd c b1 b2)).nums++i.nums)).Nodup):
 (d::c::(f.nums++(b1.nums++b2.nums))).Nodup/\b∉ [d,c]/\(∀e,e∈(LT.nd c (.nd d f b1) b2).nums->e≠b)/\(∀e,e∈i.nums->e∉ [d,c])/\(b::c::((LT.nd d f b1).nums++(b2.nums++i.nums))).Nodup:=by
 have o:(b::((LT.nd d f (.nd c b1 b2)).nums++i.nums)).Perm (d::c::(f.nums++(b1.nums++b2.nums))++(b::i.nums)):=by rw [zDc];intro q;simp only [LT.nums,zDg,zCc];omega
 have p:(b::((LT.nd d f (.nd c b1 b2)).nums++i.nums)).Perm (b::c::((LT.nd d f b1).nums++(b2.nums++i.nums))):=by rw [zDc];intro q;simp only [LT.nums,zDg,zCc];omega
 have l:=(o.nodup_iff).1 g;have k:=(p.nodup_iff).1 g;rw [zDb] at l;obtain ⟨n,r,m⟩:=l;refine ⟨n,λa=>m b (by simp only [zDf,zDh,or_false] at a;rcases a with a | a <;> simp [a]) b zs rfl,λe j a=>?_,λe j a=>m e (by simp only [zDf,zDh,or_false] at a;rcases a with a | a <;> simp [a]) e (by simp [j]) rfl,k⟩;subst a;rw [zDe] at k;refine k.1 ?_;simp only [LT.nums,zDf,zCp] at j⊢;rcases j with g |(g | g | g)| g <;> simp [g]
def aOE (b d c) (a b1 b2 e:LT):(LT.nd c (.nd d a b1) (.nd b b2 e)).nums.Perm (b::((LT.nd d a (.nd c b1 b2)).nums++e.nums)):=by
 rw [zDc];intro f;simp only [LT.nums,zDg,zCc];omega
def aOM (e c b) (a b1 b2 d:LT):(LT.nd b (.nd c a b1) (.nd e b2 d)).blks.Perm ((LT.nd c a (.nd b b1 b2)).blks++d.blks):=by
 simp only [LT.blks,zCo];exact .refl _
def aPg {b c} {a b1 b2:LT} (d:(LT.nd b a (.nd c b1 b2)).L):(LT.nd b a b1).L:=by
 obtain ⟨e,j⟩:=d;have f:=LT.len_nd b a (.nd c b1 b2);have g:=LT.len_nd c b1 b2;have i:=LT.len_nd b a b1;simp only [LT.ht,LT.er,Tr.ht] at e;refine ⟨?_,by omega⟩;simp only [LT.ht,LT.er,Tr.ht];omega
def aOJ {c d} {a b e:LT} (g:(c::((LT.nd d a b).nums++e.nums)).Nodup):(c::d::(a.nums++(b.nums++e.nums))).Nodup:=by
 have f:c::((LT.nd d a b).nums++e.nums)=c::d::(a.nums++(b.nums++e.nums)):=by simp [LT.nums]
 rwa [f] at g
def aOF (c d) (a b e:LT):(LT.nd d a (.nd c b e)).nums.Perm (c::((LT.nd d a b).nums++e.nums)):=by
 rw [zDc];intro f;simp only [LT.nums,zDg,zCc];omega
def aON (e c) (a b d:LT):(LT.nd c a (.nd e b d)).blks.Perm ((LT.nd c a b).blks++d.blks):=by
 simp only [LT.blks,zCo];exact .refl _
def zP {p e q m U u t N} {B E:LT} {Q} (J:TS Q p e q U u t N) (am:Nd U m B.num E.num) (bO:B.In Q U) (bQ:E.In Q U) (b7:(m::(B.nums++E.nums)).Nodup) (eb:B.L) (ec:E.L):
 Calls prog 258 #[e,(m:Int)] Q (aMq p e q m U u t N B E Q):=by
 obtain ⟨fg,fn,fo,fl,fm,am⟩:=am;obtain ⟨a1,dx⟩:=eqx B.ht;obtain ⟨a2,dz⟩:=eqx E.ht;obtain ⟨dB,bP⟩:=eqx B.num;obtain ⟨dD,dA⟩:=eqx E.num;have du:∀S,S∈B.nums->S≠m:=λS a6 I=>by rw [zDe] at b7;exact b7.1 (by rw [<-I];simp [a6])
 have dv:∀S,S∈E.nums->S≠m:=λS a6 I=>by rw [zDe] at b7;exact b7.1 (by rw [<-I];simp [a6])
 obtain ⟨ci,cj,ck,cl,cE,a3⟩:=bO.R;obtain ⟨cm,b1,cn,co,cF,a4⟩:=bQ.R;have e0:=B.on_le;have e1:=E.on_le;obtain ⟨dE,dF⟩:=eb;obtain ⟨dG,dH⟩:=ec;have dt:=kG (F:=p) (gt:=e) (n:=q) (k:=m) (l:=B.num) (r:=E.num) (hl:=B.ht) (hr:=E.ht) (nl:=B.len) (nr:=E.len) (ol:=B.on) (or_:=E.on) (xs:=U) (fr:=u) (rt:=t) (v:=N) (w:=Q) J am a3 a4 oM oM oM oM oM oM;obtain ⟨cT,d1,bc,az,cR,cS,bM,aI,aK⟩:=hqq9 bO bQ a3 a4 du dv b7 dx dz;obtain ⟨cg,ch,d9,aA,aC⟩:=hqq5 bP dA dt (show B.L from ⟨dE,dF⟩) (show E.L from ⟨dG,dH⟩);have eg:a1<=100000:=oM;have eh:a2<=100000:=oM;clear bO bQ a3 a4 du dv b7 dx dz bP dA dt J am e0 e1 dE dF dG dH;go_enter func258,ntmps258;go_wp2_with fail;refine d9.out.mono ?_;rintro I w1 ⟨rfl,K,ed,bv,bW,bS,_⟩;clear d9;have dw:B.In w1 K:=cT.out.but (bW.l (zDa.2 rfl)) bS (λS a6 I=>cR.out S a6 (zDa.1 I)) (by simp);have dy:E.In w1 K:=d1.out.but (bW.l (zDa.2 rfl)) bS (λS a6 I=>cS.out S a6 (zDa.1 I)) (by simp);obtain ⟨cv,cQ,ar,cK,R⟩:=ed;obtain ⟨D,da,rfl,aD⟩:=R.rd.ex (by have:=bv.lt R.rd.len;omega);have dN:=R.rd.c1;have dX:=R.rd.a.lt;have dU:=aD.lt;have fk:(m:Int) < (q:Int):=by have:=bv.lt R.rd.len;omega
 obtain ⟨dJ,dK,_⟩:=R.rd.at bv;rw [cg.out] at dJ;rw [ch.out] at dK;obtain ⟨d6,bd,bi,cY,cU,d2⟩:=hqq6 (show TS w1 p e q K u t N from ⟨cv,_,ar,cK,R⟩) bv bW bS dw dy;clear bv bW bS dw dy R aD cT d1 bc az;go_wp2_with fail;go_quiet (fail);have ds:=d6.out.below ((km (kg w1.heap.size w1) nq));have dq:=cY.out.trans (LK.below (F:=p) (bl:= []) (km (kg w1.heap.size w1) nq));have dp:=cU.out.below (km (kg w1.heap.size w1) nq);have dr:=d2.out.below (km (kg w1.heap.size w1) nq);clear dN dJ dK dX dU d6 cY cU d2;generalize w1.drewN nq=w2 at*
 obtain ⟨d7,cZ,bX,c3⟩:=hqq4 ds dq dp dr;clear ds dq dp dr;go_wp2_with fail;obtain ⟨ci,cj,ck,cl,cE,a3⟩:=bX.out.R;obtain ⟨cm,b1,cn,co,cF,a4⟩:=c3.out.R;rw [cg.out,aI.out] at a3;rw [ch.out,aK.out] at a4;have az:=lhd a4;refine (nP (F:=p) (gt:=e) (n:=q) (k:=dB) (hk:=a1) (xs:=K) (fr:=u) (rt:=t) (v:=N) (w:=w2) d7.out a3).mono ?_;rintro I ef ⟨rfl,dI,bU,_⟩;obtain ⟨d8,d0,cV,d3⟩:=hqq4 dI (cZ.out.trans bU) (bX.out.but (ButL.refl [] _) bU (by simp) (by simp)) (c3.out.but (ButL.refl [] _) bU (by simp) (by simp));clear dI bU a3 a4;go_wp2_with fail;refine (nP (F:=p) (gt:=e) (n:=q) (k:=dD) (hk:=a2) (xs:=K) (fr:=u) (rt:=t) (w:=ef) d8.out az.out).mono ?_;rintro I ae ⟨rfl,cI,bV,_⟩;rw [gT,show (1:Int)+1=2 from rfl] at cI;obtain ⟨bg,c1,bY,c4⟩:=hqq4 cI (d0.out.trans bV) (cV.out.but (ButL.refl [] _) bV (by simp) (by simp)) (d3.out.but (ButL.refl [] _) bV (by simp) (by simp));clear cI bV az cV d3 bX c3 d7 d8 cZ d0;have fj:wrap64 ((a1:Int) -(a2:Int))=(a1:Int) - a2:=by unfold wrap64;omega
 by_cases fh:a2+1 < a1
 .have dR:decide ((a1:Int) - a2 > 1)=true:=zBz oM;obtain ⟨A,y,x,rfl⟩:∃A y x,B=LT.nd A y x:=by
   cases B with
   | lf m a5 x=>
    have I:0=a1:=aI.out;omega
   | nd A y x=>exact ⟨A,y,x,rfl⟩
  obtain rfl:A=dB:=cg.out;obtain ⟨ap,aT⟩:=eqx y.num;obtain ⟨aq,aV⟩:=eqx x.num;obtain ⟨V,aS⟩:=eqx y.ht;obtain ⟨W,aU⟩:=eqx x.ht;obtain ⟨ao,aW,aX⟩:=bY.out;obtain ⟨ci,cj,ck,cl,cE,a3⟩:=aW.R;obtain ⟨cm,H,cn,co,cF,a4⟩:=aX.R;rw [aT,aS] at a3;rw [aV,aU] at a4;obtain ⟨cv,cQ,ar,cK,R⟩:=bg.out;obtain ⟨D,da,rfl,aD⟩:=R.rd.ex (by have:=ao.lt R.rd.len;omega);have bP:(A:Int) < (q:Int):=(by have:=ao.lt R.rd.len;omega);obtain ⟨c8,bc,az,aG,bK,bL,b4,b5,cc⟩:=hqq9 R a3 a4 (show At8 K A (ndL y.num x.num _ _ _ _ _) from ao) aT aV aS aU aW;have cd:=lhd aX;have dY:=R.rd.a.lt;have dV:=aD.lt;have dn:∀o,VisK (λx=>x=e) ae o->o.cell? ⟨e,1,none⟩=some (.slice (some D) q ar)/\o.cell? ⟨D,A*8,none⟩=some (.int .i64 (ap:Int))/\o.cell? ⟨D,A*8+1,none⟩=some (.int .i64 (aq:Int)):=λo J=>by obtain ⟨a0,bE⟩:=c8.out.rd.b J.1;obtain ⟨ay,ad,_⟩:=bE.at aG.out;rw [bK.out] at ay;rw [bL.out] at ad;exact ⟨bE.c1,ay,ad⟩
  have bI:=lhd dn;clear aW aX a3 a4 ao aT aV aS aU R aD dn;go_wp2_with fail;refine wp_region_any kR ?_;refine qX (C:=(VisK (λaa=>aa=e) ae)) (pre:=(λo=>TS o p e q K u t (wrap64 (N+2))/\LK p [] ae o)) 19 [37,38,39,40,41,42,43,44,45,46,47,48,49,50,51,52,53,54,55] (VisK (λaa=>aa=e)) 9 (λa0 o=>a0=.int .i64 (V:Int)/\TS o p e q K u t (wrap64 (N+3))/\LK p [] ae o) [is e,is e,is e,is (.pointer (some ⟨e,1,none⟩)),is (.slice (some D) q ar),is (A:Int),is (.pointer (some ⟨D,A*8,none⟩)),is (.pointer (some ⟨D,A*8,none⟩)),is (ap:Int),cO,is e,is e,is e,is (.pointer (some ⟨e,1,none⟩)),is (.slice (some D) q ar),is (A:Int),is (.pointer (some ⟨D,A*8,none⟩)),is (.pointer (some ⟨D,A*8+1,none⟩)),is (aq:Int)] _ rfl dC kR kR (kc (bR.drew)) (⟨bg.out.below (bR.drew),LK.below (bR.drew)⟩) (λ_ _ J m=>J.trans (m.elim (λa5=>kc a5) id)) (λ_ _ J m=>⟨J.1.below m,J.2.trans (LK.below m)⟩) (λ_ _ _ ⟨aN,aO,cy⟩ m=>⟨aN,aO.below m,cy.trans (LK.below m)⟩) tA4 ?_ ?_
  .refine bB ?_;refine sC3 (λs _ _ _ _ _ z _ _ _ _ d=>?_) ?_
   .have af:s (.tmp 0)=.pointer (some e):=z 0 kR;go_simp;exact d _ _ (aJ bR rfl) rfl
   refine sC3 (λs _ _ _ _ _ z _ _ _ _ d=>?_) ?_
   .have af:s (.tmp 0)=.pointer (some e):=z 0 kR;go_simp;exact d _ _ (aJ bR rfl) rfl
   refine sC3 (λ_ _ _ _ _ _ _ g _ _ _ d=>?_) ?_
   .have em:_=_:=g 1 38 kR rfl;go_simp;exact d _ _ (aJ bR rfl) rfl
   refine sC3 (λ_ _ _ _ _ _ _ g _ _ _ d=>?_) ?_
   .have en:_=_:=g 2 39 kR rfl;go_simp;exact d _ _ (aJ bR rfl) rfl
   refine sC3 (λ_ _ X _ _ _ _ g _ _ _ d=>?_) ?_
   .have eo:_=_:=g 3 40 kR rfl;obtain ⟨ad,b2,b3⟩:=bI.out _ X;go_simp;exact d _ _ (aJ bR rfl) rfl
   refine sC3 (λs _ _ _ _ _ z _ _ _ _ d=>?_) ?_
   .have df:s (.tmp 5)=.int .i64 (A:Int):=z 5 kR;go_simp;exact d _ _ (aJ bR rfl) rfl
   refine sC3 (λ_ _ _ _ _ _ _ g _ _ _ d=>?_) ?_
   .have ep:_=_:=g 4 41 kR rfl;have eq:_=_:=g 5 42 kR rfl;go_simp;exact d _ _ (aJ bR rfl) rfl
   refine sC3 (λ_ _ _ _ _ _ _ g _ _ _ d=>?_) ?_
   .have es:_=_:=g 6 43 kR rfl;go_simp;exact d _ _ (aJ bR rfl) rfl
   refine sC3 (λ_ _ X _ _ _ _ g _ _ _ d=>?_) ?_
   .have et:_=_:=g 7 44 kR rfl;obtain ⟨ad,b2,b3⟩:=bI.out _ X;go_simp;exact d _ _ (aJ bR rfl) rfl
   refine sC3 (λ_ o _ aP _ _ _ g _ _ _ d=>?_) ?_
   .have Y:(λo=>TS o p e q K u t (wrap64 (N+2))/\LK p [] ae o) o:=aP rfl;have el:_=_:=g 0 37 kR rfl;have eu:_=_:=g 8 45 kR rfl;go_simp;refine (nP (F:=p) (gt:=e) (n:=q) (k:=ap) (hk:=V) (xs:=K) (fr:=u) (rt:=t) (w:=o) Y.1 bc.out).mono ?_;rintro I ac ⟨rfl,ak,T,cM⟩;rw [gT,show (2:Int)+1=3 from rfl] at ak;exact d _ _ (uG cM) ⟨rfl,ak,Y.2.trans T⟩
   refine sC3 (λs _ _ _ _ _ z _ _ _ _ d=>?_) ?_
   .have af:s (.tmp 0)=.pointer (some e):=z 0 kR;go_simp;exact d _ _ (aJ bR rfl) rfl
   refine sC3 (λs _ _ _ _ _ z _ _ _ _ d=>?_) ?_
   .have af:s (.tmp 0)=.pointer (some e):=z 0 kR;go_simp;exact d _ _ (aJ bR rfl) rfl
   refine sC3 (λ_ _ _ _ _ _ _ g _ _ _ d=>?_) ?_
   .have ev:_=_:=g 11 48 kR rfl;go_simp;exact d _ _ (aJ bR rfl) rfl
   refine sC3 (λ_ _ _ _ _ _ _ g _ _ _ d=>?_) ?_
   .have ew:_=_:=g 12 49 kR rfl;go_simp;exact d _ _ (aJ bR rfl) rfl
   refine sC3 (λ_ _ X _ _ _ _ g _ _ _ d=>?_) ?_
   .have ey:_=_:=g 13 50 kR rfl;obtain ⟨ad,b2,b3⟩:=bI.out _ X;go_simp;exact d _ _ (aJ bR rfl) rfl
   refine sC3 (λs _ _ _ _ _ z _ _ _ _ d=>?_) ?_
   .have df:s (.tmp 5)=.int .i64 (A:Int):=z 5 kR;go_simp;exact d _ _ (aJ bR rfl) rfl
   refine sC3 (λ_ _ _ _ _ _ _ g _ _ _ d=>?_) ?_
   .have ez:_=_:=g 14 51 kR rfl;have eA:_=_:=g 15 52 kR rfl;go_simp;exact d _ _ (aJ bR rfl) rfl
   refine sC3 (λ_ _ _ _ _ _ _ g _ _ _ d=>?_) ?_
   .have eB:_=_:=g 16 53 kR rfl;go_simp;exact d _ _ (aJ bR rfl) rfl
   refine sC3 (λ_ _ X _ _ _ _ g _ _ _ d=>?_) ?_
   .have eC:_=_:=g 17 54 kR rfl;obtain ⟨ad,b2,b3⟩:=bI.out _ X;go_simp;exact d _ _ (aJ bR rfl) rfl
   exact aB
  .intro s Z L au g;have e8:(λa0 o=>a0=.int .i64 (V:Int)/\TS o p e q K u t (wrap64 (N+3))/\LK p [] ae o) (s (.tmp 46)) Z:=g 9 46 dC rfl;have de:s (.tmp 47)=.pointer (some e):=g 10 47 dC rfl;have dg:s (.tmp 55)=.int .i64 (aq:Int):=g 18 55 dC rfl;simp only [zqq];clear g;obtain ⟨dd,bC,ai⟩:=e8;rw [dd,de,dg];obtain ⟨bh,be,b8,ba,d4⟩:=hqq5 bC (c1.out.trans ai) (cc.out.but (ButL.refl [] _) ai (by simp) (by simp)) (cd.out.but (ButL.refl [] _) ai (by simp) (by simp)) (c4.out.but (ButL.refl [] _) ai (by simp) (by simp));clear bC ai dd de dg au;change wpAny prog Region.Mode.any _ _ (2+L) (bT 19 21) _ Z;rw [show 2+L=(L+1)+1 by omega];refine aY (f:=L+1) (i:=19) kR ?_;refine bJ rfl rfl ?_;generalize d:wpAny prog _ _ _ (L+1) _=K5;go_simp;refine (nP (F:=p) (gt:=e) (n:=q) (k:=aq) (hk:=W) (xs:=K) (fr:=u) (rt:=t) (w:=Z) bh.out az.out).mono ?_;rintro I a8 ⟨rfl,b0,aj,_⟩;rw [gT,show (3:Int)+1=4 from rfl] at b0;obtain ⟨aH,bf,b9,bb,d5⟩:=hqq5 b0 (be.out.trans aj) (b8.out.but (ButL.refl [] _) aj (by simp) (by simp)) (ba.out.but (ButL.refl [] _) aj (by simp) (by simp)) (d4.out.but (ButL.refl [] _) aj (by simp) (by simp));clear b0 aj b8 ba d4 be bh;subst d;refine aY (f:=L) (i:=20) kR ?_;refine bJ rfl rfl ?_;generalize d:wpAny prog _ _ _ L _=K5;go_simp;subst d;refine bG kR ?_;by_cases bn:V < W
   .have ct:decide ((V:Int) < (W:Int))=true:=zBz oM;have cu:decide (V < W)=true:=zBz bn;obtain ⟨P,H,M,rfl⟩:∃P H M,x=LT.nd P H M:=by
     cases x with
     | lf S a5 x=>
      have I:0=W:=b5.out;omega
     | nd P H M=>exact ⟨P,H,M,rfl⟩
    obtain rfl:P=aq:=bL.out;obtain ⟨bj,bt,bu⟩:=bb.out;obtain ⟨bp,bq⟩:=aOI bM.out;obtain ⟨cx,dM,aM,ee,av⟩:=aH.out;obtain ⟨D,dQ,rfl,bo⟩:=av.rd.ex oM;obtain ⟨c9,c0,ce,cf,cb,an⟩:=hqq6 av bj bt bu bp bq;have dW:=bo.lt;have dZ:=av.rd.a.lt;clear bt bu bj av bo bp bq;go_wp2_with fail;refine wp_region_any kR ?_;refine qX (C:=(λo=>Bk o e 233 #[cx,.slice (some D) q aM,(t:Int),(wrap64 (N+4):Int)])) (pre:=(λo=>TS o p e q K u t (wrap64 (N+4))/\LK p [] a8 o/\KT e a8 o)) 10 [58,59,60,61,62,63,64,65,66,67] (KT e) 7 (λa0 o=>a0=.int .i64 (P:Int)/\TurnP p e q A P K u t (wrap64 (N+4)) (.nd P (.nd A y H) M) a8 o) [is e,is e,is (.pointer (some ⟨e,1,none⟩)),is (.slice (some D) q aM),is (m:Int),is e,is (A:Int),cO,is (.pointer (some ⟨D,m*8,none⟩)),is (.pointer (some ⟨D,m*8,none⟩))] _ rfl dC kR kR (c9.out.rd.a.drew) (⟨aH.out.below (bR.drew),LK.below (bR.drew),KT.below (bR.drew)⟩) (λ_ _ J m=>m.elim (λa5=>J.below a5 J.lt) (λa5=>a5 _ J)) (λ_ _ J m=>⟨J.1.below m,J.2.1.trans (LK.below m),J.2.2.trans (KT.below m)⟩) (λ_ _ _ ⟨aN,aO⟩ m=>⟨aN,aO.below m⟩) tA4 ?_ ?_
    .refine bB ?_;refine sC3 (λs _ _ _ _ _ z _ _ _ _ d=>?_) ?_
     .have af:s (.tmp 0)=.pointer (some e):=z 0 kR;go_simp;exact d _ _ (aJ bR rfl) rfl
     refine sC3 (λ_ _ _ _ _ _ _ g _ _ _ d=>?_) ?_
     .have eD:_=_:=g 0 58 kR rfl;go_simp;exact d _ _ (aJ bR rfl) rfl
     refine sC3 (λ_ _ _ _ _ _ _ g _ _ _ d=>?_) ?_
     .have eE:_=_:=g 1 59 kR rfl;go_simp;exact d _ _ (aJ bR rfl) rfl
     refine sC3 (λ_ o X _ _ _ _ g _ _ _ d=>?_) ?_
     .have eF:_=_:=g 2 60 kR rfl;have dO:o.cell? ⟨e,1,none⟩=some (.slice (some D) q aM):=(X.cell 1).trans rfl;go_simp;exact d _ _ (aJ bR rfl) rfl
     refine sC3 (λs _ _ _ _ _ z _ _ _ _ d=>?_) ?_
     .have b6:s (.tmp 1)=.int .i64 (m:Int):=z 1 kR;go_simp;exact d _ _ (aJ bR rfl) rfl
     refine sC3 (λs _ _ _ _ _ z _ _ _ _ d=>?_) ?_
     .have af:s (.tmp 0)=.pointer (some e):=z 0 kR;go_simp;exact d _ _ (aJ bR rfl) rfl
     refine sC3 (λs _ _ _ _ _ z _ _ _ _ d=>?_) ?_
     .have df:s (.tmp 5)=.int .i64 (A:Int):=z 5 kR;go_simp;exact d _ _ (aJ bR rfl) rfl
     refine sC3 (λ_ o _ aP _ _ _ g aL _ _ d=>?_) ?_
     .have Y:(λo=>TS o p e q K u t (wrap64 (N+4))/\LK p [] a8 o/\KT e a8 o) o:=aP rfl;have eI:_=_:=g 5 63 kR rfl;have eJ:_=_:=g 6 64 kR rfl;go_simp;refine (xE (F:=p) (gt:=e) (n:=q) (k:=A) (kl:=P) (xs:=K) (fr:=u) (rt:=t) (a:=y) (b:=H) (c:=M) (w:=o) Y.1 ⟨_,_,_,_,_,aG.out⟩ ⟨_,_,_,_,_,c0.out⟩ (b9.out.but (ButL.refl [] _) Y.2.1 (by simp) (by simp)) (ce.out.but (ButL.refl [] _) Y.2.1 (by simp) (by simp)) (cf.out.but (ButL.refl [] _) Y.2.1 (by simp) (by simp)) cb.out aA.out.l aA.out.r.l aA.out.r.r).mono ?_;rintro I ac ⟨rfl,bm⟩;have cD:KT e o ac:=(by obtain ⟨_,_,_,_,_,cB⟩:=bm;exact cB);exact d _ _ (uG cD) ⟨rfl,bm.from Y.2.1 Y.2.2⟩
     refine sC3 (λ_ _ _ _ _ _ _ g _ _ _ d=>?_) ?_
     .have eG:_=_:=g 3 61 kR rfl;have eH:_=_:=g 4 62 kR rfl;go_simp;exact d _ _ (aJ bR rfl) rfl
     refine sC3 (λ_ _ _ _ _ _ _ g _ _ _ d=>?_) ?_
     .have eK:_=_:=g 8 66 kR rfl;go_simp;exact d _ _ (aJ bR rfl) rfl
     exact aB
    .intro s Z L au g;have e9:(λa0 o=>a0=.int .i64 (P:Int)/\TurnP p e q A P K u t (wrap64 (N+4)) (.nd P (.nd A y H) M) a8 o) (s (.tmp 65)) Z:=g 7 65 dC rfl;have di:s (.tmp 67)=.pointer (some ⟨D,m*8,none⟩):=g 9 67 dC rfl;simp only [zqq];clear g;obtain ⟨dh,cz⟩:=e9;rw [dh,di];obtain ⟨al,cJ,br,ax,aZ,cC⟩:=cz;obtain ⟨cw,dL,cp,cL,ab⟩:=cJ;have a9:=ab.rd.c1.symm.trans ((au.cell 1).trans rfl);injection a9 with a9;injection a9 with a9 _ e7;subst a9 e7;obtain ⟨dP,aw⟩:=fE ab.rd.row;have ag:Nd al m A E.num:=⟨_,_,_,_,_,ax _ _ an.out.1 bd.out⟩;obtain ⟨dT,e4,e5,e2,e3,ag⟩:=ag;obtain ⟨ay,_⟩:=ab.rd.at ag;have cs:=aw.frozen (m*8);have cA:=aw.lt;obtain ⟨bk,aQ⟩:=eqx (Z.setCell ⟨D,m*8,none⟩ (.int .i64 (P:Int)));have aR:=ab.put (m*8) (.int .i64 (P:Int));have T:LK p [] Z (Z.setCell ⟨D,m*8,none⟩ (.int .i64 (P:Int))):=LK.set aw dC (OwnF.at ab.own) _;have a7:ButL [m] al (al.set (m*8) (.int .i64 (P:Int))):=(But8.set m al (j:=0) oM _).l (by simp);have bw:Nd (al.set (m*8) (.int .i64 (P:Int))) m P E.num:=⟨_,_,_,_,_,ag.set (j:=0) oM (.int .i64 (P:Int))⟩;rw [aQ] at aR T;have ah:=br.but a7 T (λS a6 I=>an.out.2.1 S a6 (zDa.1 I)) (by simp);have bz:=(d5.out.but ax aZ an.out.2.2.1 (by simp)).but a7 T (λS a6 I=>cS.out S a6 (zDa.1 I)) (by simp);obtain ⟨ca,c2⟩:=hqq2 (show TS bk p e q _ u t _ from ⟨cw,_,cp,cL,aR⟩) (aZ.trans T);have c6:=lhd ((bi.out.l (l:=m::((LT.nd A y (.nd P H M)).nums++E.nums)) (by simp)).trans ((ax.mono (by simp [LT.nums])).trans (a7.mono (by simp))));obtain ⟨bZ,aF,c5,c7⟩:=hqq4 bw ah bz aQ;clear ab aw ag aR T a7 bw ah bz aQ br ax aZ cC au dh di;change wpAny prog Region.Mode.any _ _ (1+L) (bT 10 11) _ Z;rw [zCt 1 L];refine aY (f:=L) (i:=10) kR ?_;refine bJ rfl rfl ?_;generalize d:wpAny prog _ _ _ L _=K5;go_simp;subst d;refine bG kR ?_;rw [c7.out];clear ay cs cA;go_wp2_with fail;have bA:=aA.out;refine (xD (F:=p) (gt:=e) (n:=q) (k:=m) (kl:=P) (fr:=u) (rt:=t) (a:=(.nd A y H)) (b:=M) (c:=E) (w:=bk) ca.out bZ.out aF.out.nd aF.out.2.1 aF.out.2.2 c5.out an.out.2.2.2 (aPg bA) bA.r.r aC.out).mono ?_;rintro I ac ⟨rfl,cP,bD,bs,bF,bx,_⟩
     have aE:=lhd (show aMq p e q m U u t N (LT.nd A y (.nd P H M)) E Q (.returned (.int .i64 ((P:Nat):Int))) ac from ⟨.nd P (.nd A y H) (.nd m M E),cP,4,rfl,bD,by omega,bs,by
      show Tr.nd (Tr.nd y.er H.er) (Tr.nd M.er E.er)=Tr.bal (Tr.nd y.er (Tr.nd H.er M.er)) E.er;have b6:(Tr.nd y.er (Tr.nd H.er M.er)).ht=a1:=aI.out;have bN:E.er.ht=a2:=aK.out;have cq:y.er.ht=V:=b4.out;have cr:(Tr.nd H.er M.er).ht=W:=b5.out;unfold Tr.bal;rw [zBx oM];simp only [Tr.balL];rw [zBx oM];rfl,aOE ..,aOM ..,c6.out.trans (bF.mono (by simp [LT.nums])),(bf.out.trans c2.out).trans bx⟩)
     clear bD bs bF bx;go_wp2_with fail;go_ret;exact aE.out
   .have ct:decide ((V:Int) < (W:Int))=false:=zBy oM;have cu:decide (V < W)=false:=zBy bn;go_wp2_with fail;obtain ⟨cG,cH⟩:=And.intro aA.out.l aA.out.r;refine (xD (F:=p) (gt:=e) (n:=q) (k:=m) (kl:=A) (xs:=K) (fr:=u) (rt:=t) (a:=y) (b:=x) (c:=E) (w:=a8) aH.out ⟨_,_,_,_,_,bd.out⟩ ⟨_,_,_,_,_,aG.out⟩ b9.out bb.out d5.out (aOJ bM.out) cG cH aC.out).mono ?_;rintro I ac ⟨rfl,cN,ak,ah,a7,T,_⟩
    have aE:=lhd (show aMq p e q m U u t N (LT.nd A y x) E Q (.returned (.int .i64 ((A:Nat):Int))) ac from ⟨.nd A y (.nd m x E),cN,4,rfl,ak,by omega,ah,by
     show Tr.nd y.er (Tr.nd x.er E.er)=Tr.bal (Tr.nd y.er x.er) E.er;have b6:(Tr.nd y.er x.er).ht=a1:=aI.out;have bN:E.er.ht=a2:=aK.out;have cq:y.er.ht=V:=b4.out;have cr:x.er.ht=W:=b5.out;unfold Tr.bal;rw [zBx oM];simp only [Tr.balL];rw [zBw oM];rfl,aOF ..,aON ..,(bi.out.l (by simp)).trans (a7.mono (by simp [LT.nums])),bf.out.trans T⟩)
    clear ak ah a7 T;go_wp2_with fail;go_ret;exact aE.out
 .have dR:decide ((a1:Int) - a2 > 1)=false:=zBy oM;by_cases fi:a1+1 < a2
  .have dS:decide ((a1:Int) - a2 < -1)=true:=zBz oM
   obtain ⟨G,y,x,rfl⟩:∃G y x,E=LT.nd G y x:=by
    cases E with
    | lf m a5 x=>
     have I:0=a2:=aK.out;omega
    | nd G y x=>exact ⟨G,y,x,rfl⟩
   obtain rfl:G=dD:=ch.out;obtain ⟨ap,aT⟩:=eqx y.num;obtain ⟨aq,aV⟩:=eqx x.num;obtain ⟨V,aS⟩:=eqx y.ht;obtain ⟨W,aU⟩:=eqx x.ht;obtain ⟨ao,aW,aX⟩:=c4.out;obtain ⟨ci,cj,ck,cl,cE,a3⟩:=aW.R;obtain ⟨cm,H,cn,co,cF,a4⟩:=aX.R;rw [aT,aS] at a3;rw [aV,aU] at a4;obtain ⟨cv,cQ,ar,cK,R⟩:=bg.out;obtain ⟨D,da,rfl,aD⟩:=R.rd.ex (by have:=ao.lt R.rd.len;omega);have bP:(G:Int) < (q:Int):=(by have:=ao.lt R.rd.len;omega);obtain ⟨c8,bc,az,aG,bK,bL,b4,b5,cc⟩:=hqq9 R a3 a4 (show At8 K G (ndL y.num x.num _ _ _ _ _) from ao) aT aV aS aU aW;have cd:=lhd aX;have dY:=R.rd.a.lt;have dV:=aD.lt;have dm:∀o,VisK (λx=>x=e) ae o->o.cell? ⟨e,1,none⟩=some (.slice (some D) q ar)/\o.cell? ⟨D,G*8,none⟩=some (.int .i64 (ap:Int))/\o.cell? ⟨D,G*8+1,none⟩=some (.int .i64 (aq:Int)):=λo J=>by obtain ⟨a0,bE⟩:=c8.out.rd.b J.1;obtain ⟨ay,ad,_⟩:=bE.at aG.out;rw [bK.out] at ay;rw [bL.out] at ad;exact ⟨bE.c1,ay,ad⟩
   have bH:=lhd dm;clear aW aX a3 a4 ao aT aV aS aU R aD dm;go_wp2_with fail;refine wp_region_any kR ?_;refine qX (C:=(VisK (λaa=>aa=e) ae)) (pre:=(λo=>TS o p e q K u t (wrap64 (N+2))/\LK p [] ae o)) 19 [74,75,76,77,78,79,80,81,82,83,84,85,86,87,88,89,90,91,92] (VisK (λaa=>aa=e)) 9 (λa0 o=>a0=.int .i64 (W:Int)/\TS o p e q K u t (wrap64 (N+3))/\LK p [] ae o) [is e,is e,is e,is (.pointer (some ⟨e,1,none⟩)),is (.slice (some D) q ar),is (G:Int),is (.pointer (some ⟨D,G*8,none⟩)),is (.pointer (some ⟨D,G*8+1,none⟩)),is (aq:Int),cO,is e,is e,is e,is (.pointer (some ⟨e,1,none⟩)),is (.slice (some D) q ar),is (G:Int),is (.pointer (some ⟨D,G*8,none⟩)),is (.pointer (some ⟨D,G*8,none⟩)),is (ap:Int)] _ rfl dC kR kR (kc (bR.drew)) (⟨bg.out.below (bR.drew),LK.below (bR.drew)⟩) (λ_ _ J m=>J.trans (m.elim (λa5=>kc a5) id)) (λ_ _ J m=>⟨J.1.below m,J.2.trans (LK.below m)⟩) (λ_ _ _ ⟨aN,aO,cy⟩ m=>⟨aN,aO.below m,cy.trans (LK.below m)⟩) tA4 ?_ ?_
   .refine bB ?_;refine sC3 (λs _ _ _ _ _ z _ _ _ _ d=>?_) ?_
    .have af:s (.tmp 0)=.pointer (some e):=z 0 kR;go_simp;exact d _ _ (aJ bR rfl) rfl
    refine sC3 (λs _ _ _ _ _ z _ _ _ _ d=>?_) ?_
    .have af:s (.tmp 0)=.pointer (some e):=z 0 kR;go_simp;exact d _ _ (aJ bR rfl) rfl
    refine sC3 (λ_ _ _ _ _ _ _ g _ _ _ d=>?_) ?_
    .have eM:_=_:=g 1 75 kR rfl;go_simp;exact d _ _ (aJ bR rfl) rfl
    refine sC3 (λ_ _ _ _ _ _ _ g _ _ _ d=>?_) ?_
    .have eN:_=_:=g 2 76 kR rfl;go_simp;exact d _ _ (aJ bR rfl) rfl
    refine sC3 (λ_ _ X _ _ _ _ g _ _ _ d=>?_) ?_
    .have eO:_=_:=g 3 77 kR rfl;obtain ⟨ad,b2,b3⟩:=bH.out _ X;go_simp;exact d _ _ (aJ bR rfl) rfl
    refine sC3 (λs _ _ _ _ _ z _ _ _ _ d=>?_) ?_
    .have a9:s (.tmp 6)=.int .i64 (G:Int):=z 6 kR;go_simp;exact d _ _ (aJ bR rfl) rfl
    refine sC3 (λ_ _ _ _ _ _ _ g _ _ _ d=>?_) ?_
    .have eP:_=_:=g 4 78 kR rfl;have eQ:_=_:=g 5 79 kR rfl;go_simp;exact d _ _ (aJ bR rfl) rfl
    refine sC3 (λ_ _ _ _ _ _ _ g _ _ _ d=>?_) ?_
    .have eR:_=_:=g 6 80 kR rfl;go_simp;exact d _ _ (aJ bR rfl) rfl
    refine sC3 (λ_ _ X _ _ _ _ g _ _ _ d=>?_) ?_
    .have eS:_=_:=g 7 81 kR rfl;obtain ⟨ad,b2,b3⟩:=bH.out _ X;go_simp;exact d _ _ (aJ bR rfl) rfl
    refine sC3 (λ_ o _ aP _ _ _ g _ _ _ d=>?_) ?_
    .have Y:(λo=>TS o p e q K u t (wrap64 (N+2))/\LK p [] ae o) o:=aP rfl;have eL:_=_:=g 0 74 kR rfl;have eT:_=_:=g 8 82 kR rfl;go_simp;refine (nP (F:=p) (gt:=e) (n:=q) (k:=aq) (hk:=W) (xs:=K) (fr:=u) (rt:=t) (w:=o) Y.1 az.out).mono ?_;rintro I ac ⟨rfl,ak,T,cM⟩;rw [gT,show (2:Int)+1=3 from rfl] at ak;exact d _ _ (uG cM) ⟨rfl,ak,Y.2.trans T⟩
    refine sC3 (λs _ _ _ _ _ z _ _ _ _ d=>?_) ?_
    .have af:s (.tmp 0)=.pointer (some e):=z 0 kR;go_simp;exact d _ _ (aJ bR rfl) rfl
    refine sC3 (λs _ _ _ _ _ z _ _ _ _ d=>?_) ?_
    .have af:s (.tmp 0)=.pointer (some e):=z 0 kR;go_simp;exact d _ _ (aJ bR rfl) rfl
    refine sC3 (λ_ _ _ _ _ _ _ g _ _ _ d=>?_) ?_
    .have eU:_=_:=g 11 85 kR rfl;go_simp;exact d _ _ (aJ bR rfl) rfl
    refine sC3 (λ_ _ _ _ _ _ _ g _ _ _ d=>?_) ?_
    .have eV:_=_:=g 12 86 kR rfl;go_simp;exact d _ _ (aJ bR rfl) rfl
    refine sC3 (λ_ _ X _ _ _ _ g _ _ _ d=>?_) ?_
    .have eW:_=_:=g 13 87 kR rfl;obtain ⟨ad,b2,b3⟩:=bH.out _ X;go_simp;exact d _ _ (aJ bR rfl) rfl
    refine sC3 (λs _ _ _ _ _ z _ _ _ _ d=>?_) ?_
    .have a9:s (.tmp 6)=.int .i64 (G:Int):=z 6 kR;go_simp;exact d _ _ (aJ bR rfl) rfl
    refine sC3 (λ_ _ _ _ _ _ _ g _ _ _ d=>?_) ?_
    .have eX:_=_:=g 14 88 kR rfl;have eY:_=_:=g 15 89 kR rfl;go_simp;exact d _ _ (aJ bR rfl) rfl
    refine sC3 (λ_ _ _ _ _ _ _ g _ _ _ d=>?_) ?_
    .have eZ:_=_:=g 16 90 kR rfl;go_simp;exact d _ _ (aJ bR rfl) rfl
    refine sC3 (λ_ _ X _ _ _ _ g _ _ _ d=>?_) ?_
    .have fa:_=_:=g 17 91 kR rfl;obtain ⟨ad,b2,b3⟩:=bH.out _ X;go_simp;exact d _ _ (aJ bR rfl) rfl
    exact aB
   .intro s Z L au g;have ea:(λa0 o=>a0=.int .i64 (W:Int)/\TS o p e q K u t (wrap64 (N+3))/\LK p [] ae o) (s (.tmp 83)) Z:=g 9 83 dC rfl;have dk:s (.tmp 84)=.pointer (some e):=g 10 84 dC rfl;have dl:s (.tmp 92)=.int .i64 (ap:Int):=g 18 92 dC rfl;simp only [zqq];clear g;obtain ⟨dj,bC,ai⟩:=ea;rw [dj,dk,dl];obtain ⟨bh,be,b8,ba,cW⟩:=hqq5 bC (c1.out.trans ai) (cc.out.but (ButL.refl [] _) ai (by simp) (by simp)) (cd.out.but (ButL.refl [] _) ai (by simp) (by simp)) (bY.out.but (ButL.refl [] _) ai (by simp) (by simp));clear bC ai dj dk dl au;change wpAny prog Region.Mode.any _ _ (2+L) (bT 19 21) _ Z;rw [show 2+L=(L+1)+1 by omega];refine aY (f:=L+1) (i:=19) kR ?_;refine bJ rfl rfl ?_;generalize d:wpAny prog _ _ _ (L+1) _=K5;go_simp;refine (nP (F:=p) (gt:=e) (n:=q) (k:=ap) (hk:=V) (xs:=K) (fr:=u) (rt:=t) (w:=Z) bh.out bc.out).mono ?_;rintro I a8 ⟨rfl,b0,aj,_⟩;rw [gT,show (3:Int)+1=4 from rfl] at b0;obtain ⟨aH,bf,b9,bb,cX⟩:=hqq5 b0 (be.out.trans aj) (b8.out.but (ButL.refl [] _) aj (by simp) (by simp)) (ba.out.but (ButL.refl [] _) aj (by simp) (by simp)) (cW.out.but (ButL.refl [] _) aj (by simp) (by simp));clear b0 aj b8 ba cW be bh;subst d;refine aY (f:=L) (i:=20) kR ?_;refine bJ rfl rfl ?_;generalize d:wpAny prog _ _ _ L _=K5;go_simp;subst d;refine bG kR ?_;by_cases bn:W < V
    .have ct:decide ((W:Int) < (V:Int))=true:=zBz oM;have cu:decide (W < V)=true:=zBz bn;obtain ⟨O,H,M,rfl⟩:∃O H M,y=LT.nd O H M:=by
      cases y with
      | lf S a5 x=>
       have I:0=V:=b4.out;omega
      | nd O H M=>exact ⟨O,H,M,rfl⟩
     obtain rfl:O=ap:=bK.out;obtain ⟨bj,bt,bu⟩:=b9.out;obtain ⟨bp,bq⟩:=aOG bM.out;obtain ⟨cx,dM,aM,ee,av⟩:=aH.out;obtain ⟨D,dQ,rfl,bo⟩:=av.rd.ex oM;obtain ⟨c9,c0,ce,cf,cb,an⟩:=hqq6 av bj bt bu bp bq;have dW:=bo.lt;have dZ:=av.rd.a.lt;clear bt bu bj av bo bp bq;go_wp2_with fail;refine wp_region_any kR ?_;refine qX (C:=(λo=>Bk o e 233 #[cx,.slice (some D) q aM,(t:Int),(wrap64 (N+4):Int)])) (pre:=(λo=>TS o p e q K u t (wrap64 (N+4))/\LK p [] a8 o/\KT e a8 o)) 10 [95,96,97,98,99,100,101,102,103,104] (KT e) 7 (λa0 o=>a0=.int .i64 (O:Int)/\TurnP p e q G O K u t (wrap64 (N+4)) (.nd O H (.nd G M x)) a8 o) [is e,is e,is (.pointer (some ⟨e,1,none⟩)),is (.slice (some D) q aM),is (m:Int),is e,is (G:Int),cO,is (.pointer (some ⟨D,m*8,none⟩)),is (.pointer (some ⟨D,m*8+1,none⟩))] _ rfl dC kR kR (c9.out.rd.a.drew) (⟨aH.out.below (bR.drew),LK.below (bR.drew),KT.below (bR.drew)⟩) (λ_ _ J m=>m.elim (λa5=>J.below a5 J.lt) (λa5=>a5 _ J)) (λ_ _ J m=>⟨J.1.below m,J.2.1.trans (LK.below m),J.2.2.trans (KT.below m)⟩) (λ_ _ _ ⟨aN,aO⟩ m=>⟨aN,aO.below m⟩) tA4 ?_ ?_
     .refine bB ?_;refine sC3 (λs _ _ _ _ _ z _ _ _ _ d=>?_) ?_
      .have af:s (.tmp 0)=.pointer (some e):=z 0 kR;go_simp;exact d _ _ (aJ bR rfl) rfl
      refine sC3 (λ_ _ _ _ _ _ _ g _ _ _ d=>?_) ?_
      .have fb:_=_:=g 0 95 kR rfl;go_simp;exact d _ _ (aJ bR rfl) rfl
      refine sC3 (λ_ _ _ _ _ _ _ g _ _ _ d=>?_) ?_
      .have fc:_=_:=g 1 96 kR rfl;go_simp;exact d _ _ (aJ bR rfl) rfl
      refine sC3 (λ_ o X _ _ _ _ g _ _ _ d=>?_) ?_
      .have fd:_=_:=g 2 97 kR rfl;have dO:o.cell? ⟨e,1,none⟩=some (.slice (some D) q aM):=(X.cell 1).trans rfl;go_simp;exact d _ _ (aJ bR rfl) rfl
      refine sC3 (λs _ _ _ _ _ z _ _ _ _ d=>?_) ?_
      .have b6:s (.tmp 1)=.int .i64 (m:Int):=z 1 kR;go_simp;exact d _ _ (aJ bR rfl) rfl
      refine sC3 (λs _ _ _ _ _ z _ _ _ _ d=>?_) ?_
      .have af:s (.tmp 0)=.pointer (some e):=z 0 kR;go_simp;exact d _ _ (aJ bR rfl) rfl
      refine sC3 (λs _ _ _ _ _ z _ _ _ _ d=>?_) ?_
      .have a9:s (.tmp 6)=.int .i64 (G:Int):=z 6 kR;go_simp;exact d _ _ (aJ bR rfl) rfl
      refine sC3 (λ_ o _ aP _ _ _ g aL _ _ d=>?_) ?_
      .have Y:(λo=>TS o p e q K u t (wrap64 (N+4))/\LK p [] a8 o/\KT e a8 o) o:=aP rfl;have ei:_=_:=g 5 100 kR rfl;have ej:_=_:=g 6 101 kR rfl;go_simp;refine (xD (F:=p) (gt:=e) (n:=q) (k:=G) (kl:=O) (xs:=K) (fr:=u) (rt:=t) (a:=H) (b:=M) (c:=x) (w:=o) Y.1 ⟨_,_,_,_,_,aG.out⟩ ⟨_,_,_,_,_,c0.out⟩ (ce.out.but (ButL.refl [] _) Y.2.1 (by simp) (by simp)) (cf.out.but (ButL.refl [] _) Y.2.1 (by simp) (by simp)) (bb.out.but (ButL.refl [] _) Y.2.1 (by simp) (by simp)) cb.out aC.out.l.l aC.out.l.r aC.out.r).mono ?_;rintro I ac ⟨rfl,bm⟩;have cD:KT e o ac:=(by obtain ⟨_,_,_,_,_,cB⟩:=bm;exact cB);exact d _ _ (uG cD) ⟨rfl,bm.from Y.2.1 Y.2.2⟩
      refine sC3 (λ_ _ _ _ _ _ _ g _ _ _ d=>?_) ?_
      .have fe:_=_:=g 3 98 kR rfl;have ff:_=_:=g 4 99 kR rfl;go_simp;exact d _ _ (aJ bR rfl) rfl
      refine sC3 (λ_ _ _ _ _ _ _ g _ _ _ d=>?_) ?_
      .have ek:_=_:=g 8 103 kR rfl;go_simp;exact d _ _ (aJ bR rfl) rfl
      exact aB
     .intro s Z L au g;have e6:(λa0 o=>a0=.int .i64 (O:Int)/\TurnP p e q G O K u t (wrap64 (N+4)) (.nd O H (.nd G M x)) a8 o) (s (.tmp 102)) Z:=g 7 102 dC rfl;have dc:s (.tmp 104)=.pointer (some ⟨D,m*8+1,none⟩):=g 9 104 dC rfl;simp only [zqq];clear g;obtain ⟨db,cz⟩:=e6;rw [db,dc];obtain ⟨al,cJ,br,ax,aZ,cC⟩:=cz;obtain ⟨cw,dL,cp,cL,ab⟩:=cJ;have a9:=ab.rd.c1.symm.trans ((au.cell 1).trans rfl);injection a9 with a9;injection a9 with a9 _ e7;subst a9 e7;obtain ⟨dP,aw⟩:=fE ab.rd.row;have ag:Nd al m B.num G:=⟨_,_,_,_,_,ax _ _ an.out.1 bd.out⟩;obtain ⟨dT,e4,e5,e2,e3,ag⟩:=ag;obtain ⟨_,ay,_⟩:=ab.rd.at ag;have cs:=aw.frozen (m*8+1);have cA:=aw.lt;obtain ⟨bk,aQ⟩:=eqx (Z.setCell ⟨D,m*8+1,none⟩ (.int .i64 (O:Int)));have aR:=ab.put (m*8+1) (.int .i64 (O:Int));have T:LK p [] Z (Z.setCell ⟨D,m*8+1,none⟩ (.int .i64 (O:Int))):=LK.set aw dC (OwnF.at ab.own) _;have a7:ButL [m] al (al.set (m*8+1) (.int .i64 (O:Int))):=(But8.set m al (j:=1) oM _).l (by simp);have bw:Nd (al.set (m*8+1) (.int .i64 (O:Int))) m B.num O:=⟨_,_,_,_,_,ag.set (j:=1) oM (.int .i64 (O:Int))⟩;rw [aQ] at aR T;have ah:=br.but a7 T (λS a6 I=>an.out.2.1 S a6 (zDa.1 I)) (by simp);have bz:=(cX.out.but ax aZ an.out.2.2.1 (by simp)).but a7 T (λS a6 I=>cR.out S a6 (zDa.1 I)) (by simp);obtain ⟨ca,c2⟩:=hqq2 (show TS bk p e q _ u t _ from ⟨cw,_,cp,cL,aR⟩) (aZ.trans T);have c6:=lhd ((bi.out.l (l:=m::(B.nums++(LT.nd G (.nd O H M) x).nums)) (by simp)).trans ((ax.mono (by simp [LT.nums])).trans (a7.mono (by simp))));obtain ⟨bZ,aF,c5,c7⟩:=hqq4 bw ah bz aQ;clear ab aw ag aR T a7 bw ah bz aQ br ax aZ cC au db dc;change wpAny prog Region.Mode.any _ _ (1+L) (bT 10 11) _ Z;rw [zCt 1 L];refine aY (f:=L) (i:=10) kR ?_;refine bJ rfl rfl ?_;generalize d:wpAny prog _ _ _ L _=K5;go_simp;subst d;refine bG kR ?_;rw [c7.out];clear ay cs cA;go_wp2_with fail;have bA:=aC.out;refine (xE (F:=p) (gt:=e) (n:=q) (k:=m) (kl:=O) (fr:=u) (rt:=t) (a:=B) (b:=H) (c:=(.nd G M x)) (w:=bk) ca.out bZ.out aF.out.nd c5.out aF.out.2.1 aF.out.2.2 an.out.2.2.2 aA.out bA.l.l (aOB bA)).mono ?_;rintro I ac ⟨rfl,cP,bD,bs,bF,bx,_⟩
      have aE:=lhd (show aMq p e q m U u t N B (LT.nd G (.nd O H M) x) Q (.returned (.int .i64 ((O:Nat):Int))) ac from ⟨.nd O (.nd m B H) (.nd G M x),cP,4,rfl,bD,by omega,bs,by
       show Tr.nd (Tr.nd B.er H.er) (Tr.nd M.er x.er)=Tr.bal B.er (Tr.nd (Tr.nd H.er M.er) x.er);have b6:B.er.ht=a1:=aI.out;have bN:(Tr.nd (Tr.nd H.er M.er) x.er).ht=a2:=aK.out;have cq:(Tr.nd H.er M.er).ht=V:=b4.out;have cr:x.er.ht=W:=b5.out;unfold Tr.bal;rw [zBw oM,zBx oM];simp only [Tr.balR];rw [zBx oM];rfl,aOC ..,aOK ..,c6.out.trans (bF.mono (by simp [LT.nums])),(bf.out.trans c2.out).trans bx⟩)
      clear bD bs bF bx;go_wp2_with fail;go_ret;exact aE.out
    .have ct:decide ((W:Int) < (V:Int))=false:=zBy oM;have cu:decide (W < V)=false:=zBy bn;go_wp2_with fail;obtain ⟨cG,cH⟩:=And.intro aC.out.l aC.out.r;refine (xE (F:=p) (gt:=e) (n:=q) (k:=m) (kl:=G) (xs:=K) (fr:=u) (rt:=t) (a:=B) (b:=y) (c:=x) (w:=a8) aH.out ⟨_,_,_,_,_,bd.out⟩ ⟨_,_,_,_,_,aG.out⟩ cX.out b9.out bb.out (aOH bM.out) aA.out cG cH).mono ?_;rintro I ac ⟨rfl,cN,ak,ah,a7,T,_⟩
     have aE:=lhd (show aMq p e q m U u t N B (LT.nd G y x) Q (.returned (.int .i64 ((G:Nat):Int))) ac from ⟨.nd G (.nd m B y) x,cN,4,rfl,ak,by omega,ah,by
      show Tr.nd (Tr.nd B.er y.er) x.er=Tr.bal B.er (Tr.nd y.er x.er);have b6:B.er.ht=a1:=aI.out;have bN:(Tr.nd y.er x.er).ht=a2:=aK.out;have cq:y.er.ht=V:=b4.out;have cr:x.er.ht=W:=b5.out;unfold Tr.bal;rw [zBw oM,zBx oM];simp only [Tr.balR];rw [zBw oM];rfl,aOD ..,aOL ..,(bi.out.l (by simp)).trans (a7.mono (by simp [LT.nums])),bf.out.trans T⟩)
     clear ak ah a7 T;go_wp2_with fail;go_ret;exact aE.out
  .have dS:decide ((a1:Int) - a2 < -1)=false:=zBy oM;go_wp2_with fail;go_ret;refine ⟨.nd m B E,K,2,rfl,bg.out,by omega,⟨?_,bY.out,c4.out⟩,?_,.refl _,.refl _,bi.out.l (by simp),c1.out⟩;exact bd.out
   .show Tr.nd B.er E.er=Tr.bal B.er E.er;have b6:B.er.ht=a1:=aI.out;have bN:E.er.ht=a2:=aK.out;rw [Tr.bal_same _ _ oM oM]
end Go.Proofs.YtknjfpcdhdmghaaGreatDoor
