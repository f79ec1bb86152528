/- Lemmas of the walk. Conditions: each its own. -/
import Derived.Test.YtnmapianpjamnaaGreatDoorPc13
import Derived.Test.YtnmapianpjamnaaGreatDoorPc15
import Derived.Test.YtnmapianpjamnaaGreatDoorProg
set_option linter.all false
set_option maxRecDepth 100000
set_option maxHeartbeats 2000000
open Go.Proofs.Tryz
namespace Go.Proofs.YtnmapianpjamnaaGreatDoor
open Go.RowKit
def TreeEo.ht {g:World} {c:Nat->Prop} {d b:Nat} {a:Option Tr} (e:TreeEo g c d a) (f:HtB b (bK a).length):oht a<=b:=e.at.ht f
def vY (d:Nat->Prop) (b j g:Nat) (e:Bool) (a:List Bool) (c:World) (f:TreeE c d b a) (u:a.length<=1099) (l:g<=a.length) (r:HtB j a.length):
 Calls prog 117 #[b,(g:Int),.bool e] c fun k i=>k=.returned (.int .i64 0)/\TreeE i (Gw d c.heap.size) b (aI a g e)/\Keep d c i/\RankV b (5*j+2) i:=by
 obtain ⟨s,rfl,f⟩:=f;refine (vZ d b g e s c f oM l).mono ?_;rintro k i ⟨n,o,p,m,t,q⟩;have:=f.ht r;exact ⟨n,⟨_,aBR e l,o⟩,p,m,by omega,q⟩
def vX (o:Nat->Prop) (j e:Nat) (b:List Bool) (c:List Nat) (p q r:Value) (a:World) (ht:Bk a j 205 #[e,p,q,r]) (k:ArenaE a o e b c) (v:b.length<=1048576) (u:c.length<=b.length):
 Calls prog 197 #[j] a fun d i=>d=.returned (.int .i64 ((b.length - c.length:Nat):Int))/\Below a.heap.size a i:=by
 have w:=ht.cell 0;have f:Calls prog 215 #[e] a fun d i=>d=.returned (.int .i64 ((b.length - c.length:Nat):Int))/\Below a.heap.size a i:=by obtain ⟨_,n,t,l,s,g,_⟩:=k;exact iD e n t l s b.length c.length a g v u
 generalize b.length - c.length=m at f⊢;clear ht k;go_enter func197,ntmps197;go_wp2_with fail;refine f.mono ?_;rintro d w1 ⟨rfl,g⟩;clear f;go_wp2_with fail;go_ret;exact ⟨rfl,g⟩
def yS (a5:Nat->Prop) (c:Nat) (a8:Tr) (n:World) (F:TreeEo n a5 c (some a8)):
 Calls prog 121 #[c] n fun y a4=>y=.returned (shT a8).val/\Below n.heap.size n a4:=by
 have ae:=F;obtain ⟨aQ,b7,aa,N,b5,ap,ac,bD,bE,l,aR,⟨z,_⟩|⟨m,z,K,rfl,aS,aT,ad,_⟩⟩:=F
 · cases z
 injection z with z;subst z;obtain ⟨x,bc,rfl,ah⟩:=l.rd.ex (by have:=K.at.lt l.rd.len;omega);obtain ⟨b8,b9,ba,bb,A,ab⟩:=m.cel;obtain ⟨q,U⟩:=eqx m.ht;obtain ⟨lv,aj⟩:=eqx m.er.lv;obtain ⟨s,am⟩:=eqx m.num;have bB:s < N:=by have:=K.at.lt l.rd.len;omega
 have bC:((s:Nat):Int) < (N:Int):=oM;have b2:=mN m;have al:=ad.length_eq;rw [zAi,zCh] at al;obtain ⟨g,ak⟩:=eqx (ap.length - ac.length);have bv:g+1=2*lv:=by have:=l.tkn;omega
 have bq:g<=200:=oM;obtain ⟨u,bp⟩:∃b6:Int,(g:Int)+1=b6:=⟨_,rfl⟩;have br:wrap64 ((g:Int)+1)=u:=by unfold wrap64;omega
 have b1:u.tdiv 2=(lv:Int):=by rw [Int.tdiv_eq_ediv_of_nonneg oM];omega
 have bs:u / 2=(lv:Int):=oM;have bx:IntKind.i64.wrap u=u:=by rw [IntKind.wrap_i64];omega
 have bw:IntKind.i64.wrap (lv:Int)=(lv:Int):=by rw [IntKind.wrap_i64];omega
 have bt:wrap64 (u / 2)=(lv:Int):=by unfold wrap64;omega
 have bu:wrap64 (u.tdiv 2)=(lv:Int):=by rw [b1];unfold wrap64;omega
 obtain ⟨Q,G⟩:=eqx (n.alloc (.cells #[.int .i64 0,.int .i64 0,.int .i64 0,.int .i64 0] 68));obtain ⟨e,v⟩:=eqx n.heap.size;obtain ⟨r,X⟩:=eqx m.er.bits.length;have J:Below e n Q:=by rw [<-G,<-v];exact bR.alloc nL _
 have T:Bk Q e 68 #[.int .i64 0,.int .i64 0,.int .i64 0,.int .i64 0]:=by rw [<-G,<-v];exact Bk.new _ _ _
 have M:=T.lt;have L:c < e:=by rw [<-v];exact l.rd.blk.lt
 have aY:x < e:=by rw [<-v];exact ah.lt
 have W:=vX a5 c aQ ap ac _ _ _ Q (l.rd.blk.below J L) (l.ar.vis (Vis.of_below (by rw [v];exact J))) (by have:=l.tkn;omega) (by have:=l.tkn;omega);rw [ak] at W;obtain ⟨_,_,O,_⟩:=l.rd.at (show At8 b5 m.num [_,_,_,_,_,_,_,_] from ab ▸ K.at);have ao:=l.rd.c1;have a3:=l.rd.c2;rw [am] at a3 O;rw [U] at O;have an:(shT m.er).val=.agg #[(r:Int),(q:Int),(lv:Int),(g:Int)]:=by have aV:m.er.ht=q:=U;have b0:2*(lv:Int) - 1=(g:Int):=oM;unfold shT Shp.val;rw [X,aV,aj,b0];rfl
 obtain ⟨av,E,ay,aA,aE,a7,aF,au,Hn⟩:=hqq9 G v J T ao a3 O ae X;have aD:=lhd an;clear ae l aR aS aT ad K ah ab G v J T ao a3 O an X U aj am b2 al ak;rw [aD.out,E.out];go_enter func121,ntmps121;have R:n.cell? ⟨c,2,none⟩=some (.int .i64 (s:Int)):=a7.out;have bz:((s:Int)==-1)=false:=zCb.2 oM;have bA:¬(s:Int)=-1:=oM;have aZ:c < n.heap.size:=by rw [E.out];exact L
 go_wp2_with fail;rw [av.out]
 try rw [E.out]
 refine W.mono ?_;clear W R aZ;rintro y t ⟨rfl,I⟩;have H:Below e n t:=ay.out.trans (I.mono (zCk M));have V:e<=t.heap.size:=zAk (zCk M) I.size;have ag:∀a,Keep (fun _=>False) t a->a.cell? ⟨c,1,none⟩=some (.slice (some x) N aa)/\a.cell? ⟨c,2,none⟩=some (.int .i64 (s:Int))/\a.cell? ⟨x,s*8+2,none⟩=some (.int .i64 (q:Int)):=fun a Z=>by have B:=H.trans (Z.to_below V fun a9 _ k=>k.elim);exact ⟨(B.cell L).trans aE.out,(B.cell L).trans a7.out,(B.cell aY).trans aF.out⟩
 have ai:∀a,Keep (fun _=>False) t a->Calls prog 120 #[c] a fun y a4=>y=.returned (.int .i64 (r:Int))/\Below a.heap.size a a4:=fun a Z=>by have B:=H.trans (Z.to_below V fun a9 _ k=>k.elim);have:=fE c (some m.er) a (au.out.at.vis (Vis.of_below (by rw [E.out];exact B)));rw [show (bK (some m.er)).length=r from Hn.out] at this;exact this
 obtain ⟨a6,aw,D,aB⟩:=hqq4 (aA.out.below I M) H ag ai;clear I H V ag ai M;go_wp2_with fail;refine wp_region_any kR ?_;refine cF 18 [16,17,18,19,20,21,22,23,24,25,26,27,28,29,30,31,32,33] (fun _=>False) 0 [] (fun _=>True) (is c) [cR,is (r:Int),is c,is c,is (.pointer (some ⟨c,1,none⟩)),is (.slice (some x) N aa),is c,is c,is (.pointer (some ⟨c,2,none⟩)),is (s:Int),is (.pointer (some ⟨x,s*8,none⟩)),is (.pointer (some ⟨x,s*8+2,none⟩)),is (q:Int),is (g:Int),is (.int .i64 u),is (lv:Int),is (g:Int),is (.agg #[(r:Int),(q:Int),(lv:Int),(g:Int)])] _ _ rfl dC kR kR kR (trivial) (fun _ _ _ _ _=>trivial) (fun _ _ _ F _=>F) tA0 ?_ ?_
 · refine bM ?_;refine sC3 (fun w _ _ _ _ _ b3 _ _ _ _ j=>?_) ?_
   · have bd:w (.tmp 0)=.pointer (some c):=b3 0 kR;go_simp;exact j _ _ (aW (Keep.refl _ _)) rfl
   refine sC3 (fun w a b _ _ _ _ d _ _ _ j=>?_) ?_
   · replace b:Keep (fun _=>False) t a:=kD b;have b4:(is c) (w (.tmp 16)) a:=d 0 16 kR rfl;have be:w (.tmp 16)=.pointer (some c):=b4;have aX:=aB.out a b;go_simp;refine aX.mono ?_;rintro y bF ⟨rfl,aU⟩;exact j _ _ (aG aU) rfl
   refine pH3 0 (.pointer (some c)) ?_;refine pV3 2 18 ?_;refine pV3 3 19 ?_;refine sC3 (fun _ a b _ _ _ _ d _ _ _ j=>?_) ?_
   · replace b:Keep (fun _=>False) t a:=kD b;have bg:_=_:=d 4 20 kR rfl;obtain ⟨a0,a1,a2⟩:=D.out a b;go_simp;exact kq j rfl
   refine pH3 0 (.pointer (some c)) ?_;refine pV3 6 22 ?_;refine pV3 7 23 ?_;refine sC3 (fun _ a b _ _ _ _ d _ _ _ j=>?_) ?_
   · replace b:Keep (fun _=>False) t a:=kD b;have bi:_=_:=d 8 24 kR rfl;obtain ⟨a0,a1,a2⟩:=D.out a b;go_simp;exact kq j rfl
   refine sC3 (fun _ a b _ _ _ _ d _ _ _ j=>?_) ?_
   · replace b:Keep (fun _=>False) t a:=kD b;have bh:_=_:=d 5 21 kR rfl;have bj:_=_:=d 9 25 kR rfl;obtain ⟨a0,a1,a2⟩:=D.out a b;go_simp;exact kq j rfl
   refine pV3 10 26 ?_;refine sC3 (fun _ a b _ _ _ _ d _ _ _ j=>?_) ?_
   · replace b:Keep (fun _=>False) t a:=kD b;have bl:_=_:=d 11 27 kR rfl;obtain ⟨a0,a1,a2⟩:=D.out a b;go_simp;exact kq j rfl
   refine pH3 3 (.int .i64 (g:Int)) ?_;refine pV3 13 29 ?_;refine pV3 14 30 ?_;refine pH3 3 (.int .i64 (g:Int)) ?_;refine sC3 (fun _ _ _ _ _ _ _ d _ _ _ j=>?_) ?_
   · have bf:_=_:=d 1 17 kR rfl;have bm:_=_:=d 12 28 kR rfl;have bn:_=_:=d 15 31 kR rfl;have bo:_=_:=d 16 32 kR rfl;go_simp;exact kq j rfl
   exact aH
 · intro w C k b d;replace b:Keep (fun _=>False) t C:=kD b;have aL:w (.tmp 33)=.agg #[(r:Int),(q:Int),(lv:Int),(g:Int)]:=d 17 33 dC rfl;simp only [zqq];rw [aL];clear d;have o:Bk C e 68 #[.int .i64 0,.int .i64 0,.int .i64 0,.int .i64 0]:=Keep.bk b a6.out fun k=>k;have aM:=o.frozen 0;have aN:=o.frozen 1;have aO:=o.frozen 2;have aP:=o.frozen 3;have aI:=o.cell 0;have aJ:=o.cell 1;have R:=o.cell 2;have aK:=o.cell 3;obtain ⟨ax,aq⟩:=hqq2 o b;clear o b;change wpAny prog Region.Mode.any _ _ (1+k) (bS 18 19) _ C;rw [zCp 1 k];refine bH (f:=k) (i:=18) kR ?_;refine bU rfl rfl ?_;generalize j:wpAny prog _ _ _ k _=K5;go_simp;subst j;refine bW kR ?_;have af:Below e n C:=aw.out.trans (aq.out.to_below (zCk a6.out.lt) fun a9 _ k=>k.elim);have S:=(((af.setCell (p:=⟨e,0,none⟩) nL (.int .i64 (r:Int))).setCell (p:=⟨e,1,none⟩) nL (.int .i64 (q:Int))).setCell (p:=⟨e,2,none⟩) nL (.int .i64 (lv:Int))).setCell (p:=⟨e,3,none⟩) nL (.int .i64 (g:Int));have Y:=(((ax.out.set 0 (.int .i64 (r:Int))).set 1 (.int .i64 (q:Int))).set 2 (.int .i64 (lv:Int))).set 3 (.int .i64 (g:Int));generalize (((C.setCell ⟨e,0,none⟩ (.int .i64 (r:Int))).setCell ⟨e,1,none⟩ (.int .i64 (q:Int))).setCell ⟨e,2,none⟩ (.int .i64 (lv:Int))).setCell ⟨e,3,none⟩ (.int .i64 (g:Int))=w9 at S Y⊢;obtain ⟨az,aC⟩:=hqq2 S Y;clear S Y af aM aN aO aP aI aJ R aK;go_wp2_with fail;exact bodyPost_ret (results_cell_row (P:=prog) (fn:=f121) (p:=2) (ty:=68) rfl _ w9 e 68 #[(r:Int),(q:Int),(lv:Int),(g:Int)] (0,0) _ rfl aC.out underlying68 rfl kR) rfl ⟨rfl,az.out⟩
def Gw.gw {d:Nat->Prop} {c e:Nat} (f:c<=e):∀b,Gw (Gw d c) e b->Gw d c b:=fun b a=>by
 rcases a with a | a;exact a;exact .inr oM
def aCl (e i gk j:Nat) (lv z:Int) (b:Nat->Prop) (c:List Bool) (f:Nat) (g:Bool) (a:World) (ht:TreeE a b e c) (l:Bk a gk 3 #[(f:Int)]) (k:Bk a j 4 #[.bool g]) (y:c.length<=895) (x:f<=c.length) (w:HtB i c.length):
 Calls prog 116 #[.agg #[e,.int .i64 lv,.int .i64 z],gk,j] a fun n m=>n=.returned (.tuple #[])/\TreeE m (Gw b a.heap.size) e (aI c f g)/\Keep b a m/\RankV e (5*i+2) m:=by
 have A:a.cell? gk=some (.int .i64 (f:Int)):=(l.cell 0).trans rfl;have B:a.cell? j=some (.bool g):=(k.cell 0).trans rfl;have C:=l.lt;have D:=k.lt;have v:=lhd ht;clear ht l k;go_enter func116,ntmps116;go_wp2_with fail;refine (vY b e i f g c _ (v.out.below (bR.alloc nL _)) (zAk y dC) x w).mono ?_;rintro n w1 ⟨rfl,o,p,r⟩;have u:=lhd r;clear r;have q:Keep b a w1:=(Keep.of_below (bR.alloc nL _)).trans p;have s:=lhd (o.mono (G:=Gw b a.heap.size) fun E _ d=>by
  rcases d with d | d;exact .inl d
  · simp at d;exact .inr oM)
 have t:=lhd q;clear o p q;go_wp2_with fail;go_end0;exact ⟨rfl,s.out,t.out,u.out⟩
def zO (i gk e:Nat) (lv z:Int) (j:Value) (b:Nat->Prop) (d:List Bool) (c:Nat) (a:World) (ht:TreeE a b i d) (m:Bk a gk 3 #[(c:Int)]) (n:Bk a e 4 #[j]) (y:¬b e) (r:c < d.length):
 Calls prog 226 #[.agg #[i,.int .i64 lv,.int .i64 z],gk,e] a fun o A=>o=.returned (.tuple #[])/\∃w1,TreeE w1 (Gw b a.heap.size) i (aC d c)/\Keep b a w1/\Bk w1 e 4 #[j]/\A=w1.setCell e (.bool (d.getD c false)):=by
 have C:a.cell? gk=some (.int .i64 (c:Int)):=(m.cell 0).trans rfl;have H:=m.lt;have I:=n.lt;obtain ⟨B,l⟩:=eqx (d.getD c false);rw [l];obtain ⟨u,x,Hn,v⟩:=hqq4 l ht n r;clear ht m n l r;go_enter func226,ntmps226;go_wp2_with fail;refine (rH b i c d _ (x.out.below (bR.alloc nL _)) v.out).mono ?_;rintro o w1 ⟨rfl,p,q⟩;rw [u.out];have k:Keep b a w1:=(Keep.of_below (bR.alloc nL _)).trans q;have g:=k.bk Hn.out y;have D:w1.cell? e=some j:=(g.cell 0).trans rfl;have E:=g.frozen 0;have F:=g.lt;have s:=lhd (p.mono (G:=Gw b a.heap.size) fun j _ f=>by
  rcases f with f | f;exact .inl f
  · simp at f;exact .inr oM)
 obtain ⟨t,w⟩:=hqq2 k g;clear p q k g;go_wp2_with fail;go_end0;exact ⟨rfl,w1,s.out,t.out,w.out,rfl⟩
def mD {c:World} {a b:Nat} {d:List Bool} {e:Array Value} (f:TreeAt c a d) (i:Bk c b 135 e):a≠b:=by
 rintro rfl;obtain ⟨_,g⟩:=f.blk;exact absurd (aJ g i).1 dC
def aEu (a f H gk J:Nat) (s:Nat->Value) (u g lv z:Int) (i:Nat->Prop) (n:List Bool) (r:Nat) (c:Bool) (b:World) (N:Bk b a 135 (wcells s u g)) (ht:TreeE b i f n) (an:¬i a) (W:∀e,i e->e < b.heap.size) (A:Bk b gk 3 #[(r:Int)]) (Z:Bk b J 4 #[.bool c]) (ax:n.length<=895) (aw:r<=n.length) (ao:HtB H n.length):
 Calls prog 115 #[a,.agg #[f,.int .i64 lv,.int .i64 z],.func (.func 116) #[] #[gk,J]] b fun o O=>o=.returned (.tuple #[])/\
  TreeE O (Gw i b.heap.size) f (aI n r c)/\Keep (fun e=>i e∨e=a) b O/\∃w:Nat,w<=5*H+2/\Bk O a 135 (wcells s u (IntKind.i64.wrap (g+(w:Int)))):=by
 obtain ⟨a9,L⟩:=eqx (Obj.cells #[f,.int .i64 lv,.int .i64 z] 143);have X:=(Below.refl b.heap.size b).alloc nL a9;have M:=Bk.new b 143 #[f,.int .i64 lv,.int .i64 z];rw [L] at M;have aM:=N.lt;obtain ⟨S,Q,P,T,I,R,ae,ab⟩:=hqq8 ht A Z N X M L W;clear ht A Z N X M L W;go_enter func115,ntmps115;go_wp2_with fail;rw [ae.out];refine (aCl f H gk J lv z i n r c _ (S.out.below I.out) (Q.out.alloc _) (P.out.alloc _) ax aw ao).mono ?_;rintro o t ⟨rfl,a4,B,w,aq,a0⟩;have E:=B.bk (T.out.alloc a9) an;have C:=B.bk R.out (fun k=>by have:=ab.out _ k;omega);have a3:Keep i b t:=(Keep.of_below I.out).trans B;have D:TreeE t (Gw i b.heap.size) f (aI n r c):=a4.mono fun e _ k=>by rcases k with k | k;exact .inl k;simp at k;exact .inr oM
 obtain ⟨j,a7,a6⟩:∃j:Int,(w:Int)=j/\t.cell? ⟨f,3,none⟩=some (.int .i64 j):=⟨_,rfl,a0⟩;have aj:=lhd a7;clear a7 a0;have ay:=D.at.lt;have aL:=C.lt;have au:=Bk.ne E C dC;have av:=mD D.at E;obtain ⟨U,af,ad,ah,ai⟩:=hqq5 E C a3 D a6;clear E C a3 D a6 a4 B I S Q P T R;go_wp2_with fail;refine wp_region_any kR ?_;refine bL [9,10,11,12,13,14,15,16,17,18] (fun c=>c=a) 10 [3,10] (fun v=>Bk v a 135 (wcells s u g)) (fun _ v=>Bk v a 135 (wcells s u (IntKind.i64.wrap (g+j)))) [is a,is a,is (.pointer (some ⟨a,10,none⟩)),is (.int .i64 g),is b.heap.size,is f,is (.int .i64 j),is (.int .i64 (IntKind.i64.wrap (g+j))),is a,is (.pointer (some ⟨a,10,none⟩)),cR] _ _ rfl kR kR (U.out) (fun v aP q _ ar=>Bk.below q ar q.lt) (fun _ _ _ q r=>Bk.below q r q.lt) tA0 ?_ ?_
 · refine aZ ?_;refine pH3 0 (.pointer (some a)) ?_;refine pV3 0 9 ?_;refine pV3 1 10 ?_;refine sC3 (fun _ l _ K _ _ _ m _ _ _ x=>?_) ?_
   · have y:=K rfl;have aB:_=_:=m 2 11 kR rfl;have al:l.cell? ⟨a,10,none⟩=some (.int .i64 g):=(y.cell 10).trans (aT _ _ _).2.2.2.2.2.2.2.2.2.2;go_simp;exact kq x rfl
   refine pH3 4 (.pointer (some b.heap.size)) ?_;refine pL3 4 13 (fun l d=>have d:Keep (fun c=>c=a) t l:=kD d;(((d.bk af.out (fun q=>au (show b.heap.size=a from q).symm)).cell 0).trans rfl:l.cell? b.heap.size=some (.pointer (some f)))) ?_;refine sC3 (fun _ l d _ _ _ _ m _ _ _ x=>?_) ?_
   · replace d:Keep (fun c=>c=a) t l:=kD d;have aC:_=_:=m 5 14 kR rfl;go_simp;refine (dX f j l ((d.cell ay av).trans ai.out)).mono ?_;rintro o aQ ⟨rfl,ap⟩;exact x _ _ (aG ap) rfl
   refine pW3 3 12 6 15 ?_;refine pV3 0 9 ?_;refine pV3 8 17 ?_;refine sC3 (fun _ l _ K _ _ _ m _ _ _ x=>?_) ?_
   · have y:=K rfl;have aE:_=_:=m 9 18 kR rfl;have aD:_=_:=m 7 16 kR rfl;have al:l.cell? ⟨a,10,none⟩=some (.int .i64 g):=(y.cell 10).trans (aT _ _ _).2.2.2.2.2.2.2.2.2.2;have aK:=y.frozen 10;go_simp;refine x (.bool true) _ (aW (Keep.setCell (F:=fun c=>c=a) (Keep.refl _ _) (p:=⟨a,10,none⟩) (.inl rfl) _)) ?_;have V:=y.set 10 (.int .i64 (IntKind.i64.wrap (g+j)));rw [bN] at V;exact V
   exact aH
 · intro aF G d m Y;replace d:Keep (fun c=>c=a) t G:=kD d;obtain ⟨aO,aa⟩:∃az,(fun _ v=>Bk v a 135 (wcells s u (IntKind.i64.wrap (g+j)))) az G:=Y 10 dC;simp only [zqq];clear m Y;have a8:Bk G a 135 (wcells s u (IntKind.i64.wrap (g+j))):=aa;have a5:=ah.out.keep d fun e aN aA a1 A _=>fun o=>by have am:e=a:=o;subst am;rw [(aJ A U.out).1] at a1;exact absurd a1 dC
   have a2:Keep (fun e=>i e∨e=a) b G:=(ad.out.mono fun e _ k=>.inl k).trans (d.mono fun e _ o=>.inr o);obtain ⟨ak,ag,ac⟩:=hqq3 a8 a5 a2;clear aa a8 a5 a2 d;go_wp2_with fail;go_end0;exact ⟨rfl,ag.out,ac.out,w,aq,by rw [aj.out];exact ak.out⟩
def aCj (a j gk b:Nat) (w:Nat->Value) (z n lv q:Int) (c:Value) (f:Nat->Prop) (s:List Bool) (m:Nat) (e:World) (J:Bk e a 135 (wcells w z n)) (ht:TreeE e f j s) (aB:¬f a) (aA:¬f b) (a1:∀c,f c->c < e.heap.size) (B:Bk e gk 3 #[(m:Int)]) (I:Bk e b 4 #[c]) (aF:∀g,f g->g≠b) (a7:m < s.length):
 Calls prog 115 #[a,.agg #[j,.int .i64 lv,.int .i64 q],.func (.func 226) #[] #[gk,b]] e fun l K=>l=.returned (.tuple #[])/\
  TreeE K (Gw f e.heap.size) j (aC s m)/\Keep (fun c=>f c∨c=a∨c=b) e K/\Bk K b 4 #[.bool (s.getD m false)]/\∃aN,Bk K a 135 (wcells w z aN):=by
 obtain ⟨x,P⟩:=eqx (s.getD m false);rw [P];have ak:=lhd P;clear P;obtain ⟨ah,S⟩:=eqx (Obj.cells #[j,.int .i64 lv,.int .i64 q] 143);have a3:=(Below.refl e.heap.size e).alloc nL ah;have T:=Bk.new e 143 #[j,.int .i64 lv,.int .i64 q];rw [S] at T;have aY:=J.lt;have b0:=I.lt;have ag:=Bk.ne I J dC;obtain ⟨W,U,Hn,X,M,V,aq,aj,an⟩:=hqq9 ht B I J a3 T S a1 a7;clear ht B I J a3 T S a1 a7;go_enter func115,ntmps115;go_wp2_with fail;rw [aq.out];refine (zO j gk b lv q c f s m _ (W.out.below M.out) (U.out.alloc _) (Hn.out.alloc _) aA an.out).mono ?_;rintro l v ⟨rfl,w1,aa,H,a8,rfl⟩;rw [ak.out];have ae:=H.bk (X.out.alloc ah) aB;have E:=ae.far (p:=b) (fun k=>ag k.symm) (.bool x);have D:=(H.bk V.out (fun d=>by have:=aj.out _ d;omega)).far (p:=b) (fun k=>absurd (show e.heap.size=b from k) oM) (.bool x);have R:=a8.set 0 (.bool x);have Q:Keep (fun g=>f g∨g=b) e (w1.setCell b (.bool x)):=Keep.setCell (F:=fun g=>f g∨g=b) (((Keep.of_below M.out).trans H).mono fun g _ d=>.inl d) (p:=b) (.inl (.inr rfl)) _;have ac:TreeE w1 (Gw f e.heap.size) j (aC s m):=aa.mono fun c _ d=>by rcases d with d | d;exact .inl d;simp at d;exact .inr oM
 have y:TreeE (w1.setCell b (.bool x)) (Gw f e.heap.size) j (aC s m):=ac.keep (G:=fun g=>g=b) (Keep.setCell (F:=fun g=>g=b) (Keep.refl _ _) (p:=b) (.inl rfl) _) fun g aM az _ B d=>fun l=>by rcases d with d | d;exact aF g d l;have Z:g=b:=l;omega
 obtain ⟨N,a2⟩:=eqx (w1.setCell b (.bool x));rw [a2] at E D R Q y⊢;obtain ⟨u,ad⟩:=y.at.visits;have aL:=y.at.lt;have aX:=D.lt;have aI:=Bk.ne E D dC;have aK:=mD y.at E;obtain ⟨Y,ar,ao,am,av,aw⟩:=hqq6 E D R Q y ad;clear E D R Q y ad aa H M W U Hn X V a2 ac ae a8;go_wp2_with fail;refine wp_region_any kR ?_;refine bL [9,10,11,12,13,14,15,16,17,18] (fun o=>o=a) 10 [3,10] (fun v=>Bk v a 135 (wcells w z n)) (fun _ v=>Bk v a 135 (wcells w z (IntKind.i64.wrap (n+u)))) [is a,is a,is (.pointer (some ⟨a,10,none⟩)),is (.int .i64 n),is e.heap.size,is j,is (.int .i64 u),is (.int .i64 (IntKind.i64.wrap (n+u))),is a,is (.pointer (some ⟨a,10,none⟩)),cR] _ _ rfl kR kR (Y.out) (fun v b2 k _ aE=>Bk.below k aE k.lt) (fun _ _ _ k m=>Bk.below k m k.lt) tA0 ?_ ?_
 · refine aZ ?_;refine pH3 0 (.pointer (some a)) ?_;refine pV3 0 9 ?_;refine pV3 1 10 ?_;refine sC3 (fun _ r _ O _ _ _ t _ _ _ A=>?_) ?_
   · have C:=O rfl;have aP:_=_:=t 2 11 kR rfl;have ay:r.cell? ⟨a,10,none⟩=some (.int .i64 n):=(C.cell 10).trans (aT _ _ _).2.2.2.2.2.2.2.2.2.2;go_simp;exact kq A rfl
   refine pH3 4 (.pointer (some e.heap.size)) ?_;refine pL3 4 13 (fun r i=>have i:Keep (fun o=>o=a) N r:=kD i;(((i.bk ar.out (fun k=>aI (show e.heap.size=a from k).symm)).cell 0).trans rfl:r.cell? e.heap.size=some (.pointer (some j)))) ?_;refine sC3 (fun _ r i _ _ _ _ t _ _ _ A=>?_) ?_
   · replace i:Keep (fun o=>o=a) N r:=kD i;have aQ:_=_:=t 5 14 kR rfl;go_simp;refine (dX j u r ((i.cell aL aK).trans aw.out)).mono ?_;rintro l b3 ⟨rfl,aD⟩;exact A _ _ (aG aD) rfl
   refine pW3 3 12 6 15 ?_;refine pV3 0 9 ?_;refine pV3 8 17 ?_;refine sC3 (fun _ r _ O _ _ _ t _ _ _ A=>?_) ?_
   · have C:=O rfl;have aS:_=_:=t 9 18 kR rfl;have aR:_=_:=t 7 16 kR rfl;have ay:r.cell? ⟨a,10,none⟩=some (.int .i64 n):=(C.cell 10).trans (aT _ _ _).2.2.2.2.2.2.2.2.2.2;have aV:=C.frozen 10;go_simp;refine A (.bool true) _ (aW (Keep.setCell (F:=fun o=>o=a) (Keep.refl _ _) (p:=⟨a,10,none⟩) (.inl rfl) _)) ?_;have a0:=C.set 10 (.int .i64 (IntKind.i64.wrap (n+u)));rw [bN] at a0;exact a0
   exact aH
 · intro aU L i t a4;replace i:Keep (fun o=>o=a) N L:=kD i;obtain ⟨b1,ai⟩:∃aO,(fun _ v=>Bk v a 135 (wcells w z (IntKind.i64.wrap (n+u)))) aO L:=a4 10 dC;simp only [zqq];clear t a4;have af:Bk L a 135 (wcells w z (IntKind.i64.wrap (n+u))):=ai;have ab:=av.out.keep i fun c aM az a5 B _=>fun l=>by have Z:c=a:=l;subst Z;rw [(aJ B Y.out).1] at a5;exact absurd a5 dC
   have a9:=i.bk ao.out ag;have a6:Keep (fun c=>f c∨c=a∨c=b) e L:=(am.out.mono (G:=fun c=>f c∨c=a∨c=b) fun c _ d=>by
    rcases d with d | d;exact .inl d
    · exact .inr (.inr d)).trans (i.mono fun c _ l=>.inr (.inl l))
   obtain ⟨ax,au,ap,al⟩:=hqq4 af ab a9 a6;clear ai af ab a6 i a9;go_wp2_with fail;go_end0;exact ⟨rfl,au.out,al.out,ap.out,_,ax.out⟩
end Go.Proofs.YtnmapianpjamnaaGreatDoor
