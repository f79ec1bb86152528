/- Lemmas of the walk. Conditions: each its own. -/
import Derived.Test.YtknjfpcdhdmghaaGreatDoorPt10
import Derived.Test.YtknjfpcdhdmghaaGreatDoorPt11
set_option linter.all false
set_option maxRecDepth 100000
set_option maxHeartbeats 4000000
open Go.Proofs.Tryz
namespace Go.Proofs.YtknjfpcdhdmghaaGreatDoor
open Go.RowKit
def Tr.br (a:List Bool):Option Tr:=if a.length=0 then none else some (Tr.mk a)
def Tr.b3 (a):cH (Tr.br a)=a:=by
 unfold Tr.br;split
 .rename_i b
  exact (zBk b).symm
 exact Tr.mk_bits oM
def aEe {e c} {d b:Nat} {g:Int} (k:c d) (j:c b) (ht:Bk e d 233 #[b,(),(-1:Int),(g:Int)]) (i:Bk e b 183 #[(),(),(268435456:Int)]):TX e c d b none 0 0 [] [] [] (-1) g:=
 ⟨k,⟨ht,ki _ _ _ _⟩,(λf a=>by cases a),⟨j,none,0,none,0,i,ki _ _ _ _,ki _ _ _ _,(λf a=>by cases a),λf a=>by cases a⟩,rfl,λm l=>by omega⟩
def aJz {s c t B e a} (M:Rd a B 1 s c (e.map Value.bool)) (hB:B<=a.heap.size) (K:c<=1100) (a7:c<=t):
 Calls prog 205 #[.slice s c t] a λk z=>∃G,k=.returned (.pointer (some ⟨G,0,none⟩))/\TreeEo z (λd=>a.heap.size<=d) G (Tr.br e)/\Below a.heap.size a z:=by
 have g:e.length=c:=by simpa using M.1
 go_enter func205,ntmps205;go_wp2_with fail;refine (vX _).mono ?_;rintro k w1 ⟨rfl,H,w⟩;have l:=w.size;rcases zBa c with u | u
 .subst u;have a8:Tr.br e=none:=(by unfold Tr.br;rw [zBx g]);go_wp2_with fail;go_ret;have a3:=w.alloc l (.cells #[a.heap.size,(),(-1:Int),o0] 233);rw [a8];exact ⟨_,rfl,⟨_,_,_,_,_,_,_,_,_,aEe l nL (kd _ _ _) (H.alloc _),by omega,.inl ⟨rfl,rfl,zFU _⟩⟩,a3⟩
 .obtain ⟨b,I⟩:=eqx (Tr.lvs c);have x:(c+127)/ 128=b:=I;have am:((c:Int)+128 - 1)/ 128=(b:Int):=oM;have an:(0:Int) < b:=oM;have o:=w.alloc l (.cells #[a.heap.size,(),(-1:Int),o0] 233);have y:=kd w1 233 #[a.heap.size,(),(-1:Int),o0];have v:=H.alloc (.cells #[a.heap.size,(),(-1:Int),o0] 233);have N:=(M.mono hB).below o;obtain ⟨A,aa⟩:=eqx (w1.alloc (.cells #[a.heap.size,(),(-1:Int),o0] 233));rw [aa] at y v N o;have a2:TS A (λd=>a.heap.size<=d) w1.heap.size 0 [] [] (-1) 0:=⟨_,_,_,_,aEe l nL y v⟩;clear y v;go_wp2_with fail;have q:0 < b:=(zj x);have aj:b<=9:=(zj x);have n:=o.size;have a6:∀m,m < b->(Tr.cut e b m (m+1)).length<=128:=(by intro m ak;rw [Tr.cut_len q oM,g];exact Tr.leaf_len q (zj x));refine (aJV (λd=>a.heap.size<=d) w1.heap.size (-1) 0 s c t a.heap.size b e a7 oM q oM g (λd j ai=>by omega) a6 (b - 1) 0 b 0 [] [] A q oM nL a2 (λd j=>zAk n j) oM (zFU _) N n).mono ?_;rintro k O ⟨f,ab,ad,rfl,⟨a0,P,U,ac,i⟩,C,D,V,W,X,Y,Z,E⟩;have ae:=i.rd.c2;have ah:=i.rd.a.frozen 2;have al:=i.rd.a.lt;have Q:=(i.ao (f.num:Int));have R:=(D.keep (w':=O.setCell ⟨w1.heap.size,2,none⟩ (.int .i64 f.num)) (λ_ _ _ T=>T) λF _ af j=>j.m (p:=⟨w1.heap.size,2,none⟩) (Bk.ne j i.rd.a dC) _);have J:Below a.heap.size A O:=E.keep.e n (λd j k=>by have ag:a.heap.size<=d:=k;omega);have S:=((o.trans J).setCell (p:=⟨w1.heap.size,2,none⟩) l (.int .i64 f.num));have r:f.er=Tr.mk e:=(by rw [C];unfold Tr.mk;rw [g,I]);have L:0 < e.length:=(by rw [g];exact u);have a9:f.er.Ok:=(by rw [r];exact Tr.mk_ok L (by rw [g];exact K));have a5:f.len<=1100:=(by show f.er.bits.length<=1100;rw [r,Tr.mk_bits L,g];exact K);have a1:Tr.br e=some f.er:=(by unfold Tr.br;rw [zBw oM,r]);clear i C D Z E J r;go_wp2_with fail;go_ret;exact ⟨_,rfl,a1 ▸⟨a0,P,U,ab,ad,ac, [],_,0,Q,by have:=W;omega,.inr ⟨f,rfl,R,rfl,a9,a5,V,X,λF a4=>zAk n (Y F a4)⟩⟩,S⟩
def aFk {f c i g d a} (p:Rd a g 1 f c (d.map Value.bool)) (hB:g<=a.heap.size) (n:c<=1100) (o:c<=i):
 Calls prog 205 #[.slice f c i] a λj e=>∃b,j=.returned (.pointer (some ⟨b,0,none⟩))/\TreeB e a.heap.size b d/\Below a.heap.size a e:=by
 refine (aJz p hB n o).mono ?_;rintro j e ⟨b,k,l,m⟩;exact ⟨b,k,⟨_,Tr.b3 d,l⟩,m⟩
def qS (m:Nat->Prop) (s t d:Nat) (a b:LT) (v:List Value) (p:List Nat) (u q:Int) (r:World) (o:Ending) (i:World):Prop:=
 ∃(g:List Value) (j:List Nat) (l:Int),TS i m s t g j u l/\(l=q∨l=wrap64 (q+2))/\ButL (d::(a.nums++b.nums)) v g/\LK m (a.blks++b.blks) r i/\
  ((∃k c n,o=.returned (.int .i64 (k:Nat))/\Tr.mend a.er b.er=.lf n/\(LT.lf k c n).In i g/\(k::j).Perm (d::(a.nums++b.nums)++p)/\c∈a.blks++b.blks)∨
   (∃e f:LT,o=.returned (.int .i64 d)/\Tr.mend a.er b.er=.nd e.er f.er/\Nd g d e.num f.num/\e.In i g/\f.In i g/\(d::(e.nums++f.nums)++j).Perm (d::(a.nums++b.nums)++p)/\(e.blks++f.blks).Nodup/\∀c,c∈e.blks++f.blks->c∈a.blks++b.blks∨r.heap.size<=c))
def TX.c9 {q p z y w E b a o H x G I L r} (A:TX q p z y (some ⟨b,0,none⟩) w E o H x G I) (B:Bk q b 236 L) (C:At8 o a r) (c d e f g k l m):
 TX ((((((((q.setCell ⟨b,a*8,none⟩ (.int .i64 c)).setCell ⟨b,a*8+1,none⟩ (.int .i64 d)).setCell ⟨b,a*8+2,none⟩ (.int .i64 e)).setCell ⟨b,a*8+3,none⟩ (.int .i64 f)).setCell ⟨b,a*8+4,none⟩ (.int .i64 g)).setCell ⟨b,a*8+5,none⟩ (.int .i64 k)).setCell ⟨b,a*8+6,none⟩ (.int .i64 l)).setCell ⟨b,a*8+7,none⟩ (.pointer m)) p z y (some ⟨b,0,none⟩) w E ((((((((o.set (a*8) (.int .i64 c)).set (a*8+1) (.int .i64 d)).set (a*8+2) (.int .i64 e)).set (a*8+3) (.int .i64 f)).set (a*8+4) (.int .i64 g)).set (a*8+5) (.int .i64 k)).set (a*8+6) (.int .i64 l)).set (a*8+7) (.pointer m)) H x G I/\
 At8 ((((((((o.set (a*8) (.int .i64 c)).set (a*8+1) (.int .i64 d)).set (a*8+2) (.int .i64 e)).set (a*8+3) (.int .i64 f)).set (a*8+4) (.int .i64 g)).set (a*8+5) (.int .i64 k)).set (a*8+6) (.int .i64 l)).set (a*8+7) (.pointer m)) a [.int .i64 c,.int .i64 d,.int .i64 e,.int .i64 f,.int .i64 g,.int .i64 k,.int .i64 l,.pointer m]/\
 But8 a o ((((((((o.set (a*8) (.int .i64 c)).set (a*8+1) (.int .i64 d)).set (a*8+2) (.int .i64 e)).set (a*8+3) (.int .i64 f)).set (a*8+4) (.int .i64 g)).set (a*8+5) (.int .i64 k)).set (a*8+6) (.int .i64 l)).set (a*8+7) (.pointer m))/\
 LK p [] q ((((((((q.setCell ⟨b,a*8,none⟩ (.int .i64 c)).setCell ⟨b,a*8+1,none⟩ (.int .i64 d)).setCell ⟨b,a*8+2,none⟩ (.int .i64 e)).setCell ⟨b,a*8+3,none⟩ (.int .i64 f)).setCell ⟨b,a*8+4,none⟩ (.int .i64 g)).setCell ⟨b,a*8+5,none⟩ (.int .i64 k)).setCell ⟨b,a*8+6,none⟩ (.int .i64 l)).setCell ⟨b,a*8+7,none⟩ (.pointer m)):=by
 have O:=C.1;refine ⟨(((((((A.put (a*8) (.int .i64 c)).put (a*8+1) (.int .i64 d)).put (a*8+2) (.int .i64 e)).put (a*8+3) (.int .i64 f)).put (a*8+4) (.int .i64 g)).put (a*8+5) (.int .i64 k)).put (a*8+6) (.int .i64 l)).put (a*8+7) (.pointer m),?_,(((((((But8.set a o (j:=0) oM (.int .i64 c)).trans (But8.set a _ (j:=1) oM (.int .i64 d))).trans (But8.set a _ (j:=2) oM (.int .i64 e))).trans (But8.set a _ (j:=3) oM (.int .i64 f))).trans (But8.set a _ (j:=4) oM (.int .i64 g))).trans (But8.set a _ (j:=5) oM (.int .i64 k))).trans (But8.set a _ (j:=6) oM (.int .i64 l))).trans (But8.set a _ (j:=7) oM (.pointer m)),?_⟩
 .have M:=(((((((C.set (j:=0) oM (.int .i64 c)).set (j:=1) oM (.int .i64 d)).set (j:=2) oM (.int .i64 e)).set (j:=3) oM (.int .i64 f)).set (j:=4) oM (.int .i64 g)).set (j:=5) oM (.int .i64 k)).set (j:=6) oM (.int .i64 l)).set (j:=7) oM (.pointer m)
  match r,O with
  | [R,S,T,U,V,W,X,Y],_=>exact M
 have P:p b:=OwnF.at A.own;have n:=λ(J:World) (r:Array Value) (D:Nat) (Q:Value) (N:Bk J b 236 r)=>LK.set (F:=p) (bl:= []) (i:=D) N dC P Q;have b1:=B.set (a*8) (.int .i64 c);have b2:=b1.set (a*8+1) (.int .i64 d);have s:=b2.set (a*8+2) (.int .i64 e);have t:=s.set (a*8+3) (.int .i64 f);have u:=t.set (a*8+4) (.int .i64 g);have v:=u.set (a*8+5) (.int .i64 k);have K:=v.set (a*8+6) (.int .i64 l);exact ((((((n _ _ _ _ B).trans (n _ _ _ _ b1)).trans (n _ _ _ _ b2)).trans (n _ _ _ _ s)).trans (n _ _ _ _ t)).trans (n _ _ _ _ u)).trans ((n _ _ _ _ v).trans (n _ _ _ _ K))
def rL {g j l p} {b c:LT} {d i q m a} (u:TS a g j l d i q m) (f:Nd d p b.num c.num) (x:b.In a d) (y:c.In a d) (G:(b.blks++c.blks).Nodup) (D:b.J=false) (E:c.J=false) (F:Tr.mend b.er c.er=.nd b.er c.er):
 Calls prog 257 #[j,(p:Int)] a (qS g j l p b c d i q m a):=by
 obtain ⟨U,Z,a0,X,Y,f⟩:=f;obtain ⟨W,s⟩:=eqx b.num;obtain ⟨a1,t⟩:=eqx c.num;rw [s,t] at f;have v:=u;obtain ⟨S,O,P,a2,e⟩:=u;obtain ⟨T,Q,rfl,w⟩:=e.rd.ex (zj (f.lt e.rd.len));have B:=e.rd.c1;have J:=e.rd.a.lt;have I:=w.lt;have V:(p:Int) < l:=zj (f.lt e.rd.len)
 obtain ⟨M,N,_⟩:=e.rd.at f;clear e w;go_enter func257,ntmps257;go_wp2_with fail;go_quiet (fail);have k:Below a.heap.size a (a.drewN nq):=km (kg a.heap.size a) nq;have r:=v.below k;have K:LK g [] a (a.drewN nq):=LK.below k;have z:=x.below k;have A:=y.below k;clear B M N v x y J I;generalize a.drewN nq=w1 at*
 clear k;have n:=jS g j l b d i q m w1 r z;rw [s] at n;have o:=jS g j l c d i q m w1 r A;rw [t] at o;rw [D] at n;rw [E] at o;go_wp2_with fail;refine n.mono ?_;rintro C L ⟨rfl,rfl⟩;go_wp2_with fail;refine o.mono ?_;rintro C L ⟨rfl,rfl⟩;clear n o;go_wp2_with fail;go_ret;exact ⟨d,i,m,r,.inl rfl,ButL.refl _ _,K.mono zs,.inr ⟨b,c,rfl,F,⟨_,_,_,_,_,by rw [s,t];exact f⟩,z,A,.refl _,G,λR H=>.inl H⟩⟩
def aM4 {k s n e} (o B g J) {f i} {a b:LT} (r:a=.lf o B f) (er:b=.lf g J i) {j m D q d} (al:TS d k s n j m D q) (v:Nd j e a.num b.num) (ax:a.In d j) (aA:b.In d j) (u:(a.blks++b.blks).Nodup) (O:∀ak,ak∈a.blks++b.blks->k ak) (au:∀z,d.heap.size<=z->k z) (S:(e::(a.nums++b.nums)++m).Nodup) (az:∀aK,aK∈e::(a.nums++b.nums)++m->aK < n) (bd:m.length<=1000000) (b6:f.length<=128) (b7:i.length<=128) (a0:f.length < 32∨i.length < 32):
 Calls prog 257 #[s,(e:Int)] d (qS k s n e a b j m D q d):=by
 obtain ⟨bF,bT,bU,bQ,bS,v⟩:=v;obtain ⟨bP,a2⟩:=eqx a.num;obtain ⟨bV,a3⟩:=eqx b.num;rw [a2,a3] at v;have am:=al;obtain ⟨bz,bj,bq,bW,w⟩:=al;obtain ⟨bD,bu,rfl,aq⟩:=w.rd.ex (zj (v.lt w.rd.len));have aW:=w.rd.c1;have bb:=w.rd.a.lt;have ba:=aq.lt;have bL:(e:Int) < n:=zj (v.lt w.rd.len)
 obtain ⟨bh,bi,_⟩:=w.rd.at v;obtain ⟨aa,aO,G,H,ag,ah⟩:=hqq6 am v ax aA a2 a3;clear w aq am v ax aA a2 a3;go_enter func257,ntmps257;go_wp2_with fail;go_quiet (fail);have K:Below d.heap.size d (d.drewN nq):=km (kg d.heap.size d) nq;have an:=aa.below K;have aL:LK k [] d (d.drewN nq):=LK.below K;have aD:=G.below K;have aE:=H.below K;clear aW bh bi aa G H bb ba;generalize d.drewN nq=w1 at*
 obtain ⟨F,aT,G,H⟩:=hqq4 an aL aD aE;clear an aL aD aE K;have A:=jS k s n a j m D q w1 F G;rw [ag.out] at A;have N:=jS k s n b j m D q w1 F H;rw [ah.out] at N;have be:o≠g:=λl=>by rw [r,er,l] at S;simp [LT.nums] at S
 have aw:J≠B:=λl=>by rw [r,er,l] at u;simp [LT.blks] at u
 have b8:k B:=O B (by simp [r,LT.blks]);have b9:k J:=O J (by simp [er,LT.blks]);have ay:Tr.mend a.er b.er=if f.length+i.length<=128 then .lf (f++i) else .nd (.lf ((f++i).take ((f.length+i.length)/ 2))) (.lf ((f++i).drop ((f.length+i.length)/ 2))):=by rw [r,er];show Tr.mend (.lf f) (.lf i)=_;simp only [Tr.mend];rw [zBx a0]
 obtain ⟨c,X,Hn,ad,bn,af,aQ,bo⟩:=hqq8 (And.intro r er) S az ay O au a0 u;have Z:a.J=decide (f.length < 32):=by rw [r];rfl
 have aj:b.J=decide (i.length < 32):=by rw [er];rfl
 have aG:a.num=o:=by rw [r];rfl
 have aH:b.num=g:=by rw [er];rfl
 have aI:=ag.out;have aJ:=ah.out;rw [aG] at aI;rw [aH] at aJ;subst aI aJ;clear r er S az ay O au a0 u aG aH;have aM:=lhd (show (LT.lf o B f).In w1 j by rw [<-c.out.1];exact G);have aN:=lhd (show (LT.lf g J i).In w1 j by rw [<-c.out.2];exact H);go_upto_region 2 with fail;go_cut [34] from 25 (λa9 bg=>a9=.bool false/\bg=w1)
 case first=>
  by_cases ai:f.length < 32
  .have Y:a.J=true:=(by rw [Z];exact zBz ai);rw [Y] at A;go_wp2_with fail;refine A.mono ?_;rintro l a7 ⟨rfl,rfl⟩;go_wp2_with fail;go_meet;exact ⟨rfl,rfl⟩
  .have Y:a.J=false:=(by rw [Z];exact zBy ai);have b0:b.J=true:=(by rw [aj];exact zBz (zj aQ.out));rw [Y] at A;rw [b0] at N;go_wp2_with fail;refine A.mono ?_;rintro l a7 ⟨rfl,rfl⟩;go_wp2_with fail;refine N.mono ?_;rintro l a7 ⟨rfl,rfl⟩;go_wp2_with fail;go_meet;exact ⟨rfl,rfl⟩
 case rest=>
 obtain ⟨rfl,rfl⟩:=hcut;clear A N Z aj;have a6:=F.ab (wrap64 (q+2));have M:=F.b4 3 (.int .i64 (wrap64 (q+2)));obtain ⟨bA,bk,br,bX,P⟩:=F;have aY:=P.rd.c3;have b2:=P.rd.a.frozen 3;have bH:=P.rd.a.lt;obtain ⟨a7,a4⟩:=eqx (wc.setCell ⟨s,3,none⟩ (.int .i64 (wrap64 (q+2))));rw [a4] at a6 M;have T:=aM.but (ButL.refl [] _) M zs zs;have U:=aN.but (ButL.refl [] _) M zs zs;have ae:=lhd a6;obtain ⟨bB,bl,bs,bY,t⟩:=a6;obtain ⟨bE,bv,rfl,ar⟩:=t.rd.ex oM;have aX:=t.rd.c1;have bK:(o:Int) < n:=zj ((T.1).lt t.rd.len)
 have bM:(g:Int) < n:=zj ((U.1).lt t.rd.len)
 obtain ⟨_,_,_,_,_,_,_,aZ⟩:=t.rd.at (show At8 j o [_,_,_,_,_,_,_,_] from T.1);obtain ⟨_,_,_,_,_,_,_,b1⟩:=t.rd.at (show At8 j g [_,_,_,_,_,_,_,_] from U.1);have bI:=t.rd.a.lt;have bG:=ar.lt;obtain ⟨ab,ac,I,aP⟩:=hqq4 T U (aT.out.trans M) a4;clear M P a4 T U t ar;go_upto_region 12 with fail;rw [aP.out];clear aY b2;go_wp2_with fail;by_cases a1:f.length+i.length<=128
 .refine (xI ae ab ac aw b8 b9 a1).mono ?_;rintro l y ⟨rfl,a8,V,L,E,C⟩;obtain ⟨bC,bm,bt,bZ,Q⟩:=V;have R:Below y.heap.size y (y.alloc (.cells #[(g:Int),(e:Int)] 3)):=bR.alloc nL _;have ao:=Q.below R;have aB:=kd y 3 #[(g:Int),(e:Int)];have bp:=Q.rd.c0;have bJ:=Q.rd.a.lt;have bc:g≠e:=λl=>by have:=X.out;rw [c.2,l] at this;simp [LT.nums] at this
  have bO:d.heap.size<=y.heap.size:=zAk I.keep.size C.keep.size;have x:=X.out;rw [zDb] at x;have av:=aBn ao (λz u=>af z (by rw [sZ0] at u;omega)) (Hn g (by simp [c.2,LT.nums])) (λp=>x.2.2 g (by simp [c.2,LT.nums]) g p rfl) (Hn e zs) (λp=>x.2.2 e zs e p rfl) bc aB bd;obtain ⟨aR,aS,aV⟩:=hqq3 av (L.below R) E;have aU:=lhd ((I.out.mono (bl':=a.blks++b.blks) zs).trans ((C.mono (bl':=a.blks++b.blks) (by simp [c.out.1,c.out.2,LT.blks])).trans (LK.below R)));clear av Q ao aB L E C R x aX aZ b1;go_wp2_with fail;refine aR.mono ?_;rintro l bf ⟨rfl,ap,a5⟩
  have W:=lhd (show qS k s n e a b j m D q d (.returned (.int .i64 (o:Nat))) bf from
   ⟨a8,m++ [g,e],_,⟨_,_,_,_,ap⟩,.inr rfl,aV.mono (by simp [c.1,LT.nums]),aU.trans (a5.mono zs),.inl ⟨o,B,f++i,rfl,by rw [ad.out,zBx a1],aS.but (ButL.refl [] _) a5 zs zs,by
    rw [c.1,c.2,zDc];intro a9;simp only [LT.nums,zDg,zCc,zEz];omega,by simp [c.1,LT.blks]⟩⟩)
  clear ap a5;go_wp2_with fail;go_ret;exact W
 .refine (aBk ae ab ac aw be (λz u=>af z (zAk I.keep.size u)) oM b6 b7).mono ?_;rintro l y ⟨rfl,a8,b3,b5,V,L,aF,b4,bw,bx,E,C⟩;have bN:=I.keep.size
  have W:=lhd (show qS k s n e a b j m D q d (.returned (.int .i64 e)) y from
   ⟨a8,m,_,V,.inr rfl,E.mono (by simp [c.1,c.2,LT.nums]),(I.trans C).mono zs,.inr ⟨.lf o b3 _,.lf g b5 _,rfl,by rw [ad.out,zBw a1];rfl,⟨_,_,_,_,_,E _ _ (λp=>by
    have x:=X.out;rw [c.1,c.2] at x;simp only [zDf,zDh,or_false] at p
    rcases p with p | p <;> simp [LT.nums,p] at x) aO⟩,L,aF,by rw [c.1,c.2];exact .refl _,by simp [LT.blks,b4],λa9 aC=>.inr (by
     simp only [LT.blks,zCp,zDa] at aC;rcases aC with rfl | rfl <;> omega)⟩⟩)
  clear V L aF E C;go_wp2_with fail;go_ret;exact W
def aM3 {t H y b} (r C e q L) {s w} (m:LT) {f n:LT} (G:f=.lf r C s) (er:n=.nd e (.lf q L w) m) {v u T J o} (b8:TS o t H y v u T J) (O:Nd v b f.num n.num) (bp:f.In o v) (aI:n.In o v) (D:(f.blks++n.blks).Nodup) (aD:∀x,x∈f.blks++n.blks->t x) (bm:∀V,o.heap.size<=V->t V) (aE:(b::(f.nums++n.nums)++u).Nodup) (br:∀g,g∈b::(f.nums++n.nums)++u->g < y) (cn:u.length<=1000000) (cf:s.length<=128) (cg:w.length<=128) (bj:s.length < 32) (bt:n.L):
 Calls prog 257 #[H,(b:Int)] o (qS t H y b f n v u T J o):=by
 have bs:=aI;obtain ⟨d4,dj,dk,dh,di,O⟩:=O;obtain ⟨dg,aH⟩:=eqx f.num;obtain ⟨dm,aJ⟩:=eqx n.num;rw [aH,aJ] at O;have b9:=b8;obtain ⟨cZ,cH,cP,dn,R⟩:=b8;obtain ⟨d3,cU,rfl,bg⟩:=R.rd.ex (zj (O.lt R.rd.len));have c8:=R.rd.c1;have cl:=R.rd.a.lt;have ck:=bg.lt;have dc:(b:Int) < y:=zj (O.lt R.rd.len)
 obtain ⟨cE,aP,_⟩:=R.rd.at O;obtain ⟨aQ,aS,a4,a5,aX,aY⟩:=hqq6 b9 O bp aI aH aJ;clear R bg b9 O bp aI aH aJ;go_enter func257,ntmps257;go_wp2_with fail;go_quiet (fail);have aa:Below o.heap.size o (o.drewN nq):=km (kg o.heap.size o) nq;have ba:=aQ.below aa;have bE:LK t [] o (o.drewN nq):=LK.below aa;have bw:=a4.below aa;have bz:=a5.below aa;clear c8 cE aP aQ a4 a5 cl ck;generalize o.drewN nq=w1 at*
 obtain ⟨a3,c1,a4,a5⟩:=hqq4 ba bE bw bz;clear ba bE bw bz aa;have a8:=jS t H y f v u T J w1 a3 a4;rw [aX.out] at a8;have b7:=jS t H y n v u T J w1 a3 a5;rw [aY.out] at b7;have bo:L≠C:=λd=>by rw [G,er,d] at D;simp [LT.blks] at D
 have be:∀x,x∈m.blks->x∉ [C,L]:=λx S a=>by rw [G,er] at D;have Y:(C::L::m.blks).Nodup:=D;rw [zDe,zDe] at Y;simp only [zDf,zDh,or_false] at a;rcases a with rfl | rfl;exact Y.1 (by simp [S]);exact Y.2.1 S
 have ch:t C:=aD C (by simp [G,LT.blks]);have ci:t L:=aD L (by simp [er,LT.blks]);have bq:Tr.mend f.er n.er=if s.length+w.length<=128 then .nd (.lf (s++w)) m.er else .nd (.lf ((s++w).take ((s.length+w.length)/ 2))) (.nd (.lf ((s++w).drop ((s.length+w.length)/ 2))) m.er):=by rw [G,er];show Tr.mend (.lf s) (.nd (.lf w) m.er)=_;simp only [Tr.mend];rw [zBx bj]
 have bi:b≠r/\b≠q/\b≠e/\r≠q/\r≠e/\q≠e/\(∀g,g∈m.nums->g≠b/\g≠r/\g≠q/\g≠e)/\q∉u/\e∉u:=by rw [G,er] at aE;have aF:(b::r::e::q::(m.nums++u)).Nodup:=aE;rw [zDe,zDe,zDe,zDe] at aF;simp only [zDf,zCp,not_or] at aF;obtain ⟨⟨aN,cx,cy,cz,dt⟩,⟨aw,cC,cD,du⟩,⟨aP,cF,cG⟩,⟨cu,a1⟩,_⟩:=aF;refine ⟨aN,cy,cx,cC,aw,λd=>aP d.symm,λg i=>⟨λd=>cz (d ▸ i),λd=>cD (d ▸ i),λd=>cu (d ▸ i),λd=>cF (d ▸ i)⟩,a1,cG⟩
 obtain ⟨c,p,Hn,aT,aW,aV,bU⟩:=hqq7 (And.intro G er) bi br bq bm D bt;have bN:=lhd (show m.In o v by have:=bs;rw [er] at this;exact this.2.2);have bK:=lhd be;have b6:f.J=true:=by rw [G];exact zBz bj
 have bA:f.num=r:=by rw [G];rfl
 have bB:n.num=e:=by rw [er];rfl
 have bC:=aX.out;have bD:=aY.out;rw [bA] at bC;rw [bB] at bD;subst bC bD;rw [b6] at a8;clear G er aE br bq aD bm D bA bB bi bt be b7 bs;have bL:=lhd (show (LT.lf r C s).In w1 v by rw [<-c.out.1];exact a4);have bM:=lhd (show (LT.nd e (.lf q L w) m).In w1 v by rw [<-c.out.2];exact a5);have bJ:=a8;go_wp2_with fail;refine a8.mono ?_;rintro d wf ⟨rfl,rfl⟩;clear bJ a8;have a1:=a3.ab (wrap64 (J+2));have ah:=a3.b4 3 (.int .i64 (wrap64 (J+2)));obtain ⟨d0,cI,cQ,dp,al⟩:=a3;have ca:=al.rd.c3;have cb:=al.rd.a.frozen 3;have d7:=al.rd.a.lt;obtain ⟨bG,aK⟩:=eqx (wf.setCell ⟨H,3,none⟩ (.int .i64 (wrap64 (J+2))));rw [aK] at a1 ah;have af:=bL.but (ButL.refl [] _) ah zs zs;have ap:=bM.but (ButL.refl [] _) ah zs zs;have aU:=lhd a1;have aB:=jS t H y _ v u T _ bG a1 af;rw [show (LT.lf r C s).J=true from b6 ▸ congrArg LT.J c.1.symm] at aB;obtain ⟨d1,cJ,cR,dq,M⟩:=a1;obtain ⟨ce,cV,rfl,bh⟩:=M.rd.ex oM;have aZ:=M.rd.c1;have db:(r:Int) < y:=zj ((af.1).lt M.rd.len)
 have dd:(e:Int) < y:=zj ((ap.1).lt M.rd.len)
 obtain ⟨_,_,_,_,_,_,_,b2⟩:=M.rd.at (show At8 v r [_,_,_,_,_,_,_,_] from af.1);obtain ⟨b3,_,_,_,_,_,_,b5⟩:=M.rd.at (show At8 v e [_,_,_,_,_,_,_,_] from ap.1);have b4:bG.cell? ⟨ce,e*8,none⟩=some (.int .i64 q):=b3;have d8:=M.rd.a.lt;have d5:=bh.lt;obtain ⟨aR,U,a6,bO⟩:=hqq4 af ap (c1.out.trans ah) aK;clear ah al aK af ap M bh b3;go_upto_region 12 with fail;rw [bO.out];clear ca cb;go_wp2_with fail;refine aB.mono ?_;rintro d ds ⟨rfl,rfl⟩;clear aB;go_wp2_with fail;by_cases aG:s.length+w.length<=128
 .refine (xI aU aR U.2.1 bo ch ci aG).mono ?_;rintro d Q ⟨rfl,a2,av,ae,z,P⟩;have Z:=z _ _ (λa=>p.1 (zDa.1 a)) aS;have ai:=z _ _ (λa=>p.2.2.2.2.1 (zDa.1 a).symm) U.1;have W:=U.2.2.but z P (λg i a=>(p.2.2.2.2.2.2.1 g i).2.1 (zDa.1 a)) bK;obtain ⟨d2,cK,cS,dr,I⟩:=av;obtain ⟨X,cW,rfl,am⟩:=I.rd.ex oM;have c9:=I.rd.c1;have c7:=I.rd.c0;have d9:=I.rd.a.lt;have d6:=am.lt;have cc:=am.frozen (b*8+1);obtain ⟨_,aN,_⟩:=I.rd.at Z;obtain ⟨_,aw,_⟩:=I.rd.at (show At8 a2 e [_,_,_,_,_,_,_,_] from ai);obtain ⟨B,N⟩:=eqx m.num;have cB:Q.cell? ⟨X,e*8+1,none⟩=some (.int .i64 B):=(by rw [<-N];exact aw);have bb:=I.put (b*8+1) (.int .i64 B);have E:LK t [] Q (Q.setCell ⟨X,b*8+1,none⟩ (.int .i64 B)):=LK.set am dC (OwnF.at I.own) _;have A:ButL [b] a2 (a2.set (b*8+1) (.int .i64 B)):=(But8.set b a2 (j:=1) oM _).l zs;have ag:=Z.set (j:=1) oM (.int .i64 B);have bx:=ae.but A E (λg i a=>p.1 (by have K:=zDa.1 a;have a7:g=r:=zDa.1 i;rw [<-K,a7])) zs;have b0:=W.but A E (λg i a=>(p.2.2.2.2.2.2.1 g i).1 (zDa.1 a)) zs;have ad:Below (Q.setCell ⟨X,b*8+1,none⟩ (.int .i64 B)).heap.size (Q.setCell ⟨X,b*8+1,none⟩ (.int .i64 B)) (Q.setCell ⟨X,b*8+1,none⟩ (.int .i64 B)).drew:=bR.drew;have a9:=bb.below ad;have ar:=E.trans (LK.below (F:=t) (bl:= []) ad);have aM:=bx.below ad;have aA:=b0.below ad;obtain ⟨aj,aL⟩:=eqx ((Q.setCell ⟨X,b*8+1,none⟩ (.int .i64 B)).drew);rw [aL] at a9 ar aM aA;have ab:Below aj.heap.size aj (aj.alloc (.cells #[(q:Int),(e:Int)] 3)):=bR.alloc nL _;have bc:=a9.below ab;have bu:=kd aj 3 #[(q:Int),(e:Int)];have cO:=a9.rd.c0;have da:=a9.rd.a.lt;have df:o.heap.size<=aj.heap.size:=zAk a6.keep.size (zAk P.keep.size ar.keep.size);have bn:=aBn bc (λV D=>aW V (by rw [sZ0] at D;omega)) (Hn q (by simp [c.2,LT.nums])) p.2.2.2.2.2.2.2.1 (Hn e (by simp [c.2,LT.nums])) p.2.2.2.2.2.2.2.2 p.2.2.2.2.2.1 bu cn;obtain ⟨bS,bW,bI,bZ⟩:=hqq4 bn (aM.below ab) (aA.below ab) ag;have c6:=lhd ((z.mono (l':=b::(f.nums++n.nums)) (by simp [c.out.1,LT.nums])).trans (A.mono zs));have c4:=lhd ((a6.out.mono (bl':=f.blks++n.blks) zs).trans ((P.mono (bl':=f.blks++n.blks) (λx _ S=>by
   rw [c.1,c.2];simp only [zDf,zDh,or_false] at S;rcases S with rfl | rfl <;> simp [LT.blks])).trans ((ar.mono zs).trans (LK.below ab))))
  obtain ⟨az,bP⟩:=hqq2 N aL;clear bn I bb a9 bc bu ae bx aM W b0 aA Z ag ai z A P E ar ab ad aZ b2 b4 b5 am N aL aw;go_wp2_with fail
  go_region
  rw [bP.out];clear c9 c7 cc aN cB;go_wp2_with fail;refine bS.mono ?_;rintro d cw ⟨rfl,bd,au⟩
  have ay:=lhd (show qS t H y b f n v u T J o (.returned (.int .i64 b)) cw from
   ⟨_,u++ [q,e],_,⟨_,_,_,_,bd⟩,.inr rfl,c6,c4.trans (au.mono zs),.inr ⟨.lf r C (s++w),m,rfl,by rw [aT.out,zBx aG];rfl,⟨_,_,_,_,_,by rw [az.out];exact bZ⟩,bW.but (ButL.refl [] _) au zs zs,bI.but (ButL.refl [] _) au zs zs,by
    rw [c.1,c.2,zDc];intro aO;simp only [LT.nums,zDg,zCc,zEz];omega,by
    have ac:=aV.out;rw [c.1,c.2] at ac;refine ac.sublist ?_
    simp [LT.blks],λaO ao=>.inl (by
     rw [c.1,c.2];simp only [LT.blks,zCp,zDa] at ao⊢;rcases ao with d | d <;> simp [d])⟩⟩)
  clear bd au;go_wp2_with fail;go_ret;exact ay
 .refine (aBk aU aR U.2.1 bo p.2.2.2.1 (λV D=>aW V (zAk a6.keep.size D)) oM cf cg).mono ?_;rintro d Q ⟨rfl,a2,aC,ak,av,ae,aq,cd,cX,cY,z,P⟩;have cm:b∉ [r,q]:=λa=>by simp only [zDf,zDh,or_false] at a;rcases a with a | a;exact p.1 a;exact p.2.1 a
  have cr:e∉ [r,q]:=λa=>by simp only [zDf,zDh,or_false] at a;rcases a with a | a;exact p.2.2.2.2.1 a.symm;exact p.2.2.2.2.2.1 a.symm
  have Z:=z _ _ cm aS;have ai:=z _ _ cr U.1;have W:=U.2.2.but z P (λg i a=>by
   have:=p.2.2.2.2.2.2.1 g i;simp only [zDf,zDh,or_false] at a;rcases a with a | a;exact this.2.1 a
   .exact this.2.2.1 a) zs
  obtain ⟨a0,an⟩:=eqx ((s++w).drop ((s.length+w.length)/ 2));rw [an] at aq;have cq:a0.length<=256:=(by rw [<-an,zAw,zAi];omega);have cp:a0.count true<=a0.length:=zBv;obtain ⟨B,N⟩:=eqx m.num;obtain ⟨cL,b1,cM,cN,dl,ax⟩:=W.R;have sC:m.L:=(by have:=bU.out;rw [c.2] at this;exact this.r);obtain ⟨cs,ct⟩:=sC;have co:=m.on_le;rw [N] at ax;have bk:=kG (k:=e) av (by rw [<-N];exact ai) (show At8 a2 q (xA (-1) (-1) 0 a0.length (a0.count true) 0 0 (some ⟨ak,0,none⟩)) from aq.1) ax oM oM oM oM oM oM;obtain ⟨bQ,bY,bV,bX,bH,c5,c2,bT,az⟩:=hqq9 bk Z ae aq W z (a6.out.trans P) an N;have de:=a6.keep.size;clear bk Z ae aq W z P av ai ax an N cs ct co cq cp aZ b2 b4 b5;go_wp2_with fail;refine bQ.mono ?_;rintro d cv ⟨rfl,cA,bF,ag,A,E,_⟩
  have ay:=lhd (show qS t H y b f n v u T J o (.returned (.int .i64 b)) cv from
   ⟨cA,u,_,bF,.inr rfl,(c5.mono (l':=b::(f.nums++n.nums)) (λg i=>by
    rw [c.1,c.2];simp only [zDf,zDh,or_false] at i
    rcases i with rfl | rfl <;> simp [LT.nums])).trans ((A.l (l:=b::(f.nums++n.nums)) (by simp [c.2,LT.nums]))),(c2.trans E).mono zs,.inr ⟨.lf r aC _,.nd e (.lf q ak a0) m,rfl,by rw [aT.out,zBw aG,<-bT.out];rfl,⟨_,_,_,_,_,A _ _ p.2.2.1 bY⟩,bV.but (A.l (l:= [e]) zs) E (λg i a=>p.2.2.2.2.1 (by have K:=zDa.1 a;have a7:g=r:=zDa.1 i;rw [<-K,a7])) zs,⟨by
     have K:=ag;rw [<-az.out] at K;exact K,bX.but (A.l (l:= [e]) zs) E (λg i a=>p.2.2.2.2.2.1 (by have K:=zDa.1 a;have a7:g=q:=zDa.1 i;rw [<-K,a7])) zs,bH.but (A.l (l:= [e]) zs) E (λg i a=>(p.2.2.2.2.2.2.1 g i).2.2.2 (zDa.1 a)) zs⟩,by rw [c.1,c.2];exact .refl _,by
     have ac:=aV.out;rw [c.1,c.2] at ac;have Y:(C::L::m.blks).Nodup:=ac;rw [zDe,zDe] at Y;have bf:∀x,x∈m.blks->x < o.heap.size:=λx S=>by obtain ⟨cT,cj⟩:=bN.a x S;exact cj.lt
     show (aC::ak::m.blks).Nodup;rw [zDe,zDe];refine ⟨λa=>?_,λa=>?_,Y.2.2⟩;rcases zDf.1 a with a | a;exact cd a;have:=bf _ a;omega
     .have:=bf _ a;omega,λaO ao=>by
     rw [c.1,c.2];have bv:aO∈aC::ak::m.blks:=ao;simp only [zDf] at bv;rcases bv with d | d | d;exact .inr oM;exact .inr oM
     .exact .inl (by simp [LT.blks,d])⟩⟩)
  clear bF ag A E;go_wp2_with fail;go_ret;exact ay
def aM2 {t L B c} (f K b n q) {v w} (i:LT) {e o:LT} (J:e=.nd f i (.lf n q v)) (er:o=.lf b K w) {x u a0 O s} (bB:TS s t L B x u a0 O) (V:Nd x c e.num o.num) (b0:e.In s x) (bT:o.In s x) (T:(e.blks++o.blks).Nodup) (aT:∀y,y∈e.blks++o.blks->t y) (bN:∀a3,s.heap.size<=a3->t a3) (aX:(c::(e.nums++o.nums)++u).Nodup) (bS:∀m,m∈c::(e.nums++o.nums)++u->m < B) (da:u.length<=1000000) (cX:v.length<=128) (cY:w.length<=128) (bL:w.length < 32) (bV:e.L):
 Calls prog 257 #[L,(c:Int)] s (qS t L B c e o x u a0 O s):=by
 have bU:=b0;obtain ⟨e3,ej,ek,eh,ei,V⟩:=V;obtain ⟨eg,b2⟩:=eqx e.num;obtain ⟨em,b5⟩:=eqx o.num;rw [b2,b5] at V;have bC:=bB;obtain ⟨dY,dG,dN,en,Y⟩:=bB;obtain ⟨e2,dS,rfl,bI⟩:=Y.rd.ex (zj (V.lt Y.rd.len));have cH:=Y.rd.c1;have d7:=Y.rd.a.lt;have d4:=bI.lt;have eb:(c:Int) < B:=zj (V.lt Y.rd.len)
 obtain ⟨dE,bf,_⟩:=Y.rd.at V;obtain ⟨bh,bi,ac,ad,br,bs⟩:=hqq6 bC V b0 bT b2 b5;clear Y bI bC V b0 bT b2 b5;go_enter func257,ntmps257;go_wp2_with fail;go_quiet (fail);have ah:Below s.heap.size s (s.drewN nq):=km (kg s.heap.size s) nq;have bD:=bh.below ah;have c9:LK t [] s (s.drewN nq):=LK.below ah;have bY:=ac.below ah;have bZ:=ad.below ah;clear cH dE bf bh ac ad d7 d4;generalize s.drewN nq=w1 at*
 obtain ⟨ab,cB,ac,ad⟩:=hqq4 bD c9 bY bZ;clear bD c9 bY bZ ah;have aq:=jS t L B e x u a0 O w1 ab ac;rw [br.out] at aq;have ar:=jS t L B o x u a0 O w1 ab ad;rw [bs.out] at ar;have ai:(i.blks++ [q,K]).Nodup:=by rw [J,er] at T;have aw:((i.blks++ [q])++ [K]).Nodup:=T;rwa [zCo] at aw
 have bP:K≠q:=λd=>by rw [zDb] at ai;have:=ai.2.1;rw [d] at this;simp at this
 have bG:∀y,y∈i.blks->y∉ [q,K]:=λy a5 a=>by rw [zDb] at ai;exact ai.2.2 y a5 y a rfl
 have cZ:t q:=aT q (by simp [J,LT.blks]);have d0:t K:=aT K (by simp [er,LT.blks]);have bQ:Tr.mend e.er o.er=if v.length+w.length<=128 then .nd i.er (.lf (v++w)) else .nd (.nd i.er (.lf ((v++w).take ((v.length+w.length)/ 2)))) (.lf ((v++w).drop ((v.length+w.length)/ 2))):=by rw [J,er];show Tr.mend (.nd i.er (.lf v)) (.lf w)=_;simp only [Tr.mend];rw [zBx bL]
 have bK:c≠f/\c≠n/\c≠b/\n≠b/\b≠f/\n≠f/\(∀m,m∈i.nums->m≠c/\m≠f/\m≠n/\m≠b)/\n∉u/\f∉u:=by
  rw [J,er] at aX;have d3:(c::((f::(i.nums++ [n]))++ [b])++u).Nodup:=aX;have dc:(c::((f::(i.nums++ [n]))++ [b])++u).Perm (c::f::b::n::(i.nums++u)):=by rw [zDc];intro aa;simp only [zDg,zCc,zEz];omega
  have aY:=dc.nodup_iff.1 d3;rw [zDe,zDe,zDe,zDe] at aY;simp only [zDf,zCp,not_or] at aY;obtain ⟨⟨bb,bc,bd,be,ce⟩,⟨dz,dA,dB,dD⟩,⟨bf,dF,eu⟩,⟨dr,a9⟩,_⟩:=aY;exact ⟨bb,bd,bc,λd=>bf d.symm,λd=>dz d.symm,λd=>dA d.symm,λm r=>⟨λd=>be (d ▸ r),λd=>dB (d ▸ r),λd=>dr (d ▸ r),λd=>dF (d ▸ r)⟩,a9,dD⟩
 obtain ⟨g,p,Hn,bj,bq,bp,cw⟩:=hqq7 (And.intro J er) bK bS bQ bN T bV;have cm:=lhd (show i.In s x by have:=bU;rw [J] at this;exact this.2.1);have cj:=lhd bG;have cL:e.J=false:=by rw [J];rfl
 have cM:o.J=true:=by rw [er];exact zBz bL
 have c5:e.num=f:=by rw [J];rfl
 have c6:o.num=b:=by rw [er];rfl
 have c7:=br.out;have c8:=bs.out;rw [c5] at c7;rw [c6] at c8;subst c7 c8;rw [cL] at aq;rw [cM] at ar;clear J er aX bS bQ aT bN T c5 c6 bK bV bG bU ai;have ck:=lhd (show (LT.nd f i (.lf n q v)).In w1 x by rw [<-g.out.1];exact ac);have cl:=lhd (show (LT.lf b K w).In w1 x by rw [<-g.out.2];exact ad);go_wp2_with fail;refine aq.mono ?_;rintro d wf ⟨rfl,rfl⟩;go_wp2_with fail;refine ar.mono ?_;rintro d du ⟨rfl,rfl⟩;clear aq ar;have a9:=ab.ab (wrap64 (O+2));have al:=ab.b4 3 (.int .i64 (wrap64 (O+2)));obtain ⟨dZ,dH,dO,eo,av⟩:=ab;have cK:=av.rd.c3;have cN:=av.rd.a.frozen 3;have e6:=av.rd.a.lt;obtain ⟨cd,b6⟩:=eqx (du.setCell ⟨L,3,none⟩ (.int .i64 (wrap64 (O+2))));rw [b6] at a9 al;have aj:=ck.but (ButL.refl [] _) al zs zs;have az:=cl.but (ButL.refl [] _) al zs zs;have bn:=lhd a9;have aQ:=jS t L B _ x u a0 _ cd a9 aj;rw [show (LT.nd f i (.lf n q v)).J=false from rfl] at aQ;obtain ⟨e0,dI,dP,ep,Q⟩:=a9;obtain ⟨cW,dT,rfl,bJ⟩:=Q.rd.ex oM;have bt:=Q.rd.c1;have ea:(f:Int) < B:=zj ((aj.1).lt Q.rd.len)
 have ed:(b:Int) < B:=zj ((az.1).lt Q.rd.len)
 obtain ⟨_,bx,_,_,_,_,_,bw⟩:=Q.rd.at (show At8 x f [_,_,_,_,_,_,_,_] from aj.1);have bz:cd.cell? ⟨cW,f*8+1,none⟩=some (.int .i64 n):=bx;obtain ⟨_,_,_,_,_,_,_,bA⟩:=Q.rd.at (show At8 x b [_,_,_,_,_,_,_,_] from az.1);have e7:=Q.rd.a.lt;have e4:=bJ.lt;obtain ⟨a2,aK,ao,cq⟩:=hqq4 aj az (cB.out.trans al) b6;clear al av b6 aj az Q bJ bx;go_upto_region 12 with fail;rw [cq.out];clear cK cN;go_wp2_with fail;refine aQ.mono ?_;rintro d es ⟨rfl,rfl⟩;clear aQ;go_wp2_with fail;by_cases aZ:v.length+w.length<=128
 .refine (xI bn a2.2.2 aK bP cZ d0 aZ).mono ?_;rintro d X ⟨rfl,a1,aE,M,C,Z⟩;have a8:=C _ _ (λa=>p.2.1 (zDa.1 a)) bi;have c2:=C _ _ (λa=>p.2.2.2.2.2.1 (zDa.1 a).symm) a2.1;have am:=C _ _ (λa=>p.2.2.2.1 (zDa.1 a).symm) aK.1;have a4:=a2.2.1.but C Z (λm r a=>(p.2.2.2.2.2.2.1 m r).2.2.1 (zDa.1 a)) cj;obtain ⟨A,W⟩:=eqx (v++w);rw [W] at M;obtain ⟨aA,b3⟩:=eqx A.length;obtain ⟨aB,b4⟩:=eqx (A.count true);have c4:At8 a1 n (lH (aA:Int) (aB:Int) q):=(by rw [<-b3,<-b4];exact M.1);obtain ⟨e1,dJ,dQ,eq,R⟩:=aE;obtain ⟨z,dU,rfl,ax⟩:=R.rd.ex oM;have cI:=R.rd.c1;have e8:=R.rd.a.lt;have e5:=ax.lt;have aR:=ax.frozen (c*8);obtain ⟨ba,_⟩:=R.rd.at a8;obtain ⟨cf,_⟩:=R.rd.at (show At8 a1 f [_,_,_,_,_,_,_,_] from c2);obtain ⟨I,U⟩:=eqx i.num;have dy:X.cell? ⟨z,f*8,none⟩=some (.int .i64 I):=(by rw [<-U];exact cf);have bE:=R.put (c*8) (.int .i64 I);have N:LK t [] X (X.setCell ⟨z,c*8,none⟩ (.int .i64 I)):=LK.set ax dC (OwnF.at R.own) _;have D:ButL [c] a1 (a1.set (c*8) (.int .i64 I)):=(But8.set c a1 (j:=0) oM _).l zs;have ak:=a8.set (j:=0) oM (.int .i64 I);have b8:=D _ _ (λa=>p.2.1 (zDa.1 a).symm) c4;have cb:=D _ _ (λa=>p.2.2.1 (zDa.1 a).symm) am;have bu:=a4.but D N (λm r a=>(p.2.2.2.2.2.2.1 m r).1 (zDa.1 a)) zs;have G:Below (X.setCell ⟨z,c*8,none⟩ (.int .i64 I)).heap.size (X.setCell ⟨z,c*8,none⟩ (.int .i64 I)) (X.setCell ⟨z,c*8,none⟩ (.int .i64 I)).drew:=bR.drew;have S:=bE.below G;have aC:=N.trans (LK.below (F:=t) (bl:= []) G);have aO:=bu.below G;have ap:=aC.a q _ zs M.2;obtain ⟨an,b7⟩:=eqx ((X.setCell ⟨z,c*8,none⟩ (.int .i64 I)).drew);rw [b7] at S aC aO ap;obtain ⟨dV,aW⟩:=fE S.rd.row;have cJ:=S.rd.c1;have d8:=S.rd.a.lt;have d5:=aW.lt;have ec:(n:Int) < B:=(zj (b8.lt S.rd.len));obtain ⟨dg,dh,di,dj,dk,dl,dm,dn⟩:=S.rd.at b8;obtain ⟨bo,bg,aH,cn,bm⟩:=hqq5 S aO ap ak cb;have co:=lhd ((C.mono (l':=c::(e.nums++o.nums)) (by simp [g.out.1,LT.nums])).trans (D.mono zs));have bk:=lhd ((ao.out.mono (bl':=e.blks++o.blks) zs).trans ((Z.mono (bl':=e.blks++o.blks) (λy _ a5=>by
   rw [g.1,g.2];simp only [zDf,zDh,or_false] at a5;rcases a5 with rfl | rfl <;> simp [LT.blks])).trans (aC.mono zs)))
  obtain ⟨aI,aL,cr,aM,cu,cv⟩:=hqq6 aW U b7 W b3 b4;clear R bE S M a4 bu aO a8 ak am cb c2 c4 b8 C D Z N aC G ap bt bw bz bA ax aW U b7 cf W b3 b4;go_wp2_with fail
  go_region
  rw [cr.out];clear cI aR ba dy;go_wp2_with fail
  go_still_tail 13,kR
  change wpList _ _ _ _ _ an.drew;have G:Below an.heap.size an an.drew:=bR.drew;have aV:=bo.below G;have H:=aI.below G aI.lt;have bv:=bg.below G;have aN:=aH.below G aH.lt;have ca:=bk.trans (LK.below (F:=t) (bl:=e.blks++o.blks) G);clear cJ dg dh di dj dk dl dm dn d8 d5 G bo bg aH bk aI;generalize an.drew=w7 at*
  have d6:=H.lt;obtain ⟨ba,bb,bc,bd,be,ce,dv,dw⟩:=aV.rd.at (show At8 _ b [_,_,_,_,_,_,_,_] from bm.out);have cO:=H.frozen (b*8);have cP:=H.frozen (b*8+1);have cQ:=H.frozen (b*8+2);have cR:=H.frozen (b*8+3);have aR:=H.frozen (b*8+4);have cS:=H.frozen (b*8+5);have cT:=H.frozen (b*8+6);have cU:=H.frozen (b*8+7);obtain ⟨af,bF,bH,a6⟩:=aV.c9 H bm (-1) (-1) 0 (aA:Int) (aB:Int) 0 0 (some ⟨q,0,none⟩);obtain ⟨ae,aU⟩:=eqx (((((((((w7.setCell ⟨z,b*8,none⟩ (.int .i64 (-1))).setCell ⟨z,b*8+1,none⟩ (.int .i64 (-1))).setCell ⟨z,b*8+2,none⟩ (.int .i64 0)).setCell ⟨z,b*8+3,none⟩ (.int .i64 aA)).setCell ⟨z,b*8+4,none⟩ (.int .i64 aB)).setCell ⟨z,b*8+5,none⟩ (.int .i64 0)).setCell ⟨z,b*8+6,none⟩ (.int .i64 0)).setCell ⟨z,b*8+7,none⟩ (.pointer (some q))));rw [aU] at af a6;have aF:=bH.l (l:= [b]) zs;have E:Below ae.heap.size ae (ae.alloc (.cells #[(n:Int),(f:Int)] 3)):=bR.alloc nL _;have ag:=af.below E;have bW:=kd ae 3 #[(n:Int),(f:Int)];have dM:=af.rd.c0;have e9:=af.rd.a.lt;have b9:=ca.trans (a6.mono (bl':=e.blks++o.blks) zs);have ef:s.heap.size<=ae.heap.size:=b9.keep.size;have bO:=aBn ag (λa3 T=>bq a3 (by rw [sZ0] at T;omega)) (Hn n (by simp [g.1,LT.nums])) p.2.2.2.2.2.2.2.1 (Hn f (by simp [g.1,LT.nums])) p.2.2.2.2.2.2.2.2 p.2.2.2.2.2.1 bW da;have ct:=lhd bO;have ci:=lhd ((bv.but aF a6 (λm r a=>(p.out.2.2.2.2.2.2.1 m r).2.2.2 (zDa.1 a)) zs).below E);obtain ⟨cg,cA,cE⟩:=hqq3 ((a6.a q _ zs aN).below E (a6.a q _ zs aN).lt) (aF _ _ (λa=>p.out.2.2.1 (zDa.1 a)) cn.out) bF;have cG:=lhd (co.out.trans (aF.mono (l':=c::(e.nums++o.nums)) (by simp [g.out.2,LT.nums])));obtain ⟨cD,cp⟩:=hqq2 (b9.trans (LK.below E)) aU;clear aV H af bF bH a6 ag bW b9 ca bv aN aF bO aU E;go_upto_region 9 with fail;rw [cp.out];clear ba bb bc bd be ce dv dw cO cP cQ cR aR cS cT cU d6;go_wp2_with fail;refine ct.mono ?_;rintro d dt ⟨rfl,ag,aD⟩
  have aJ:=lhd (show qS t L B c e o x u a0 O s (.returned (.int .i64 c)) dt from
   ⟨_,u++ [n,f],_,⟨_,_,_,_,ag⟩,.inr rfl,cG,cD.trans (aD.mono zs),.inr ⟨i,.lf b q A,rfl,by rw [bj.out,zBx aZ,aM.out];rfl,⟨_,_,_,_,_,by rw [aL.out];exact cA⟩,ci.but (ButL.refl [] _) aD zs zs,⟨by
    have P:(LT.lf b q A).cells=lH (aA:Int) (aB:Int) q:=(by show lH ((A.length:Nat):Int) ((A.count true:Nat):Int) q=_;rw [cu.out,cv.out]);rw [P];exact cE,aD.a q _ zs cg⟩,by
    rw [g.1,g.2,zDc];intro aa;simp only [LT.nums,zDg,zCc,zEz];omega,by
    have E:=bp.out;rw [g.1,g.2] at E;refine E.sublist ?_
    simp [LT.blks],λaa a7=>.inl (by
     rw [g.1,g.2];simp only [LT.blks,zCp,zDa] at a7⊢;rcases a7 with d | d <;> simp [d])⟩⟩)
  clear ag aD;go_wp2_with fail;go_ret;exact aJ
 .refine (aBk bn a2.2.2 aK bP p.2.2.2.1 (λa3 T=>bq a3 (zAk ao.keep.size T)) oM cX cY).mono ?_;rintro d X ⟨rfl,a1,au,aS,aE,M,c1,cV,dW,dX,C,Z⟩;have d9:c∉ [n,b]:=λa=>by simp only [zDf,zDh,or_false] at a;rcases a with a | a;exact p.2.1 a;exact p.2.2.1 a
  have df:f∉ [n,b]:=λa=>by simp only [zDf,zDh,or_false] at a;rcases a with a | a;exact p.2.2.2.2.2.1 a.symm;exact p.2.2.2.2.1 a.symm
  have a8:=C _ _ d9 bi;have am:=C _ _ df a2.1;have a4:=a2.2.1.but C Z (λm r a=>by
   have:=p.2.2.2.2.2.2.1 m r;simp only [zDf,zDh,or_false] at a;rcases a with a | a;exact this.2.2.1 a
   .exact this.2.2.2 a) zs
  obtain ⟨A,W⟩:=eqx ((v++w).take ((v.length+w.length)/ 2));rw [W] at M;have de:A.length<=256:=(by rw [<-W,zAj,zAi];omega);have dd:A.count true<=A.length:=zBv;obtain ⟨I,U⟩:=eqx i.num;obtain ⟨dK,b1,dL,ap,el,aG⟩:=a4.R;have sC:i.L:=(by have:=cw.out;rw [g.1] at this;exact this.l);obtain ⟨dp,dq⟩:=sC;have db:=i.on_le;rw [U] at aG;have bM:=kG (k:=f) aE (by rw [<-U];exact am) aG (show At8 a1 n (xA (-1) (-1) 0 A.length (A.count true) 0 0 (some ⟨au,0,none⟩)) from M.1) oM oM oM oM oM oM;obtain ⟨cs,cz,cx,cy,ch,cF,cC,aM,aL⟩:=hqq9 bM a8 M c1 a4 C (ao.out.trans Z) W U;have ee:=ao.keep.size;clear bM a8 M c1 a4 C Z aE am aG W U dp dq db de dd bt bw bz bA;go_wp2_with fail;refine cs.mono ?_;rintro d ds ⟨rfl,dx,cc,ak,D,N,_⟩
  have aJ:=lhd (show qS t L B c e o x u a0 O s (.returned (.int .i64 c)) ds from
   ⟨dx,u,_,cc,.inr rfl,(cF.mono (l':=c::(e.nums++o.nums)) (λm r=>by
    rw [g.1,g.2];simp only [zDf,zDh,or_false] at r
    rcases r with rfl | rfl <;> simp [LT.nums])).trans ((D.l (l:=c::(e.nums++o.nums)) (by simp [g.1,LT.nums]))),(cC.trans N).mono zs,.inr ⟨.nd f i (.lf n au A),.lf b aS _,rfl,by rw [bj.out,zBw aZ,<-aM.out];rfl,⟨_,_,_,_,_,D _ _ p.1 cz⟩,⟨by
     have P:=ak;rw [<-aL.out] at P;exact P,ch.but (D.l (l:= [f]) zs) N (λm r a=>(p.2.2.2.2.2.2.1 m r).2.1 (zDa.1 a)) zs,cx.but (D.l (l:= [f]) zs) N (λm r a=>p.2.2.2.2.2.1 (by have P:=zDa.1 a;have aP:m=n:=zDa.1 r;rw [<-P,aP])) zs⟩,cy.but (D.l (l:= [f]) zs) N (λm r a=>p.2.2.2.2.1 (by have P:=zDa.1 a;have aP:m=b:=zDa.1 r;rw [<-P,aP])) zs,by rw [g.1,g.2];exact .refl _,by
     have E:=bp.out;rw [g.1,g.2] at E;have aw:((i.blks++ [q])++ [K]).Nodup:=E;rw [zCo,zDb] at aw;have d1:∀y,y∈i.blks->y < s.heap.size:=λy a5=>by obtain ⟨dR,d2⟩:=cm.a y a5;exact d2.lt
     show ((i.blks++ [au])++ [aS]).Nodup;rw [zCo,zDb];refine ⟨aw.1,by simp [cV],λaa a7 et ay d=>?_⟩;have:=d1 aa a7;simp only [zFp,zDf,zDh,or_false] at ay;rcases ay with ay | ay <;> omega,λaa a7=>by
     rw [g.1,g.2];have bX:aa∈(i.blks++ [au])++ [aS]:=a7;simp only [zCp,zDa] at bX;rcases bX with (d | d)| d;exact .inl (by simp [LT.blks,d]);exact .inr oM
     .exact .inr oM⟩⟩)
  clear cc ak D N;go_wp2_with fail;go_ret;exact aJ
def aFH {y A I u} {b a:LT} {x s N O r} (k:TS r y A I x s N O) (m:Nd x u b.num a.num) (n:b.In r x) (o:a.In r x) (l:(b.blks++a.blks).Nodup) (B:∀K,K∈b.blks++a.blks->y K) (D:∀J,r.heap.size<=J->y J) (C:(u::(b.nums++a.nums)++s).Nodup) (E:∀M,M∈u::(b.nums++a.nums)++s->M < I) (F:s.length<=1000000) (G:b.er.Le) (H:a.er.Le) (T:b.L) (U:a.L) (R:b.J=true->a.ht<=1) (S:a.J=true->b.ht<=1):
 Calls prog 257 #[A,(u:Int)] r (qS y A I u b a x s N O r):=by
 cases b with
 | lf v L i=>
  cases a with
  | lf p z f=>
   by_cases e:i.length < 32∨f.length < 32;exact aM4 v L p z rfl rfl k m n o l B D C E F G H e;refine rL k m n o l (zBy oM) (zBy oM) ?_;show Tr.mend (.lf i) (.lf f)=_;simp only [Tr.mend];rw [zBw e];rfl
  | nd p d c=>
   by_cases e:i.length < 32
   .have P:=R (zBz e);cases d with
    | lf w t f=>exact aM3 v L p w t c rfl rfl k m n o l B D C E F G H.1 e U
    | nd j g q=>
     have Q:(LT.nd p (.nd j g q) c).ht=max (max g.ht q.ht+1) c.ht+1:=rfl;omega
   .refine rL k m n o l (zBy oM) rfl ?_;show Tr.mend (.lf i) (.nd d.er c.er)=_;cases d with
    | lf w t f=>
     show Tr.mend (.lf i) (.nd (.lf f) c.er)=_;simp only [Tr.mend];rw [zBw e];rfl
    | nd j g q=>rfl
 | nd v d c=>
  cases a with
  | lf p z f=>
   by_cases e:f.length < 32
   .have P:=S (zBz e);cases c with
    | lf w t i=>exact aM2 v z p w t d rfl rfl k m n o l B D C E F G.2 H e T
    | nd j g q=>
     have Q:(LT.nd v d (.nd j g q)).ht=max d.ht (max g.ht q.ht+1)+1:=rfl;omega
   .refine rL k m n o l rfl (zBy oM) ?_;show Tr.mend (.nd d.er c.er) (.lf f)=_;cases c with
    | lf w t i=>
     show Tr.mend (.nd d.er (.lf i)) (.lf f)=_;simp only [Tr.mend];rw [zBw e];rfl
    | nd j g q=>rfl
  | nd p j g=>
   refine rL k m n o l rfl rfl ?_;show Tr.mend (.nd d.er c.er) (.nd j.er g.er)=_;cases c <;> cases j <;> rfl
def aK2 {a b:Nat} (c:a≠b):((a:Int)==b)=false:=by rw [zCb];omega
def aJ9 {a b:List Nat} {c d:Nat} (f:a.length=d) (g:b.length=d) (e:a.take c=b.take c) (i:d<=c):a=b:=by
 rw [zAg oM,zAg oM] at e;exact e
def xT {w x:Option Addr} {b:Nat} (D:Nat) {g:Nat} (E:Nat) {B C:Nat} {c d:List Nat} {e:World} (y:Rd e B 1 w b (c.map sv)) (z:Rd e C 1 x g (d.map sv)) (P:b<=1099511627776) (Q:g<=1099511627776):
 Calls prog 29 #[.slice w b D,.slice x g E] e λH L=>H=.returned (.bool (decide (c=d)))/\Below e.heap.size e L:=by
 have j:c.length=b:=by simpa using y.1
 have k:d.length=g:=by simpa using z.1
 by_cases m:b=g
 .subst m;go_enter func29,ntmps29;go_wp2;go_loopw [5] (λt wr=>∃a:Nat,a<=b/\t=.int .i64 a/\c.take a=d.take a/\∃J,wr=e.drewN J) (λt _=>b -(intOf t).toNat)
  case atStart=>exact ⟨0,zAp _,rfl,rfl,0,rfl⟩
  case round=>
   obtain ⟨a,O,rfl,n,R,rfl⟩:=hrel;by_cases A:a < b
   .obtain ⟨u,q⟩:∃u,c[a]?=some u:=⟨c[a]'(zj j),zAa (zj j)⟩;obtain ⟨v,s⟩:∃v,d[a]?=some v:=⟨d[a]'(zj k),zAa (zj k)⟩;obtain ⟨b1,S,U,rfl,M,o,F⟩:=y.get A;obtain ⟨b2,T,V,rfl,N,p,G⟩:=z.get A;rw [zAf,q] at o;rw [zAf,s] at p;simp only [zEq,zEB] at o p;subst o;subst p;unfold sv at F G;by_cases r:u=v
    .subst r;go_wp2;go_quiet (fail);go_wp2;go_roundw
     case rel=>refine ⟨a+1,by omega,by go_num,?_,_,rfl⟩;rw [zAv,zAv,n,q,s]
     case measure=>exact zr
    .have K:=aK2 r
     have f:c≠d:=λl=>r (by
      have i:=q;rw [l,s] at i;injection i with i;exact i.symm)
     go_wp2;go_quiet (fail);go_wp2;go_ret;exact ⟨bH (by rw [zBy f]),km (km bR _) _⟩
   .have I:b<=a:=oM;have f:=(aJ9 j k n I);clear n;go_wp2;go_ret;exact ⟨bH (by rw [zBz f]),km bR _⟩
 .have f:c≠d:=λl=>m (by rw [<-j,<-k,l]);have K:=aK2 m;go_enter func29,ntmps29;go_wp2;go_ret;exact ⟨bH (by rw [zBy f]),kg _ _⟩
end Go.Proofs.YtknjfpcdhdmghaaGreatDoor
