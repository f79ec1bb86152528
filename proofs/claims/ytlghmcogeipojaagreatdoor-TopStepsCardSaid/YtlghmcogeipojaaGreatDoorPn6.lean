/- Lemmas of the walk. Conditions: each its own. -/
import Derived.Test.YtlghmcogeipojaaGreatDoorPn5
set_option linter.all false
set_option maxRecDepth 100000
set_option maxHeartbeats 4000000
open Go.Proofs.Tryz
namespace Go.Proofs.YtlghmcogeipojaaGreatDoor
open Go.RowKit Go.Shelf
def pE (f:Nat->Prop) (n o:Nat) (b:LT) (r:List Value) (g:List Nat) (p:Int) (l:Bool) (k:Tr) (j:World) (m:Ending) (d:World):Prop:=
 ∃(a:LT) (e:List Value) (i:List Nat) (q:Int),m=.returned (.tuple #[.int .i64 (a.num:Nat),.bool l])/\TS d f n o e i p q/\a.er=k/\a.In d e/\(a.nums++i).Perm (b.nums++g)/\a.blks.Nodup/\(∀c,c∈a.blks->c∈b.blks∨j.heap.size<=c)/\ButL (b.nums++g) r e/\LK f b.blks j d
def LK.trans' {b c e d w1 l} (g:LK b c d w1) (k:LK b e w1 l) (m:∀a,a < d.heap.size->a∈e->a∈c):LK b c d l:=
 ⟨g.keep.trans k.keep,λa f j i=>k.a a f (λn=>j (m a i.lt n)) (g.a a f j i)⟩
def aM5 (a b:Tr):(Tr.mend a b).ht<=max a.ht b.ht+1:=by
 unfold Tr.mend;split
 .split
  .split <;> simp [Tr.ht]
  .simp [Tr.ht]
 .split
  .split <;> simp [Tr.ht] <;> omega
  .simp [Tr.ht]
 .split
  .split <;> simp [Tr.ht] <;> omega
  .simp [Tr.ht]
 .simp [Tr.ht]
def aHV {a b e f:LT} (g:Tr.mend a.er b.er=.nd e.er f.er) (i:max a.ht b.ht+1<=100000) (j:a.len+b.len<=100000):e.L/\f.L:=by
 have c:=aM5 a.er b.er;have d:=congrArg List.length (Tr.mend_bits a.er b.er);rw [g] at c d;simp only [Tr.ht,Tr.bits,zAi] at c d;refine ⟨⟨?_,?_⟩,⟨?_,?_⟩⟩<;> simp only [LT.ht,LT.len] at*<;> omega
def aCp {o g u d e b a n i I K f} (z:TS f o g u n i I K) (Y:(LT.lf e b a).In f n) (X:o b) (Z:a.length<=128) (D:d < a.length):
 Calls prog 230 #[g,(e:Int),(d:Int)] f (pE o g u (.lf e b a) n i I (a.getD d false) (.lf (aK a d)) f):=by
 obtain ⟨j,B⟩:=Y;obtain ⟨t,F⟩:=eqx a.length;obtain ⟨v,G⟩:=eqx (a.count true);obtain ⟨a5,q⟩:=eqx (a.getD d false);have E:At8 n e (lH (t:Int) (v:Int) b):=by rw [<-F,<-G];exact j
 obtain ⟨A,w,m⟩:=nR (k:=d) (cs:=#[.int .i64 (-1),.int .i64 (-1),.int .i64 0,.int .i64 t,.int .i64 v,.int .i64 0,.int .i64 0,.pointer (some b)]) z;obtain ⟨aj,a4,a8,ap,c⟩:=z;obtain ⟨W,a9,rfl,r⟩:=c.rd.ex (zj (j.lt c.rd.len));have a6:=c.rd.c1;have a7:=c.rd.c3;have ai:=c.rd.a.frozen 3;have am:=c.rd.a.lt;have al:=r.lt;have ao:g≠W:=Bk.ne c.rd.a r dC;have an:(e:Int) < u:=zj (j.lt c.rd.len)
 obtain ⟨aa,ab,ac,ad,ae,af,ag,ah⟩:=c.rd.at E;obtain ⟨U,p⟩:=eqx ((f.setCell ⟨g,3,none⟩ (.int .i64 (wrap64 (K+1)))).alloc (.cells #[(-1:Int),(-1:Int),o0,(t:Int),(v:Int),o0,o0,b] 226));rw [p] at A w m;have a3:U.cell? ⟨f.heap.size,7,none⟩=some (.pointer (some b)):=(m.cell 7).trans rfl;have ak:=m.lt;have Q:=lhd p;have y:=(w.a b _ zs B);have R:=lhd q;have S:=(show (aK a d).length<=128 by have:=cJ D;omega);clear m p B j F G c r;unfold pE;rw [q];clear q;go_enter func230,ntmps230;go_wp2_with fail;rw [Q.out];refine (yX y Z D).mono ?_;rintro V aq ⟨rfl,C,s⟩;rw [R.out];have M:=(A.a y s);have T:=((w.mono (bl':= [b]) zs).trans (LK.one s X));clear s a3;go_wp2_with fail;refine (lU M E C S).mono ?_;rintro V a2 ⟨rfl,L,a1,H,J,x,_⟩;have N:=(show (LT.lf e b (aK a d)).In a2 L from ⟨H,x.a b _ zs C⟩);have P:=(J.l (l:= [e]++i) zs);have O:=(T.trans (x.mono zs));clear H J x;go_wp2_with fail;go_ret2;exact ⟨.lf e b (aK a d),L,i,_,rfl,a1,rfl,N,.refl _,by simp [LT.blks],λar a0=>.inl a0,P,O⟩
def aJg {p t n C b} {d a:LT} {r:Tr} (F) {aI x l N bt o} (aM:TS o p t n x l N bt) (c8:(LT.nd b d a).In o x) (b7:((LT.nd b d a).nums++(aI++l)).Perm (List.range n)) (ag:(LT.nd b d a).blks.Nodup) (Q:∀f,f∈(LT.nd b d a).blks->p f) (aS:∀E,o.heap.size<=E->p E) (c9:C < d.len) (S:(LT.nd b d a).L) (aO:r.ht<=d.ht/\r.bits.length<=d.len) (cW:n<=50000) (cn:r.Le) (cj:a.er.Le) (sh:∀g:LT,g.er=r->g.J=true->a.ht<=1) (bn:a.J=false) (bc:∀B co,TS B p t n x l N co->d.In B x->LK p [] o B->Calls prog 230 #[t,(d.num:Int),(C:Int)] B (pE p t n d x l N F r B)):
 Calls prog 230 #[t,(b:Int),(C:Int)] o (pE p t n (.nd b d a) x l N F (Tr.rebal (Tr.mend r a.er)) o):=by
 obtain ⟨a1,aU,al⟩:=c8;obtain ⟨I,a2⟩:=eqx d.len;obtain ⟨av,b1⟩:=eqx d.on;obtain ⟨aw,b4⟩:=eqx (d.len+a.len);obtain ⟨ay,b5⟩:=eqx (d.on+a.on);obtain ⟨aj,aT⟩:=eqx (max d.ht a.ht+1);obtain ⟨au,b0⟩:=eqx d.num;obtain ⟨aA,ao⟩:=eqx a.num;have aV:At8 x b (ndL au aA aj aw ay I av):=by rw [<-a2,<-b1,<-b4,<-b5,<-aT,<-b0,<-ao];exact a1
 have b8:d.L:=S.l;have cf:a.L:=S.r;rw [a2] at c9;have cT:I<=100000:=by rw [<-a2];exact b8.2
 obtain ⟨ac,L,bu⟩:=nR (k:=C) (cs:=#[.int .i64 au,.int .i64 aA,.int .i64 aj,.int .i64 aw,.int .i64 ay,.int .i64 I,.int .i64 av,.pointer none]) aM;obtain ⟨cO,cw,cB,d5,u⟩:=aM;obtain ⟨bX,cC,rfl,ai⟩:=u.rd.ex (zj (a1.lt u.rd.len));have cz:=u.rd.c1;have cA:=u.rd.c3;have cL:=u.rd.a.frozen 3;have cR:=u.rd.a.lt;have cQ:=ai.lt;have cX:t≠bX:=Bk.ne u.rd.a ai dC;have cS:(b:Int) < n:=zj (a1.lt u.rd.len)
 obtain ⟨cE,cF,cG,cH,cI,bS,cJ,cK⟩:=u.rd.at aV;obtain ⟨B,ad⟩:=eqx ((o.setCell ⟨t,3,none⟩ (.int .i64 (wrap64 (bt+1)))).alloc (.cells #[(au:Int),(aA:Int),(aj:Int),(aw:Int),(ay:Int),(I:Int),(av:Int),.pointer none] 226));rw [ad] at ac L bu;have aZ:=aU.but (ButL.refl [] _) L zs zs;have cb:=al.but (ButL.refl [] _) L zs zs;have ak:=bc B _ ac aZ L;rw [b0] at ak;have cM:=zy ((C:Int) < I);have cN:=zy (C < I);have bC:=lhd ad;have aH:=ag;have bF:=lhd ao;have bE:=(al.a);have bI:=lhd bn;clear ac bu ad aZ bc a1 a2 b1 b4 b5 aT ao aU al u ai ag b8 cf bn;go_enter func230,ntmps230;go_wp2_with fail;rw [bC.out];refine ak.mono ?_;rintro s aC ⟨g,aE,H,d6,rfl,ck,y,ba,az,bi,aa,a7,a6⟩;clear ak;obtain ⟨ci,a5,ax⟩:=iR b7;have aX:b∉d.nums++l:=λc=>by rcases zCp.1 c with c | c;have:=ax;rw [LT.nums,zDe] at this;exact this.1 (by simp [c]);exact (a5 b (by simp [LT.nums])).1 (by simp [c])
 have b6:∀e,e∈a.nums->e∉d.nums++l:=λe i c=>by rcases zCp.1 c with c | c;have:=ax;rw [LT.nums,zDe,zDb] at this;exact this.2.2.2 _ c _ i rfl;exact (a5 e (by simp [LT.nums,i])).1 (by simp [c])
 have am:∀f,f∈a.blks->f∉d.blks:=λf i c=>by have:=aH;rw [LT.blks,zDb] at this;exact this.2.2 _ c _ i rfl
 have a4:=a7 _ _ aX aV;have bd:=cb.but a7 a6 b6 am;obtain ⟨bV,cx,bO,cl,z⟩:=ck;obtain ⟨aK,cD,rfl,Y⟩:=z.rd.ex (zj (a4.lt z.rd.len));have bM:=z.rd.c1;have c6:=z.rd.a.lt;have c4:=Y.lt;have bU:=Y.frozen (b*8);obtain ⟨cu,cv,_⟩:=z.rd.at a4;obtain ⟨U,ap⟩:=eqx g.num;have af:=z.put (b*8) (.int .i64 U);have M:LK p [] aC (aC.setCell ⟨aK,b*8,none⟩ (.int .i64 U)):=LK.set Y dC (OwnF.at z.own) _;obtain ⟨bK,ae⟩:=eqx (aC.setCell ⟨aK,b*8,none⟩ (.int .i64 U));rw [ae] at af M;have a8:ButL [b] aE (aE.set (b*8) (.int .i64 U)):=(But8.set b aE (j:=0) oM _).l zs;have bg:=a4.set (j:=0) oM (.int .i64 U);have an:((b::(g.nums++a.nums)++H)++aI).Perm (List.range n):=by refine List.Perm.trans ?_ b7;have O:=zDc.1 az;rw [zDc];intro q;have:=O q;simp only [LT.nums,zDg,zCc] at this⊢;omega
 have b3:=an.nodup_iff.2 zDl;have Z:(b::(g.nums++a.nums)++H).Nodup:=(zDb.1 b3).1;have ca:∀e,e∈b::(g.nums++a.nums)++H->e < n:=λe i=>zCj.1 (an.mem_iff.1 (zDE _ i));have aR:H.length<=1000000:=by have:=an.length_eq;rw [zAi,zAi,zCi] at this;omega
 have aY:∀e,e∈g.nums->e∉ [b]:=λe i c=>by have P:=Z;rw [zEm,zDe] at P;have s:=zDa.1 c;exact P.1 (by rw [<-s];simp [i])
 have aW:∀e,e∈a.nums->e∉ [b]:=λe i c=>by have P:=Z;rw [zEm,zDe] at P;have s:=zDa.1 c;exact P.1 (by rw [<-s];simp [i])
 have bf:=ba.but a8 M aY zs;have be:=bd.but a8 M aW zs;have cg:g.L:=by obtain ⟨bv,bw⟩:=aO;obtain ⟨bx,O⟩:=S.l;exact ⟨by show g.er.ht<=_;rw [y];exact zAk bv bx,by show g.er.bits.length<=_;rw [y];exact zAk bw O⟩
 have ce:=L.keep.size;have cc:=a6.keep.size;have cd:=M.keep.size;have W:(g.blks++a.blks).Nodup:=by have W:=aH;rw [LT.blks,zDb] at W;rw [zDb];refine ⟨bi,W.2.1,λq T da b9 s=>?_⟩;subst s;rcases aa q T with c | c;exact am q b9 c;obtain ⟨bQ,c3⟩:=bE q b9;have ct:=c3.lt;omega
 have X:∀f,f∈g.blks++a.blks->f∈(LT.nd b d a).blks∨o.heap.size<=f:=λf v=>by rcases zCp.1 v with c | c;rcases aa f c with bh | bh;exact .inl (by simp [LT.blks,bh]);exact .inr oM;exact .inl (by simp [LT.blks,c])
 have aN:∀f,f∈g.blks++a.blks->p f:=λf v=>by rcases X f v with c | c;exact Q f c;exact aS f c
 have b2:=aFH ⟨bV,_,bO,cl,af⟩ (show Nd _ b g.num a.num from ⟨_,_,_,_,_,by rw [ap,bF.out];exact bg⟩) bf be W aN (λE ag=>aS E oM) Z ca aR (y ▸ cn) cj cg S.r (λa0=>sh g y a0) (λa0=>by rw [bI.out] at a0;cases a0);have bJ:=((a7.mono (l':=(LT.nd b d a).nums++l) (λe i=>by rcases zCp.1 i with w | w <;> simp [LT.nums,w])).trans (a8.mono (by simp [LT.nums])));have bH:=((L.mono (bl':=(LT.nd b d a).blks) zs).trans ((a6.mono (bl':=(LT.nd b d a).blks) (λf _ v=>by simp [LT.blks,v])).trans (M.mono zs)));have aG:=lhd y;have bB:=(show ∀A D:LT,Tr.mend g.er a.er=.nd A.er D.er->A.L/\D.L from λA D s=>by
  obtain ⟨bv,bw⟩:=aO;obtain ⟨bx,O⟩:=S;have ct:g.ht=r.ht:=congrArg Tr.ht y;have d7:g.len=r.bits.length:=congrArg (λw=>w.bits.length) y;have d8:=LT.len_nd b d a;have d9:(LT.nd b d a).ht=max d.ht a.ht+1:=rfl;exact aHV s oM oM)
 obtain ⟨bD,bG⟩:=hqq2 ae ap;have cY:o.heap.size<=bK.heap.size:=oM;have d4:∀e,e∈g.nums->e∈d.nums∨e∈l:=λe i=>by have:=az.mem_iff.1 (zDE H i);exact zCp.1 this
 have cy:=(show ∀e,e∈(LT.nd b d a).nums->e∉l from λe i c=>(a5 e i).1 (List.mem_append_right _ c));clear z Y af M a8 bg a4 aY aW bf be bd ba a7 a6 bi aa y am aX b6 ci a5 ax ae ap aN aR b3 ce cc cd;go_wp2_with fail;rw [bG.out,bD.out];clear bM c6 c4 bU cu cv;refine b2.mono ?_;rintro s aD ⟨aF,ab,cp,aB,_,br,bk,c2⟩;clear b2;have ah:LK p (LT.nd b d a).blks o aD:=bH.trans' bk λf v c=>by rcases X f c with w | w;exact w;omega
 have cZ:o.heap.size<=aD.heap.size:=ah.keep.size;have V:(b::(g.nums++a.nums)++H).Perm ((LT.nd b d a).nums++l):=by have O:=zDc.1 az;rw [zDc];intro q;have:=O q;simp only [LT.nums,zDg,zCc] at this⊢;omega
 have aP:ButL ((LT.nd b d a).nums++l) x aF:=bJ.trans (br.mono λe i=>V.mem_iff.1 (zDE _ i));clear br bk;rcases c2 with ⟨c,f,E,rfl,G,a3,K,aL⟩|⟨A,D,rfl,G,J,aq,ar,K,ch,bL⟩
 .obtain ⟨bW,bz,bP,cm,m⟩:=aB;have cV:c < n:=(zj (a3.1.lt m.rd.len));obtain ⟨bY,bR,rfl,R⟩:=m.rd.ex oM;have bN:=m.rd.c1;have c7:=m.rd.a.lt;have c5:=R.lt;have cU:(c:Int) < n:=oM;obtain ⟨_,_,_,_,_,_,_,bT⟩:=m.rd.at (show At8 aF c [_,_,_,_,_,_,_,_] from a3.1)
  have Q:=(show pE p t n (.nd b d a) x l N F (Tr.rebal (Tr.mend r a.er)) o (.returned (.tuple #[.int .i64 (c:Nat),.bool F])) aD from
   ⟨.lf c f E,aF,ab,cp,rfl,⟨_,_,_,_,m⟩,by rw [<-aG.out,G];rfl,a3,K.trans V,by simp [LT.blks],λq T=>X q (by rw [zDa.1 T];exact aL),aP,ah⟩)
  clear m a3 K aL G R;go_wp2_with fail;go_ret2;exact Q
 .obtain ⟨bm,bo⟩:A.L/\D.L:=bB A D G;have aQ:(b::(A.nums++D.nums)).Nodup:=(zDb.1 (K.nodup_iff.2 Z)).1;have bZ:=zP aB J aq ar aQ bm bo;obtain ⟨bW,bz,bP,cm,m⟩:=aB;obtain ⟨cP,d2,d3,d0,d1,J⟩:=J;obtain ⟨bY,bR,rfl,R⟩:=m.rd.ex (zj (J.lt m.rd.len));have bN:=m.rd.c1;have c7:=m.rd.a.lt;have c5:=R.lt;obtain ⟨_,_,_,_,_,_,_,bT⟩:=m.rd.at J;have bA:=lhd G;have c0:=λf v=>aq.a f v;have c1:=λf v=>ar.a f v;clear m R G J aq ar aQ bm bo c0 c1;go_wp2_with fail;refine bZ.mono ?_;rintro s cq ⟨bp,cr,bS,rfl,bq,_,bb,aJ,bj,a9,bs,bl⟩
  have Q:=(show pE p t n (.nd b d a) x l N F (Tr.rebal (Tr.mend r a.er)) o (.returned (.tuple #[.int .i64 (bp.num:Nat),.bool F])) cq from
   ⟨bp,cr,ab,_,rfl,bq,by rw [aJ,<-aG.out,bA.out];rfl,bb,(bj.append_right ab).trans (K.trans V),a9.nodup_iff.2 ch,λq T=>by
    rcases bL q (a9.mem_iff.1 T) with w | w;exact X q w
    .exact .inr oM,aP.trans (bs.mono λe i=>V.mem_iff.1 (K.mem_iff.1 (zDE _ i))),ah.trans (bl.mono zs)⟩)
  clear bq bb aJ bj a9 bs bl;go_wp2_with fail;go_ret2;exact Q
def aJf {p u n q b} {a d:LT} {s:Tr} (G) {aJ z l O bs o} (aN:TS o p u n z l O bs) (c7:(LT.nd b a d).In o z) (b6:((LT.nd b a d).nums++(aJ++l)).Perm (List.range n)) (ag:(LT.nd b a d).blks.Nodup) (R:∀f,f∈(LT.nd b a d).blks->p f) (aT:∀F,o.heap.size<=F->p F) (c8:¬q < a.len) (cU:q<=100000) (T:(LT.nd b a d).L) (aP:s.ht<=d.ht/\s.bits.length<=d.len) (cZ:n<=50000) (cn:s.Le) (cj:a.er.Le) (sh:∀g:LT,g.er=s->g.J=true->a.ht<=1) (bm:a.J=false) (aq:∀D co,TS D p u n z l O co->d.In D z->LK p [] o D->Calls prog 230 #[u,(d.num:Int),.int .i64 (q - a.len:Nat)] D (pE p u n d z l O G s D)):
 Calls prog 230 #[u,(b:Int),(q:Int)] o (pE p u n (.nd b a d) z l O G (Tr.rebal (Tr.mend a.er s)) o):=by
 obtain ⟨a1,al,aV⟩:=c7;obtain ⟨x,a2⟩:=eqx a.len;obtain ⟨aw,b0⟩:=eqx a.on;obtain ⟨ax,b3⟩:=eqx (a.len+d.len);obtain ⟨az,b4⟩:=eqx (a.on+d.on);obtain ⟨aj,aU⟩:=eqx (max a.ht d.ht+1);obtain ⟨av,am⟩:=eqx a.num;obtain ⟨aB,b8⟩:=eqx d.num;have aW:At8 z b (ndL av aB aj ax az x aw):=by rw [<-a2,<-b0,<-b3,<-b4,<-aU,<-am,<-b8];exact a1
 have b9:a.L:=T.l;have ce:d.L:=T.r;rw [a2] at c8 aq;have cW:x<=100000:=by rw [<-a2];exact b9.2
 obtain ⟨ac,M,bt⟩:=nR (k:=q) (cs:=#[.int .i64 av,.int .i64 aB,.int .i64 aj,.int .i64 ax,.int .i64 az,.int .i64 x,.int .i64 aw,.pointer none]) aN;obtain ⟨cQ,cw,cB,d8,v⟩:=aN;obtain ⟨bW,cC,rfl,ai⟩:=v.rd.ex (zj (a1.lt v.rd.len));have cz:=v.rd.c1;have cA:=v.rd.c3;have cL:=v.rd.a.frozen 3;have cT:=v.rd.a.lt;have cS:=ai.lt;have d0:u≠bW:=Bk.ne v.rd.a ai dC;have cV:(b:Int) < n:=zj (a1.lt v.rd.len)
 obtain ⟨cE,cF,cG,cH,cI,bR,cJ,cK⟩:=v.rd.at aW;obtain ⟨D,ad⟩:=eqx ((o.setCell ⟨u,3,none⟩ (.int .i64 (wrap64 (bs+1)))).alloc (.cells #[(av:Int),(aB:Int),(aj:Int),(ax:Int),(az:Int),(x:Int),(aw:Int),.pointer none] 226));rw [ad] at ac M bt;have c9:=al.but (ButL.refl [] _) M zs zs;have b7:=aV.but (ButL.refl [] _) M zs zs;have ak:=aq D _ ac b7 M;rw [b8] at ak;have cM:=zn ((q:Int) < x);have cN:=zn (q < x);have cO:wrap64 (q -x)=((q - x:Nat):Int):=by unfold wrap64;omega
 have cP:((q:Int) -x)=((q - x:Nat):Int):=oM;have bB:=lhd ad;have aI:=ag;have bE:=lhd am;have bD:=(al.a);have bH:=lhd bm;clear ac bt ad b7 aq a1 a2 b0 b3 b4 aU am al aV v ai ag b9 ce bm;go_enter func230,ntmps230;go_wp2_with fail;rw [bB.out];refine ak.mono ?_;rintro t aD ⟨g,aF,I,d9,rfl,ck,A,ba,aA,bh,aa,a7,a6⟩;clear ak;obtain ⟨ci,a5,ay⟩:=iR b6;have aY:b∉d.nums++l:=λc=>by rcases zCp.1 c with c | c;have:=ay;rw [LT.nums,zDe] at this;exact this.1 (by simp [c]);exact (a5 b (by simp [LT.nums])).1 (by simp [c])
 have b5:∀e,e∈a.nums->e∉d.nums++l:=λe i c=>by rcases zCp.1 c with c | c;have:=ay;rw [LT.nums,zDe,zDb] at this;exact this.2.2.2 _ i _ c rfl;exact (a5 e (by simp [LT.nums,i])).1 (by simp [c])
 have an:∀f,f∈a.blks->f∉d.blks:=λf i c=>by have:=aI;rw [LT.blks,zDb] at this;exact this.2.2 _ i _ c rfl
 have a4:=a7 _ _ aY aW;have bc:=c9.but a7 a6 b5 an;obtain ⟨bU,cx,bN,cl,B⟩:=ck;obtain ⟨aL,cD,rfl,Y⟩:=B.rd.ex (zj (a4.lt B.rd.len));have bL:=B.rd.c1;have c5:=B.rd.a.lt;have c3:=Y.lt;have bT:=Y.frozen (b*8+1);obtain ⟨cu,cv,_⟩:=B.rd.at a4;obtain ⟨U,ap⟩:=eqx g.num;have af:=B.put (b*8+1) (.int .i64 U);have N:LK p [] aD (aD.setCell ⟨aL,b*8+1,none⟩ (.int .i64 U)):=LK.set Y dC (OwnF.at B.own) _;obtain ⟨bJ,ae⟩:=eqx (aD.setCell ⟨aL,b*8+1,none⟩ (.int .i64 U));rw [ae] at af N;have a8:ButL [b] aF (aF.set (b*8+1) (.int .i64 U)):=(But8.set b aF (j:=1) oM _).l zs;have bf:=a4.set (j:=1) oM (.int .i64 U);have ao:((b::(a.nums++g.nums)++I)++aJ).Perm (List.range n):=by refine List.Perm.trans ?_ b6;have P:=zDc.1 aA;rw [zDc];intro r;have:=P r;simp only [LT.nums,zDg,zCc] at this⊢;omega
 have b2:=ao.nodup_iff.2 zDl;have Z:(b::(a.nums++g.nums)++I).Nodup:=(zDb.1 b2).1;have ca:∀e,e∈b::(a.nums++g.nums)++I->e < n:=λe i=>zCj.1 (ao.mem_iff.1 (zDE _ i));have aS:I.length<=1000000:=by have:=ao.length_eq;rw [zAi,zAi,zCi] at this;omega
 have aZ:∀e,e∈g.nums->e∉ [b]:=λe i c=>by have Q:=Z;rw [zEm,zDe] at Q;have t:=zDa.1 c;exact Q.1 (by rw [<-t];simp [i])
 have aX:∀e,e∈a.nums->e∉ [b]:=λe i c=>by have Q:=Z;rw [zEm,zDe] at Q;have t:=zDa.1 c;exact Q.1 (by rw [<-t];simp [i])
 have be:=ba.but a8 N aZ zs;have bd:=bc.but a8 N aX zs;have cf:g.L:=by obtain ⟨bu,bv⟩:=aP;obtain ⟨bw,P⟩:=T.r;exact ⟨by show g.er.ht<=_;rw [A];exact zAk bu bw,by show g.er.bits.length<=_;rw [A];exact zAk bv P⟩
 have cd:=M.keep.size;have cb:=a6.keep.size;have cc:=N.keep.size;have W:(a.blks++g.blks).Nodup:=by have W:=aI;rw [LT.blks,zDb] at W;rw [zDb];refine ⟨W.1,bh,λr J dd cg t=>?_⟩;subst t;rcases aa r cg with c | c;exact an r J c;obtain ⟨bP,c2⟩:=bD r J;have ct:=c2.lt;omega
 have X:∀f,f∈a.blks++g.blks->f∈(LT.nd b a d).blks∨o.heap.size<=f:=λf w=>by rcases zCp.1 w with c | c;exact .inl (by simp [LT.blks,c]);rcases aa f c with bg | bg;exact .inl (by simp [LT.blks,bg]);exact .inr oM
 have aO:∀f,f∈a.blks++g.blks->p f:=λf w=>by rcases X f w with c | c;exact R f c;exact aT f c
 have b1:=aFH ⟨bU,_,bN,cl,af⟩ (show Nd _ b a.num g.num from ⟨_,_,_,_,_,by rw [ap,bE.out];exact bf⟩) bd be W aO (λF ag=>aT F oM) Z ca aS cj (A ▸ cn) T.l cf (λa0=>by rw [bH.out] at a0;cases a0) (λa0=>sh g A a0);have bI:=((a7.mono (l':=(LT.nd b a d).nums++l) (λe i=>by rcases zCp.1 i with y | y <;> simp [LT.nums,y])).trans (a8.mono (by simp [LT.nums])));have bG:=((M.mono (bl':=(LT.nd b a d).blks) zs).trans ((a6.mono (bl':=(LT.nd b a d).blks) (λf _ w=>by simp [LT.blks,w])).trans (N.mono zs)));have aH:=lhd A;have bA:=(show ∀C E:LT,Tr.mend a.er g.er=.nd C.er E.er->C.L/\E.L from λC E t=>by
  obtain ⟨bu,bv⟩:=aP;obtain ⟨bw,P⟩:=T;have ct:g.ht=s.ht:=congrArg Tr.ht A;have da:g.len=s.bits.length:=congrArg (λy=>y.bits.length) A;have db:=LT.len_nd b a d;have dc:(LT.nd b a d).ht=max a.ht d.ht+1:=rfl;exact aHV t oM oM)
 obtain ⟨bC,bF⟩:=hqq2 ae ap;have d1:o.heap.size<=bJ.heap.size:=oM;have d7:∀e,e∈g.nums->e∈d.nums∨e∈l:=λe i=>by have:=aA.mem_iff.1 (zDE I i);exact zCp.1 this
 have cy:=(show ∀e,e∈(LT.nd b a d).nums->e∉l from λe i c=>(a5 e i).1 (List.mem_append_right _ c));clear B Y af N a8 bf a4 aZ aX be bd bc ba a7 a6 bh aa A an aY b5 ci a5 ay ae ap aO aS b2 cd cb cc;go_wp2_with fail;rw [bF.out,bC.out];clear bL c5 c3 bT cu cv;refine b1.mono ?_;rintro t aE ⟨aG,ab,cp,aC,_,bq,bj,c1⟩;clear b1;have ah:LK p (LT.nd b a d).blks o aE:=bG.trans' bj λf w c=>by rcases X f c with y | y;exact y;omega
 have d2:o.heap.size<=aE.heap.size:=ah.keep.size;have V:(b::(a.nums++g.nums)++I).Perm ((LT.nd b a d).nums++l):=by have P:=zDc.1 aA;rw [zDc];intro r;have:=P r;simp only [LT.nums,zDg,zCc] at this⊢;omega
 have aQ:ButL ((LT.nd b a d).nums++l) z aG:=bI.trans (bq.mono λe i=>V.mem_iff.1 (zDE _ i));clear bq bj;rcases c1 with ⟨c,f,F,rfl,H,a3,L,aM⟩|⟨C,E,rfl,H,K,ar,au,L,ch,bK⟩
 .obtain ⟨bV,bx,bO,cm,m⟩:=aC;have cY:c < n:=(zj (a3.1.lt m.rd.len));obtain ⟨bX,bQ,rfl,S⟩:=m.rd.ex oM;have bM:=m.rd.c1;have c6:=m.rd.a.lt;have c4:=S.lt;have cX:(c:Int) < n:=oM;obtain ⟨_,_,_,_,_,_,_,bS⟩:=m.rd.at (show At8 aG c [_,_,_,_,_,_,_,_] from a3.1)
  have R:=(show pE p u n (.nd b a d) z l O G (Tr.rebal (Tr.mend a.er s)) o (.returned (.tuple #[.int .i64 (c:Nat),.bool G])) aE from
   ⟨.lf c f F,aG,ab,cp,rfl,⟨_,_,_,_,m⟩,by rw [<-aH.out,H];rfl,a3,L.trans V,by simp [LT.blks],λr J=>X r (by rw [zDa.1 J];exact aM),aQ,ah⟩)
  clear m a3 L aM H S;go_wp2_with fail;go_ret2;exact R
 .obtain ⟨bl,bn⟩:C.L/\E.L:=bA C E H;have aR:(b::(C.nums++E.nums)).Nodup:=(zDb.1 (L.nodup_iff.2 Z)).1;have bY:=zP aC K ar au aR bl bn;obtain ⟨bV,bx,bO,cm,m⟩:=aC;obtain ⟨cR,d5,d6,d3,d4,K⟩:=K;obtain ⟨bX,bQ,rfl,S⟩:=m.rd.ex (zj (K.lt m.rd.len));have bM:=m.rd.c1;have c6:=m.rd.a.lt;have c4:=S.lt;obtain ⟨_,_,_,_,_,_,_,bS⟩:=m.rd.at K;have bz:=lhd H;have bZ:=λf w=>ar.a f w;have c0:=λf w=>au.a f w;clear m S H K ar au aR bl bn bZ c0;go_wp2_with fail;refine bY.mono ?_;rintro t cq ⟨bo,cr,bR,rfl,bp,_,bb,aK,bi,a9,br,bk⟩
  have R:=(show pE p u n (.nd b a d) z l O G (Tr.rebal (Tr.mend a.er s)) o (.returned (.tuple #[.int .i64 (bo.num:Nat),.bool G])) cq from
   ⟨bo,cr,ab,_,rfl,bp,by rw [aK,<-aH.out,bz.out];rfl,bb,(bi.append_right ab).trans (L.trans V),a9.nodup_iff.2 ch,λr J=>by
    rcases bK r (a9.mem_iff.1 J) with y | y;exact X r y
    .exact .inr oM,aQ.trans (br.mono λe i=>V.mem_iff.1 (L.mem_iff.1 (zDE _ i))),ah.trans (bk.mono zs)⟩)
  clear bp bb aK bi a9 br bk;go_wp2_with fail;go_ret2;exact R
def aBr (j:Nat->Prop) (r:Nat) {D:Nat} (u:List Value) (q:List Nat) (E:Int) (C:D<=50000):∀(d:LT) (c:Nat) (p:List Nat) (W:Int) (m:World),TS m j r D u q E W->d.In m u->(d.nums++(p++q)).Perm (List.range D)->d.blks.Nodup->(∀i,i∈d.blks->j i)->(∀k,m.heap.size<=k->j k)->c < d.len->d.er.Avl->d.er.Full->(d.ht<=50000/\d.len<=50000)->
 Calls prog 230 #[r,(d.num:Int),(c:Int)] m (pE j r D d u q E (d.bits.getD c false) (d.er.drp c) m)
 | .lf e i ag,c,p,W,m,y,B,s,z,o,A,a5,a2,M,P=>aCp y B (o i (by simp [LT.blks])) M.2 a5
 | .nd e a b,c,p,W,m,y,B,s,z,o,A,a5,a2,M,P=>by
  have ai:=LT.len_nd e a b;have ah:(LT.nd e a b).ht=max a.ht b.ht+1:=rfl;have L:=z;rw [LT.blks,zDb] at L;obtain ⟨Y,Z,a7,a8⟩:=a2;obtain ⟨w,x⟩:=M;have ae:a.ht<=b.ht+1:=a7;have af:b.ht<=a.ht+1:=a8;have a4:∀f,LK j [] m f->∀k,f.heap.size<=k->j k:=λf T k aa=>A k (zAk T.keep.size aa);have J:∀ {l:LT},l.er.Full->l.J=false:=λ{l} n=>by
   cases l with
   | lf T i k=>exact zBy (by have:=n.1;omega)
   | nd T aj a6=>rfl
  have a0:∀ {l:LT},l.J=true->¬l.er.Full:=λ{l} a1 n=>by rw [J n] at a1;cases a1
  have a3:(LT.nd e a b).bits=a.bits++b.bits:=rfl;by_cases g:c < a.len
  .obtain ⟨t,Q,R,S,ac⟩:=Tr.drp_spec a.er c g Y w;have F:(LT.nd e a b).er.drp c=Tr.rebal (Tr.mend (a.er.drp c) b.er):=(by show (Tr.nd a.er b.er).drp c=_;rw [Tr.drp,zBx g]);have H:(LT.nd e a b).bits.getD c false=a.bits.getD c false:=(by rw [a3,zAb,zAb,zAn g]);have O:=congrArg List.length (Tr.drp_bits a.er c g);have ab:=cJ g;rw [F,H]
   refine aJg _ y B s z o A g (LT.L.of P) ⟨S,by rw [O];have G:a.er.bits.length=a.len:=rfl;omega⟩ C Q.le x.le (λad I n=>by
    have K:=R (by rw [<-I];exact a0 n);have a9:a.ht=0:=K;omega) (J x) λf X V t U=>?_
   refine aBr j r u q E C a c (e::(b.nums++p)) X f V t ?_ L.1 (λi N=>o i (by simp [LT.blks,N])) (a4 f U) g Y w ⟨by omega,by omega⟩;refine List.Perm.trans ?_ s;rw [zDc];intro a6;simp only [LT.nums,zDg,zCc];omega
  .have v:c - a.len < b.er.bits.length:=(by have G:b.er.bits.length=b.len:=rfl;omega);obtain ⟨t,Q,R,S,ac⟩:=Tr.drp_spec b.er (c - a.len) v Z x;have F:(LT.nd e a b).er.drp c=Tr.rebal (Tr.mend a.er (b.er.drp (c - a.len))):=(by show (Tr.nd a.er b.er).drp c=_;rw [Tr.drp,zBw g]);have H:(LT.nd e a b).bits.getD c false=b.bits.getD (c - a.len) false:=(by rw [a3,zAb,zAb,zAo (by have G:a.bits.length=a.len:=rfl;omega)]);have O:=congrArg List.length (Tr.drp_bits b.er (c - a.len) v);have ab:=cJ v;rw [F,H]
   refine aJf _ y B s z o A g oM (LT.L.of P) ⟨S,by rw [O];have G:b.er.bits.length=b.len:=rfl;omega⟩ C Q.le w.le (λad I n=>by
    have K:=R (by rw [<-I];exact a0 n);have a9:b.ht=0:=K;omega) (J w) λf X V t U=>?_
   refine aBr j r u q E C b (c - a.len) (e::(a.nums++p)) X f V t ?_ L.2.1 (λi N=>o i (by simp [LT.blks,N])) (a4 f U) v Z x ⟨by omega,by omega⟩;refine List.Perm.trans ?_ s;rw [zDc];intro a6;simp only [LT.nums,zDg,zCc];omega
def uU {c b d} (a:Keep (Gw c b.heap.size) b d):Keep c b d:=
 ⟨a.os,a.tape,a.output,a.size,λi g f=>a.block i g λe=>e.elim f λj=>by omega⟩
def aLz {a:Tr} (b:a.Full):32*a.lv<=a.bits.length:=by have:=Tr.full_lv b;omega
def uK:∀c:LT,c.nums.length+1=2*c.er.lv
 | .lf _ _ _=>rfl
 | .nd _ a b=>by have d:=uK a;have e:=uK b;show (_::(a.nums++b.nums)).length+1=2*(a.er.lv+b.er.lv);simp only [zCg,zAi];omega
def aMV {a:LT} (d:a.er.Ok) (e:a.len<=1100):a.nums.length<=80:=by
 have b:=uK a;have f:a.er.bits.length<=1100:=e;cases c:a.er with
 | lf g=>
  rw [c] at b;simp only [Tr.lv] at b;omega
 | nd i j=>
  rw [c] at d b f;have:=Tr.full_lv d.2;omega
def aNS {d:Nat} (a:d<=100000):wrap64 (0+d)=(d:Int):=by unfold wrap64;omega
def aOn (c:Option Tr) (b:Nat) (a:Bool):Option Tr:=
 match c with
 | none=>some (.lf [a])
 | some d=>some (d.ins b a)
def aO0 (b:Nat->Prop) (d i:Nat) (j:Bool) (e:Option Tr) (f:World) (g:Ending) (a:World):Prop:=g=.returned (.int .i64 0)/\TreeEo a (Gw b f.heap.size) d (aOn e i j)/\Keep b f a/\∃c:Nat,c<=5*oht e+2/\a.cell? ⟨d,3,none⟩=some (.int .i64 c)
def yR {i a l} (x) {m:Tr} {f} (P:TreeEo f i a (some m)) (aw:m.bits.length < 1100) (B:l<=m.bits.length):
 Calls prog 211 #[a,(l:Int),.bool x] f (aO0 i a l x (some m) f):=by
 have aS:¬(l:Int) < 0:=oM;obtain ⟨K,R⟩:=eqx m.bits.length;have aT:¬(K < l):=oM;have a4:=lhd R;clear R;go_enter func211,ntmps211;go_wp2_with fail;refine (jL P.at).mono ?_;rintro r w1 ⟨rfl,u⟩;rw [show (cH (some m)).length=K from a4.out];have an:=P.below u;obtain ⟨aN,aE,aI,W,J,aZ,M,aY,b0,c,O,⟨n,_,_⟩|⟨e,n,A,rfl,t,ao,ap,aq,Q⟩⟩:=an
 .cases n
 injection n with n;obtain ⟨aO,aJ,rfl,ar⟩:=c.rd.ex (zj (A.at.lt c.rd.len));have aF:=c.rd.c2;have aH:=c.rd.c3;have aK:=c.rd.a.frozen 2;have aM:=c.rd.a.frozen 3;have aP:=c.rd.a.lt;have aV:(((e.num:Nat):Int)==-1)=false:=zCb.2 oM;have aW:¬((e.num:Nat):Int)=-1:=oM;have aX:=u.size;have T:=(c.ab 0).mono (G:=Gw i f.heap.size) λai _ al=>.inl al;have S:TS (w1.setCell ⟨a,3,none⟩ (.int .i64 0)) (Gw i f.heap.size) a W J M (e.num:Int) 0:=⟨_,_,_,_,T⟩;have U:e.In (w1.setCell ⟨a,3,none⟩ (.int .i64 0)) J:=A.keep (λ_ _ _ j=>j) λg _ ak k=>k.m (p:=⟨a,3,none⟩) (Bk.ne k c.rd.a dC) _;have C:Keep (Gw i f.heap.size) f (w1.setCell ⟨a,3,none⟩ (.int .i64 0)):=(kF u).setCell (p:=⟨a,3,none⟩) (.inl (.inl c.W)) _;have H:f.heap.size<=(w1.setCell ⟨a,3,none⟩ (.int .i64 0)).heap.size:=C.size;obtain ⟨a9,y⟩:=eqx (w1.setCell ⟨a,3,none⟩ (.int .i64 0));rw [y] at S U C H;have av:i a:=c.W;obtain ⟨a5,q⟩:=hqq2 y n;clear y n T A ar u c;go_wp2_with fail;rw [a5.out];have aR:e.ht<=e.len:=t.a4;have aU:=ao;refine (aD0 (Gw i f.heap.size) a W x J M (e.num:Int) (zj O) e l [] 0 a9 S U (by simpa using ap) aq (λg z=>.inl (Q g z)) (λai k=>.inr (zAk H k)) (by have:=B;rw [q.out] at this;exact this) t.le t.de ⟨by omega,by omega⟩).mono ?_;rintro r aC ⟨b,v,aD,N,s,rfl,⟨am,a3,aj,aB,o⟩,Y,w,Z,I,a0,aA,a1,a2,az,X⟩;have aQ:=o.rd.a.lt;have aL:=o.rd.a.frozen 2;have aG:=o.rd.c2;have L:=lhd (o.ao (b.num:Int));have a7:=(Z.keep (w':=aC.setCell ⟨a,2,none⟩ (.int .i64 b.num)) (λ_ _ _ j=>j) λg _ ak k=>k.m (p:=⟨a,2,none⟩) (Bk.ne k o.rd.a dC) _);have a8:=(uU ((C.trans X.keep).setCell (p:=⟨a,2,none⟩) (.inl (.inl av)) (.int .i64 b.num)));have F:b.er.Ok:=by rw [w];exact Tr.ins_ok _ _ _ (by have:=B;rw [q.out] at this;exact this) t
 have E:b.len<=1100:=by show b.er.bits.length<=1100;have ax:=aw;have D:=B;rw [q.out] at ax D;rw [w,Tr.ins_bits _ _ _ D,cM _ _ D];omega
 have V:v<=200:=by rcases a0 with r | r;rw [r];exact O;subst r;have ay:=I.length_eq;simp only [zDH,zEa,zCi] at ay;have:=aMV F E;omega
 have a6:=(⟨F,E,V,by simpa using I,a1,λg z=>(a2 g z).elim (λj=>.inl (Q g j)) λj=>.inr (zAk H j),Y,w⟩:b.er.Ok/\b.len<=1100/\v<=200/\(b.nums++N).Perm (List.range v)/\b.blks.Nodup/\(∀g,g∈b.blks->Gw i f.heap.size g)/\s<=5*e.ht+2/\b.er=e.er.ins l x);clear o Y w Z I a0 aA a1 a2 az X F E V;go_wp2_with fail;go_ret;obtain ⟨aa,ab,ac,ad,ae,af,ag,ah⟩:=a6;have au:=aNS (d:=s) oM;refine ⟨rfl,⟨am,a3,aj,v,aD,aB,N,_,_,L,ac,.inr ⟨b,by rw [q.out,ah];rfl,a7,rfl,aa,ab,ad,ae,af⟩⟩,a8,s,by rw [q.out];exact ag,?_⟩;rw [L.rd.c3,au]
def yS {c a} (d) {b} (Z:TreeEo b c a none):
 Calls prog 211 #[a,o0,.bool d] b (aO0 c a 0 d none b):=by
 have O:=lhd Z;clear Z;go_enter func211,ntmps211;go_wp2_with fail;refine (jL (gt:=a) (o:=none) O.at).mono ?_;rintro u w1 ⟨rfl,r⟩;have an:=O.below r;obtain ⟨aE,ac,aA,j,N,aL,q,aa,ax,e,Y,a2⟩:=an;obtain ⟨rfl,a1⟩:aa=-1/\q.Perm (List.range j):=by
  rcases a2 with ⟨_,ai,t⟩|⟨aK,x,_⟩;exact ⟨ai,t⟩
  .cases x
 clear a2;have aj:=e.rd.c2;have V:=e.rd.c3;have W:=e.rd.a.frozen 3;have aG:=e.rd.a.lt;have z:=(e.ab 0).mono (G:=Gw c b.heap.size) λt _ al=>.inl al;have E:Keep (Gw c b.heap.size) b (w1.setCell ⟨a,3,none⟩ (.int .i64 0)):=(kF r).setCell (p:=⟨a,3,none⟩) (.inl (.inl e.W)) _;have aI:=r.size;have H:w1.heap.size=(w1.setCell ⟨a,3,none⟩ (.int .i64 0)).heap.size:=by simp [World.setCell]
 obtain ⟨f,y⟩:=eqx (w1.setCell ⟨a,3,none⟩ (.int .i64 0));rw [y] at z E H;have a6:c a:=e.W;obtain ⟨ae,af,ag,S,k,P⟩:=hqq6 y z E H a1 Y;clear y z E H e Y r a1;go_wp2_with fail;rw [ae.out];clear aj V W;refine (gQ (A:=(some ⟨w1.heap.size,0,none⟩)) (m:=1) (l:=[d]) (w:=(f.alloc (.cells #[.bool d] 4))) 1 (Rd.bt f 4 1 1 #[.bool d] w1.heap.size rfl S) nL dC).mono ?_;rintro u M ⟨rfl,B,a4⟩;rw [sZ0] at B;have D:Below f.heap.size f M:=(bR.alloc nL _).trans (a4.mono zs);obtain ⟨ao,R⟩:=hqq2 (show TS M (Gw c b.heap.size) a j N q (-1) 0 from ⟨_,_,_,_,af.out.below D⟩) (ag.out.trans (kF D));have au:=R.size;have aJ:=S.out;have Q:=lhd B;clear a4 D B;rw [sZ0];go_wp2_with fail;have a5:aD3 j q:=⟨k.nodup_iff.2 zDl,λg ar=>zCj.1 (k.mem_iff.1 ar),λ_=>by rw [k.length_eq,zCi];exact zAs _⟩;refine (aBl (F:=(Gw c b.heap.size)) (gt:=a) (n:=j) (gb:=(f.heap.size+1)) (xs:=N) (fr:=q) (rt:=(-1)) (v:=0) (bs:=[d]) (w:=M) ao (λt ap=>.inr (zAk au ap)) (zj P.out) a5 Q zs).mono ?_;rintro u ab ⟨g,rfl,I,ay,X,J,⟨am,ad,ak,aw,i⟩,a9,av,K⟩;have aH:=i.rd.a.lt;have aC:=i.rd.a.frozen 2;have az:=i.rd.c2;have s:=i.ao (g:Int);have W:=s.rd.a.frozen 3;have V:=s.rd.c3;have L:=s.ab 1;have a3:Bk ((ab.setCell ⟨a,2,none⟩ (.int .i64 g)).setCell ⟨a,3,none⟩ (.int .i64 1)) (f.heap.size+1) 240 (dL [d]):=by have C:=K.a _ _ zs Q.out;exact (C.m (p:=⟨a,2,none⟩) (Bk.ne C i.rd.a dC) _).m (p:=⟨a,3,none⟩) (Bk.ne C i.rd.a dC) _
 have ah:=lhd (uU (((R.out.trans K.keep).setCell (p:=⟨a,2,none⟩) (.inl (.inl a6)) (.int .i64 g)).setCell (p:=⟨a,3,none⟩) (.inl (.inl a6)) (.int .i64 1)));have a8:([g]++X).Perm (List.range I):=aAx (U:= []) k J;have a7:I<=200:=by have:=P.out;rcases J with ⟨_,u,_⟩|⟨x,_,_,aB⟩;omega;have a0:=k.length_eq;rw [x,zCi] at a0;have aF:0=j:=a0;omega
 have T:=lhd (show TreeEo ((ab.setCell ⟨a,2,none⟩ (.int .i64 g)).setCell ⟨a,3,none⟩ (.int .i64 1)) (Gw c b.heap.size) a (aOn none 0 d)/\_ from ⟨⟨am,ad,ak,I,ay,aw,X,_,_,L,a7,.inr ⟨.lf g (f.heap.size+1) [d],rfl,⟨a9,a3⟩,rfl,⟨by simp,by simp⟩,by simp [LT.len,LT.er,Tr.bits],a8,by simp [LT.blks],λaD aq=>.inr (by simp [LT.blks] at aq;omega)⟩⟩,L.rd.c3⟩);clear J i a9 av K s L a3 a8 a7 a5;go_wp2_with fail;go_ret;exact ⟨rfl,T.1,ah,1,by omega,T.2⟩
def aDD {f d b} (c) {a:Option Tr} {e} (g:TreeEo e f d a) (j:(cH a).length < 1100) (i:b<=(cH a).length):
 Calls prog 211 #[d,(b:Int),.bool c] e (aO0 f d b c a e):=by
 cases a with
 | none=>
  obtain rfl:b=0:=(by simpa [cH] using i);exact yS c g
 | some k=>exact yR c g j i
def aI5 {b:Option Tr} {a} (c) (d:a<=(cH b).length):cH (aOn b a c)=aT (cH b) a c:=by
 cases b with
 | none=>
  obtain rfl:a=0:=(by simpa [cH] using d);rfl
 | some e=>exact Tr.ins_bits e a c d
def aGZ (c:Option Tr) (b:Nat):Option Tr:=
 match c with
 | none=>none
 | some a=>if a.bits.length=1 then none else some (a.drp b)
def Tr.Ok.one {a:Tr} (c:a.Ok) (f:a.bits.length < 32):∃b,a=.lf b:=by
 cases a with
 | lf b=>exact ⟨b,rfl⟩
 | nd d e=>
  have:=aLz c.2;have:=Tr.lv_pos (.nd d e);omega
def aNG {c g j k e l} (v:j<=50000) {a:LT} {d s b} (n:TS b c g j k e l s) (p:a.In b k) (w:(a.nums++e).Perm (List.range j)) (t:a.blks.Nodup) (o:∀f,f∈a.blks->c f) (u:∀m,b.heap.size<=m->c m) (q:d < a.len) (i:a.er.Ok) (B:a.len<=1100):
 Calls prog 230 #[g,(a.num:Int),(d:Int)] b (pE c g j a k e l (a.bits.getD d false) (a.er.drp d) b):=by
 have A:a.ht<=a.len:=i.a4;cases a with
 | lf r f z=>exact aCp n p (o f (by simp [LT.blks])) i.2 q
 | nd r x y=>exact aBr c g k e l v (.nd r x y) d [] s b n p (by simpa using w) t o u q i.1 i.2 ⟨by omega,by omega⟩
def aPq (a:Nat->Prop) (g b:Nat) (c:Option Tr) (d:World) (f:Ending) (e:World):Prop:=f=.returned (.tuple #[.bool ((cH c).getD b false),o0])/\TreeEo e (Gw a d.heap.size) g (aGZ c b)/\Keep a d e
def aDE {l c g} {F:Option Tr} {j} (O:TreeEo j l c F) (C:g < (cH F).length):
 Calls prog 207 #[c,(g:Int)] j (aPq l c g F j):=by
 have af:=aCw O.at C;obtain ⟨au,ac⟩:=eqx ((cH F).getD g false);have U:l c:=by obtain ⟨_,_,_,_,_,_,_,_,_,e,_⟩:=O;exact e.W
 have I:=lhd ac;clear ac;go_enter func207,ntmps207;go_wp2_with fail;refine af.mono ?_;rintro w w1 ⟨rfl,X⟩;clear af;have o:=O.b X.1;have ag:Keep (Gw l j.heap.size) j w1:=X.2.mono λbp _ w=>by rw [w];exact .inl U
 have aj:=ag.size;obtain ⟨b7,aR,b2,q,aQ,bm,ay,bl,aP,z,A,⟨M,_,_⟩|⟨f,M,aF,rfl,P,a9,aa,az,ab⟩⟩:=o;subst M;exact absurd C (Nat.not_lt_zero _);subst M;have aZ:=z.rd.c2;have bb:=z.rd.a.lt;have aA:TS w1 (Gw l j.heap.size) c q aQ ay (f.num:Int) aP:=⟨_,_,_,_,z.mono (G:=Gw l j.heap.size) λK _ aw=>.inl aw⟩;clear z X;go_wp2_with fail;refine (aNG (zj A) aA aF aa az (λe T=>.inl (ab e T)) (λK i=>.inr (zAk aj i)) C P a9).mono ?_;rintro w k ⟨d,H,y,bn,rfl,⟨N,aS,L,aO,a⟩,v,r,ak,aM,al,aN,am⟩;rw [show f.bits.getD g false=au from I.out];obtain ⟨a8,b4,rfl,R⟩:=a.rd.ex (zj (r.at.lt a.rd.len));have V:g < f.er.bits.length:=C;have ad:(f.er.drp g).bits.length+1=f.er.bits.length:=by rw [Tr.drp_bits _ _ V];have:=cJ V;omega
 obtain ⟨aT,aU,aV,aW,Y,x⟩:=d.R;obtain ⟨n,S⟩:=eqx d.len;rw [S] at x;obtain ⟨_,_,_,a6,_⟩:=a.rd.at (show At8 H d.num [_,_,_,_,_,_,_,_] from x ▸ r.at);obtain ⟨b,u⟩:=eqx d.num;have aH:b < q:=zj (r.at.lt a.rd.len)
 have bf:((b:Nat):Int) < q:=oM;rw [u] at a6;rw [u];have bc:=a.rd.a.lt;have ba:=R.lt;have ax:=a.rd.a.frozen 2;have bi:=Bk.ne a.rd.a R dC;have av:=a.rd.c1;have aY:=a.rd.c0;have b0:=a.rd.c2;have m:=(a.ao (b:Int));have a1:=(r.keep (w':=k.setCell ⟨c,2,none⟩ (.int .i64 b)) (λ_ _ _ t=>t) λe _ b3 i=>i.m (p:=⟨c,2,none⟩) (Bk.ne i a.rd.a dC) _);have D:=((ag.trans am.keep).setCell (p:=⟨c,2,none⟩) (.inl (.inl U)) (.int .i64 b));have aK:=D.size;have a5:(k.setCell ⟨c,2,none⟩ (.int .i64 b)).cell? ⟨c,1,none⟩=some (.slice (some a8) q L):=m.rd.c1;have a4:(k.setCell ⟨c,2,none⟩ (.int .i64 b)).cell? c=some (.pointer (some N)):=m.rd.c0;have a7:(k.setCell ⟨c,2,none⟩ (.int .i64 b)).cell? ⟨a8,b*8+3,none⟩=some (.int .i64 n):=by obtain ⟨_,_,_,n,_⟩:=m.rd.at (show At8 H d.num [_,_,_,_,_,_,_,_] from x ▸ r.at);rw [u] at n;exact n
 have W:k.heap.size=(k.setCell ⟨c,2,none⟩ (.int .i64 b)).heap.size:=by simp [World.setCell]
 obtain ⟨a3,Q⟩:=eqx (k.setCell ⟨c,2,none⟩ (.int .i64 b));rw [Q] at m a1 D aK a5 a4 a7 W;obtain ⟨Z,ap,s⟩:=hqq3 Q W v;have a2:=(ak.trans aa);have aq:=(λe T=>(al e T).elim (λt=>.inl (ab e t)) λt=>.inr (zAk aj t):∀e,e∈d.blks->Gw l j.heap.size e);obtain ⟨J,a0⟩:=hqq2 S u;have be:=m.rd.a.lt;clear Q W a v r ak al aN am S u R x;rcases zBa n with ae | ae
 .subst ae;have o:f.er.bits.length=1:=(by have:=ad;have:=J.out;rw [show d.len=d.er.bits.length from rfl,s.out] at this;omega);have B:aGZ (some f.er) g=none:=(by unfold aGZ;simp [o]);have ai:d.nums= [b]:=by
   have:=a0.out;obtain ⟨K,i⟩:=P.one oM;cases d with
   | lf aL b6 aX=>simpa [LT.nums,LT.num] using this
   | nd aL bj bk=>
    have:=s.out;rw [i] at this;cases this
  have E:=a2;rw [ai] at E;have aI:b∉y:=(by have:=E.nodup_iff.2 zDl;rw [zFp,zDe] at this;exact this.1);have aE:Bk (a3.alloc (.cells #[(b:Int)] 3)) k.heap.size 3 #[(b:Int)]:=(by rw [ap.out];exact kd a3 _ _);have aB:=m.below (bR.alloc nL (.cells #[(b:Int)] 3));have aG:=D.alloc (.cells #[(b:Int)] 3);have an:=lhd B;clear B ai o;go_wp2_with fail;rw [Z.out];have aD:y.length<=1000000:=(by have o:=E.length_eq;have b8:=A;simp only [zAi,zCi] at o;omega);refine (aMn aB (λK i=>.inr (by rw [sZ0] at i;omega)) aH aI aE aD).mono ?_;rintro w bo ⟨rfl,a,v⟩;have b5:=a.rd.a.frozen 2;have b1:=a.rd.c2;have bd:=a.rd.a.lt;have ar:=(a.ao (-1));have ao:=(uU ((aG.trans v.keep).setCell (p:=⟨c,2,none⟩) (.inl (.inl U)) (.int .i64 (-1))));clear a v a5 a4 a7 a6 av ax;go_wp2_with fail;go_ret2;refine ⟨by rw [I.out];rfl,?_,ao⟩;rw [an.out];exact ⟨N,_,L,q,H,_,y++ [b],_,_,ar,A,.inl ⟨rfl,rfl,(zGb).trans E⟩⟩
 .have b9:((n:Int)==0)=false:=(by rw [zCb];omega);go_wp2_with fail;rw [Z.out];go_ret2;have bg:=ad;have aC:d.er.bits.length=n:=J;rw [s.out] at aC;have ah:f.er.bits.length≠1:=oM;have B:aGZ (some f.er) g=some d.er:=(by unfold aGZ;simp only [];rw [zBw ah,s.out]);have aJ:d.er.Ok:=(by rw [s.out];exact Tr.drp_ok _ _ V P ah);have bh:f.er.bits.length<=1100:=a9;refine ⟨by rw [I.out];rfl,?_,uU D⟩;rw [B];exact ⟨N,_,L,q,H,aO,y,_,_,m,A,.inr ⟨d,rfl,a1,by rw [a0.out],aJ,by rw [J.out];omega,a2,aM,aq⟩⟩
def aJj {b:Option Tr} {a} (d:a < (cH b).length):cH (aGZ b a)=aK (cH b) a:=by
 cases b with
 | none=>exact absurd d (Nat.not_lt_zero _)
 | some c=>
  have e:a < c.bits.length:=d;have g:=cJ e;unfold aGZ;simp only [];split
  .rename_i f
   exact (zBk (by show (aK c.bits a).length=0;omega)).symm
  exact Tr.drp_bits c a e
def aAZ {d e b a c} (f:TreeE c d e a) (j:b < a.length):
 Calls prog 207 #[e,(b:Int)] c λi g=>i=.returned (.tuple #[.bool (a.getD b false),o0])/\TreeE g (Gw d c.heap.size) e (aK a b)/\Keep d c g:=by
 obtain ⟨n,rfl,f⟩:=f;refine (aDE f j).mono ?_;rintro i g ⟨k,l,m⟩;exact ⟨k,⟨_,aJj j,l⟩,m⟩
def bS (a:List Nat) (b:Nat):Nat:=a.getD ((b+a.length - 1)% a.length) 0
def aH (a b:List Nat):List Nat:=b.map (bS a)
def bY (b a):(aH b a).length=a.length:=by simp [aH]
def aKQ {a} (d:∀e∈a,e < 257) (b):bS a b < 257:=by
 unfold bS;rw [zAb];cases c:a[(b+a.length - 1)% a.length]? with
 | none=>simp
 | some f=>simpa using d f (zAd c)
def dR {b rs} (c:∀a∈b,a < 257):∀a∈aH b rs,a < 257:=by
 intro a d;obtain ⟨e,_,rfl⟩:=zAy.1 d;exact aKQ c e
def aII (a:Nat) (i:a<=1000000) (b):(Instr.makeSlice 27 (.int .i64 0) (.int .i64 a)).run prog b=.ok (.slice (some b.heap.size) 0 a) (b.alloc (.cells (madeCells #[o0] a) 3)):=by
 obtain ⟨g,c,d,e,f⟩:=info_parts gI;have:=run_make (P:=prog) b 27 3 g (.int .i64 0) underlying27 c d .i64 .i64 0 a oM oM (by rw [f];omega) oM;rw [this,e];simp only [Value.cells,zBr,zBl];rfl
def aEH {a c k j b l row} (f:Rd a a.heap.size k b j l) (i:a.grownBy c row) (n:∀d,b=some d->row≠some d.block):Rd c c.heap.size k b j l:=by
 refine ⟨f.1,λp=>?_⟩;obtain ⟨e,s,rfl,g,o⟩:=f.2 p;refine ⟨e,s,rfl,zAl g i.size,λr t q=>?_⟩;rw [zDd (w:=a) (i.block e g (λm=>n _ rfl m.symm))];exact o r t q
def Apt (c:Value) (b:Option Addr):Prop:=∀a,b=some a->c.ownBlock≠some a.block
def Apt.next {i e c f} (j:Apt i c) (l:e.ownBlock=i.ownBlock∨e.ownBlock=some f) (k:∀a,c=some a->a.block < f):Apt e c:=by
 intro a g b;rcases l with d | d;exact j a g (d.symm.trans b);rw [d] at b;injection b with b;have:=k a g;omega
def qO {A m} (n) {B t w} (O:Rd w B 1 A m (t.map bv)) (hB:B<=w.heap.size) (aw:m<=895):
 Calls prog 78 #[.slice A m n] w λC a6=>∃g j k,IsSuf (aG t) g/\C=.returned (.slice j (m+1) k)/\Made a6 w.heap.size 3 1 j (m+1) k ((aH (aG t) g).map sv)/\Below w.heap.size w a6:=by
 obtain ⟨aJ,aq,aE,aF,aI⟩:=info_parts gI;have aD:t.length=m:=by simpa using O.1
 go_enter func78,ntmps78;go_wp2_with fail;obtain ⟨a,v⟩:=eqx (m+1);have S:=aA2 (gs:=w.heap.size) (A:=A) (m:=m) (c:=n) (B:=w.heap.size) (t:=t) (w:=(w.alloc (.cells #[.slice A m n] 22))) 0 (kd _ _ _) ((O.mono hB).alloc nL _) zs oM;have R:=λa0 (l:Below w.heap.size w a0)=>qN (A:=A) (m:=m) (B:=w.heap.size) (t:=t) (w:=a0) n ((O.mono hB).below l) l.size aw;simp only [v] at S R;have aU:a<=896:=oM;have aT:1<=a:=oM;have G:(aG t).length=a:=by rw [aO,aD,v]
 refine S.mono ?_;clear S;rintro C w1 ⟨x,aN,rfl,H,a2⟩;have r:=((kg w.heap.size w).alloc nL _).trans (a2.mono zs);have aK:=aII a oM;clear a2;go_wp2_with fail;clear aK;have p:=r.alloc r.size (.cells (madeCells #[o0] a) 3);have I:=H.below (bR.alloc nL (.cells (madeCells #[o0] a) 3));have f:(w1.alloc (.cells (madeCells #[o0] a) 3)).ownsRow w.heap.size 3 1 (.slice (some w1.heap.size) 0 a) 0 []:=zFK _ _ _ r.size zx (by simp [madeCells]);obtain ⟨o,E⟩:=eqx w1.heap.size;have ap:o < (w1.alloc (.cells (madeCells #[o0] a) 3)).heap.size:=by rw [<-E];simp
 have af:Apt (.slice (some o) 0 a) x:=by
  intro b d l;obtain ⟨a8,ad,i,_,D⟩:=aZ H.own;injection i with i;have:=(D b (i.symm.trans d)).2;have ah:o=b.block:=by simpa [Value.ownBlock] using l
  omega
 rw [E] at f⊢;generalize w1.alloc (.cells (madeCells #[o0] a) 3)=W2 at p I f ap⊢;have Z:=f;clear f H r E;refine (R W2 p).mono ?_;rintro C b4 ⟨g,y,aQ,T,rfl,J,s⟩;have ai:=p.trans (s.mono p.size);have az:=aP Z s;have a3:=I.below s;have ag:Apt (.slice (some o) 0 a) y:=by
  intro b d l;obtain ⟨a8,ad,i,_,D⟩:=aZ J.own;injection i with i;have:=(D b (i.symm.trans d)).1;have ah:o=b.block:=by simpa [Value.ownBlock] using l
  omega
 have aa:=J.rd;have a9:=a3.rd;clear J a3 s p Z I R;go_wp2_with fail;go_loopw [4,6,16] (λY _ W wr=>∃e:Nat,e<=a/\W=.int .i64 e/\wr.ownsRow w.heap.size 3 1 Y e ((aH (aG t) (g.take e)).map sv)/\Below w.heap.size w wr/\Apt Y x/\Apt Y y/\Rd wr wr.heap.size 1 x a ((aG t).map sv)/\Rd wr wr.heap.size 1 y a (g.map sv)) (λ_ _ W _=>a -(intOf W).toNat)
 case atStart=>exact ⟨0,by omega,rfl,az,ai,af,ag,a9,aa⟩
 case round=>
  obtain ⟨e,aS,rfl,f,u,L,M,P,Q⟩:=hrel;by_cases av:e < a
  .obtain ⟨ab,aL,b0,rfl,aj,U,am⟩:=Q.get av;rw [zAf] at U;obtain ⟨q,K,rfl⟩:=zEF.1 U;have aV:q < a:=(by have:=T.lt (zAd K);rw [G] at this;exact this);obtain ⟨X,N⟩:=eqx ((q+a - 1)% a);have aB:X < a:=(by rw [<-N];exact zFG _ oM);obtain ⟨ac,aM,b1,rfl,ak,V,an⟩:=P.get aB;rw [zAf] at V;obtain ⟨a7,a5,rfl⟩:=zEF.1 V;have a4:bS (aG t) q=a7:=(by unfold bS;rw [G,N,zAb,a5];rfl);have aC:aH (aG t) (g.take (e+1))=aH (aG t) (g.take e)++ [a7]:=(by rw [zAv,K,aH,zAz,<-a4];rfl);unfold sv at am an;have aA:((q:Int)+a - 1)%(a:Int)=X:=(by rw [<-N,Int.natCast_emod];congr 1;omega);have aW:((q:Int)+a - 1).tmod (a:Int)=(X:Int):=(by rw [zDA oM];exact aA);clear U V a5 a4 K;go_wp2_with (at_builtin;refine bP _ rfl (.tmp 20) (.tmp 32) _ rfl w.heap.size 3 aJ (.int .i64 0) 1 8 underlying27 aq aE aF aI rfl dC _ e _ rfl f rfl rfl (by simp [Value.oneCell']) zx oM u.size ?_;intro b2 b3 ay F aY a1);have al:=aX u f F u.size;have ar:∀b,some (⟨ac,aM,none⟩:Addr)=some b->b.block < _:=λb d=>by injection d with d;subst d;exact ak
   have au:∀b,some (⟨ab,aL,none⟩:Addr)=some b->b.block < _:=λb d=>by injection d with d;subst d;exact aj
   go_roundw
   case rel=>refine ⟨e+1,by omega,by go_num,?_,al,L.next a1 (λb d=>Nat.lt_succ_of_lt (ar b d)),M.next a1 (λb d=>Nat.lt_succ_of_lt (au b d)),aEH P F L,aEH Q F M⟩;rw [aC,zAz];exact ay
   case measure=>exact zr
  .obtain rfl:a=e:=oM;rw [zAg (by rw [T.len,G];omega)] at f;obtain ⟨j,k,rfl,ax⟩:=aR f;clear f L M P Q;go_wp2_with fail;go_ret;have ao:∀z,Made wr w.heap.size 3 1 j a k z->Made wr w.heap.size 3 1 j (m+1) k z:=λz ae=>by rw [v];exact ae
   exact ⟨g,j,k,T,by rw [v];rfl,ao _ ax,u⟩
def TreeEo.ht {g c d b} {a:Option Tr} (e:TreeEo g c d a) (f:HtB b (cH a).length):oht a<=b:=e.at.ht f
def aDC {g c j i} (b) {a e} (d:TreeE e g c a) (v:a.length<=1099) (m:i<=a.length) (t:HtB j a.length):
 Calls prog 211 #[c,(i:Int),.bool b] e λk f=>k=.returned (.int .i64 0)/\TreeE f (Gw g e.heap.size) c (aT a i b)/\Keep g e f/\RankV c (5*j+2) f:=by
 obtain ⟨w,rfl,d⟩:=d;refine (aDD b d oM m).mono ?_;rintro k f ⟨p,q,r,o,u,s⟩;have:=d.ht t;exact ⟨p,⟨_,aI5 b m,q⟩,r,o,by omega,s⟩
def Gw.gw {c n d} (e:n<=d):∀b,Gw (Gw c n) d b->Gw c n b:=λb a=>by
 rcases a with a | a;exact a;exact .inr oM
def aJN {f o gk i:Nat} (lv y:Int) {b c} {g:Nat} {e a} (ht:TreeE a b f c) (k:Bk a gk 3 #[(g:Int)]) (j:Bk a i 4 #[.bool e]) (w:c.length<=895) (v:g<=c.length) (u:HtB o c.length):
 Calls prog 210 #[.agg #[f,(lv:Int),(y:Int)],gk,i] a λp m=>p=.returned (.tuple #[])/\TreeE m (Gw b a.heap.size) f (aT c g e)/\Keep b a m/\RankV f (5*o+2) m:=by
 have z:a.cell? gk=some (.int .i64 g):=(k.cell 0).trans rfl;have A:a.cell? i=some (.bool e):=(j.cell 0).trans rfl;have B:=k.lt;have C:=j.lt;clear k j;go_enter func210,ntmps210;go_wp2_with fail;refine (aDC e (ht.below (bR.alloc nL _)) (zAk w dC) v u).mono ?_;rintro p w1 ⟨rfl,q,r,x⟩;have t:Keep b a w1:=(kF (bR.alloc nL _)).trans r;have s:=(q.mono (G:=Gw b a.heap.size) λD _ d=>by
  rcases d with d | d;exact .inl d
  .simp at d;exact .inr oM)
 clear q r;go_wp2_with fail;go_end0;exact ⟨rfl,s,t,x⟩
def aFS {j gk c:Nat} (lv w:Int) {i b e} {d:Nat} {a} (ht:TreeE a b j e) (k:Bk a gk 3 #[(d:Int)]) (s:Bk a c 4 #[i]) (u:¬b c) (v:d < e.length):
 Calls prog 206 #[.agg #[j,(lv:Int),(w:Int)],gk,c] a λm x=>m=.returned (.tuple #[])/\∃w1,TreeE w1 (Gw b a.heap.size) j (aK e d)/\Keep b a w1/\Bk w1 c 4 #[i]/\x=w1.setCell c (.bool (e.getD d false)):=by
 have z:a.cell? gk=some (.int .i64 d):=(k.cell 0).trans rfl;have D:=k.lt;have E:=s.lt;obtain ⟨y,r⟩:=eqx (e.getD d false);rw [r];clear k;go_enter func206,ntmps206;go_wp2_with fail;refine (aAZ (ht.below (bR.alloc nL _)) v).mono ?_;rintro m w1 ⟨rfl,o,p⟩;rw [r];have q:Keep b a w1:=(kF (bR.alloc nL _)).trans p;have g:=q.d s u;have A:w1.cell? c=some i:=(g.cell 0).trans rfl;have B:=g.frozen 0;have C:=g.lt;have t:=(o.mono (G:=Gw b a.heap.size) λi _ f=>by
  rcases f with f | f;exact .inl f
  .simp at f;exact .inr oM)
 clear o p;go_wp2_with fail;go_end0;exact ⟨rfl,w1,t,q,g,rfl⟩
def tV {c a b d e} (f:TreeAt c a d) (i:Bk c b 181 e):a≠b:=by
 rintro rfl;obtain ⟨_,g⟩:=f.a;exact absurd (aU g i).1 dC
def TreeE.a5 {b i c e a d n r} {j:Nat->Value} (o:TreeE b c e d) (p:Bk b a 181 (wcells j n r)) (q:Keep (λk=>k=a) b i):TreeE i c e d:=o.keep q λs u t f g _ m=>by
 rw [show s=a from m] at g;rw [(aU g p).1] at f;exact absurd f dC
def aNC {gv gt H gk gb:Nat} {S:Nat->Value} {n v:Int} (lv p:Int) {F bs} {k:Nat} {b w} (x:Bk w gv 181 (wcells S n v)) (ht:TreeE w F gt bs) (B:¬F gv) (A:∀c,F c->c < w.heap.size) (u:Bk w gk 3 #[(k:Int)]) (t:Bk w gb 4 #[.bool b]) (I:bs.length<=895) (G:k<=bs.length) (C:HtB H bs.length):
 Calls prog 146 #[gv,.agg #[gt,(lv:Int),(p:Int)],.func (.func 210) #[] #[gk,gb]] w λf r=>f=.returned (.tuple #[])/\
  TreeE r (Gw F w.heap.size) gt (aT bs k b)/\Keep (λc=>F c∨c=gv) w r/\∃a:Nat,a<=5*H+2/\Bk r gv 181 (wcells S n (IntKind.i64.wrap (v+a))):=by
 have d:=(kg w.heap.size w).alloc nL (.cells #[gt,(lv:Int),(p:Int)] 184);refine (vN (S:=S) (n:=n) (q:=λe y z=>v=y/\(∃a:Nat,a<=5*H+2/\(a:Int)=z)/\TreeE e (Gw F w.heap.size) gt (aT bs k b)/\Keep F w e) (mM func210 kR kR) ((aJN lv p (ht.below d) (u.below d u.lt) (t.below d t.lt) I G C).mono ?_)).mono ?_
 rotate_left
 rintro f L ⟨rfl,e,y,z,⟨rfl,⟨a,m,rfl⟩,i,E⟩,j,s,K⟩;exact ⟨rfl,i.a5 j s,(E.mono λc _ g=>.inl g).trans (s.mono λc _ f=>.inr f),a,m,K⟩;rintro f e ⟨rfl,J,o,a,D,m⟩;have j:=o.d (x.below d x.lt) B;have i:TreeE e (Gw F w.heap.size) gt (aT bs k b):=J.mono λc _ g=>g.imp id (zAk d.size);exact ⟨rfl,v,a,⟨j,o.d (kd w _ _) (λg=>absurd (A _ g) (zCl _)),i.at.lt,tV i.at j,m⟩,rfl,⟨a,D,rfl⟩,i,(kF d).trans o⟩
def aJM {o m gk a:Nat} {t:Nat->Value} {n E:Int} (lv k:Int) {d e g} {i:Nat} {c} (B:Bk c o 181 (wcells t n E)) (ht:TreeE c e m g) (J:¬e o) (H:¬e a) (I:∀d,e d->d < c.heap.size) (y:Bk c gk 3 #[(i:Int)]) (A:Bk c a 4 #[d]) (K:∀b,e b->b≠a) (M:i < g.length):
 Calls prog 146 #[o,.agg #[m,(lv:Int),(k:Int)],.func (.func 206) #[] #[gk,a]] c λj w=>j=.returned (.tuple #[])/\
  TreeE w (Gw e c.heap.size) m (aK g i)/\Keep (λd=>e d∨d=o∨d=a) c w/\Bk w a 4 #[.bool (g.getD i false)]/\∃W,Bk w o 181 (wcells t n W):=by
 have r:=(kg c.heap.size c).alloc nL (.cells #[m,(lv:Int),(k:Int)] 184);have D:=Bk.ne A B dC;have V:=A.lt;refine (vN (S:=t) (n:=n) (q:=λu X C=>TreeE u (Gw e c.heap.size) m (aK g i)/\Keep (λb=>e b∨b=a) c u/\Bk u a 4 #[.bool (g.getD i false)]) (mM func206 kR kR) ((aFS lv k (ht.below r) (y.below r y.lt) (A.below r V) H M).mono ?_)).mono ?_
 rotate_left
 rintro j a1 ⟨rfl,u,X,C,⟨s,L,O⟩,v,x,U⟩;exact ⟨rfl,s.a5 v x,(L.mono (G:=λd=>e d∨d=o∨d=a) λd _ f=>f.imp id .inr).trans (x.mono λd _ j=>.inr (.inl j)),x.d O D,_,U⟩;rintro j a0 ⟨rfl,w1,R,z,N,rfl⟩;have v:=(z.d (B.below r B.lt) J).m (p:=a) D.symm (.bool (g.getD i false));have s:TreeE (w1.setCell a (.bool (g.getD i false))) (Gw e c.heap.size) m (aK g i):=(R.mono λd _ f=>f.imp id (zAk r.size)).keep (G:=λb=>b=a) (ka (F:=λb=>b=a) (ke _ _) (p:=a) (.inl rfl) _) λb Z Y _ y f=>λj=>by rcases f with f | f;exact K b f j;exact absurd (show b=a from j) oM
 obtain ⟨C,T⟩:=s.at.a3;exact ⟨rfl,E,C,⟨v,(z.d (kd c _ _) (λf=>absurd (I _ f) (zCl _))).m (p:=a) (show c.heap.size≠a by omega) _,s.at.lt,tV s.at v,T⟩,s,ka (F:=λb=>e b∨b=a) (((kF r).trans z).mono λb _ f=>.inl f) (p:=a) (.inl (.inr rfl)) _,N.set 0 _⟩
def aFB (n:Nat) (a) (o:n<=2147483648):
 Calls prog 43 #[(n:Int),()] a λb g=>∃c i,b=.returned (.tuple #[.pointer (some ⟨c,0,none⟩),o0])/\PermAt g a.heap.size c i (.slice none 0 0) (.slice none 0 0) (.slice none 0 0) (.slice none 0 0) n n [] [] [] []/\Below a.heap.size a g:=by
 have k:¬((n:Int) < 0):=oM;have m:¬((n:Int) > 2147483648):=oM;go_enter func43,ntmps43;go_wp2_with fail;refine (vX _).mono ?_;rintro b w1 ⟨rfl,e,d⟩;have p:=e.lt;go_wp2_with fail;refine wp_loop_rounds 1 ?_;rw [rounds_succ];go_wp2_with fail;go_ret2;have f:=d.size;exact ⟨_,_,rfl,⟨kd _ _ _,ki _ _ _ _,ki _ _ _ _,e.alloc _,ki _ _ _ _,ki _ _ _ _,.inl rfl,λq j=>(by cases j),⟨f,zAs _⟩⟩,d.alloc f _⟩
def dE (b:List Nat) (d c:Nat):List (Nat×Nat):=((List.range c).filter λa=>b.getD a 0 % d==0).map λa=>(a,b.getD a 0)
def aGm (b c a):dE b c (a+1)=if b.getD a 0 % c=0 then dE b c a++ [(a,b.getD a 0)] else dE b c a:=by
 unfold dE;rw [zDx,zEe,zAz];by_cases d:b.getD a 0 % c=0
 .rw [zBx d];simp only [zEu,d,beq_self_eq_true,if_true,List.filter_nil,zEJ,zGv]
 .rw [zBw d];have:(b.getD a 0 % c==0)=false:=(by simpa using d);simp only [zEu,this,zEK,if_false,List.filter_nil,zGv,zEa]
def rA {d f c a} (b:a∈dE d f c):a.1 < c/\a.2=d.getD a.1 0:=by
 unfold dE at b;obtain ⟨g,e,rfl⟩:=zAy.1 b;have:=(zCx.1 e).1;exact ⟨by simpa using this,rfl⟩
def uD (e d c):(dE e d c).Pairwise (λa b=>a.1 < b.1):=by
 unfold dE;rw [zDm];exact List.Pairwise.filter _ List.pairwise_lt_range
def aEy {C a} (b:a < C.length):(aF C a,aS C a)∈C:=by
 unfold aF aS;rw [zAb,zAa b];exact zBj b
def aEx {a} (i:a.Pairwise (λb c=>b.1 < c.1)):(List.range a.length).Pairwise (λb c=>aF a b < aF a c):=by
 rw [zAr];intro f g j m k;have d:f < a.length:=by simpa using j
 have e:g < a.length:=by simpa using m
 have:=zAr.1 i f g d e k;simp only [zFM];unfold aF;rw [zAb,zAb,zAa d,zAa e];exact this
def Apt.cs {j f c g} (k:Apt j c) (o:f.ownBlock=j.ownBlock∨∃e,f.ownBlock=some e/\g<=e) (m:∀a,c=some a->a.block < g):Apt f c:=by
 intro a i b;rcases o with d |⟨e,d,p⟩;exact k a i (d.symm.trans b);rw [d] at b;injection b with b;have:=m a i;omega
def PermAt.cd {s c f e g i j r m P p k q o} (b:PermAt s c f e g i j r m P p k q o) {d} (a:PF f e g i j d):c<=d:=by
 rcases a with rfl | rfl | a | a | a;exact b.lo.1;exact b.lo.2;exact (b.u.lt _ a).1;exact (b.t.lt _ a).1;exact (b.F.lt _ a).1
def PermAt.keep {F i w' j q p v w x u m P r k t o} (b:PermAt i j q p v w x u m P r k t o) (f:Keep F i w') (e:∀d s g,F d->Bk i d s g->s∉ [128,121,3,173,4]):PermAt w' j q p v w x u m P r k t o:=
 ⟨f.d b.a (λa=>e _ _ _ a b.a dC),iJ b.u f (λd g a c=>e _ _ _ a c dC),iJ b.t f (λd g a c=>e _ _ _ a c dC),f.d b.V (λa=>e _ _ _ a b.V dC),iJ b.F f (λd g a c=>e _ _ _ a c dC),iJ b.M f (λd g a c=>e _ _ _ a c dC),b.apart,b.lt,b.lo⟩
structure LvInv (w2:World) (B1 B3 gl gk gp ga n rate:Nat) (A3:Option Addr) (c3:Nat) (rs:List Nat) (k:Nat) (vl vo vt:Value) (tk:List Bool) (wr:World):Prop where
 perm:PermAt wr B1 gp ga vl vo vt (.slice none 0 0) n n (List.range (dE rs rate k).length) (dE rs rate k) tk []
 len:tk.length=(dE rs rate k).length
 dj:Apt vo A3
 row:wr.ownsRow B3 3 1 (.slice A3 n c3) n (rs.map sv)
 a:Bk wr gl 89 #[gk,gp,(rate:Int),o0]
 below:Below w2.heap.size w2 wr
structure LiveAt (w:World) (Bw gl gk gp ga:Nat) (vl vo vt:Value) (B n rate:Nat) (L:List Nat) (C:List (Nat×Nat)) (tk:List Bool):Prop where
 a:Bk w gl 89 #[gk,gp,(rate:Int),o0]
 walk:WalkAt w Bw gk L
 perm:PermAt w B gp ga vl vo vt (.slice none 0 0) n n (List.range C.length) C tk []
def Pq (l:List Nat) (a:Bool):List Nat->Nat->Bool
 | [],_=>a
 | b::q,p=>decide (aN l p < (b:Int))||(decide (aN l p=(b:Int))&&Pq l a q (p+1))
def wJ (l:List Nat):List Nat->Nat->Bool
 | [],_=>true
 | a::q,p=>decide (aN l p=(a:Int))&&wJ l q (p+1)
def aDN (l c b d a):Pq l c (b::d) a=(decide (aN l a < (b:Int))||(decide (aN l a=(b:Int))&&Pq l c d (a+1))):=rfl
def aCg (l c b a):wJ l (c::b) a=(decide (aN l a=(c:Int))&&wJ l b (a+1)):=rfl
def jF (l c d):sufLt l c d↔aN l c < aN l d∨(aN l c=aN l d/\sufLt l (c+1) (d+1)):=by
 constructor
 .rintro ⟨i,b,m,e,f⟩;rcases b with _ | b;exact .inl f
  .refine .inr ⟨e 0 oM,i,b,by omega,λa g=>?_,?_⟩
   .have:=e (a+1) oM;rwa [show c+(a+1)=c+1+a by omega,show d+(a+1)=d+1+a by omega] at this
   .rwa [show c+(b+1)=c+1+b by omega,show d+(b+1)=d+1+b by omega] at f
 .rintro (j |⟨k,i,b,m,e,f⟩);exact ⟨1,0,by omega,λa g=>absurd g oM,j⟩
  .refine ⟨i+1,b+1,by omega,λa g=>?_,?_⟩
   .rcases a with _ | a;exact k
    .have:=e a oM;rwa [show c+(a+1)=c+1+a by omega,show d+(a+1)=d+1+a by omega]
   .rwa [show c+(b+1)=c+1+b by omega,show d+(b+1)=d+1+b by omega]
def aDM {l e} (d):∀ {b c:Nat},sufLt l c b->Pq l e d b=true->Pq l e d c=true:=by
 induction d with
 | nil=>intro b c _ a;exact a
 | cons m d k=>
  intro b c j a;unfold Pq at a⊢;simp only [zEX,zBd,zCa] at a⊢;rcases (jF l c b).1 j with f |⟨f,g⟩;rcases a with a |⟨a,_⟩;exact .inl oM;exact .inl oM;rcases a with a |⟨a,i⟩;exact .inl oM;exact .inr ⟨by omega,k g i⟩
def wH {e:Nat->Nat->Prop} {P:Nat->Bool} {b:List Nat} (p:b.Pairwise e) (k:∀c a,e c a->P a=true->P c=true):b.take (b.countP P)=b.filter P:=by
 induction b with
 | nil=>rfl
 | cons c l r=>
  obtain ⟨g,i⟩:=zEf.1 p;rw [zBn,zEu];by_cases d:P c=true
  .simp only [d,if_true];rw [zDS,r i]
  .have f:∀a∈l,¬P a=true:=λa q o=>d (k c a (g a q) o);have j:l.countP P=0:=zDU.2 f;have m:l.filter P= []:=zFS.2 f;simp [d,j,m]
def Nq (l:List Nat) (a:Bool) (b:List Nat):Nat:=(List.range l.length).countP (Pq l a b)
def IsSuf.count {l a} (b:IsSuf l a) (P:Nat->Bool):a.countP P=(List.range l.length).countP P:=b.perm.countP_eq P
def aNR (l a b):Nq l a b<=l.length:=by
 unfold Nq;have:=zBh (p:=Pq l a b) (l:=List.range l.length);simpa using this
def aF7 {l e} (c:IsSuf l e) (b a f):((aH l e).take (Nq l b a)).count f=(List.range l.length).countP (λd=>decide (bS l d=f)&&Pq l b a d):=by
 have g:Nq l b a=e.countP (Pq l b a):=(c.count _).symm;rw [g,aH,<-zDw,wH c.B (λk m i j=>aDM a i j),<-c.count,zEU,zEr,List.countP_filter];refine zDy λd _=>?_;simp [Function.comp,and_comm]
def bV {l} (a:0 < l.length):bS l 0=l.getD (l.length - 1) 0:=by
 unfold bS;rw [zBi,zBu oM]
def bL {l a} (b:a+1 < l.length):bS l (a+1)=l.getD a 0:=by
 unfold bS;rw [show a+1+l.length - 1=a+l.length by omega,Nat.add_mod_right,zBu oM]
def fN {l a} (b:a < l.length):aN l a=((l.getD a 0:Nat):Int):=by
 rw [aNQ b,zAb,zAa b];rfl
def iE {m} (b:Nat->Bool) (c:Nat->Bool) (d:b 0=c m) (e:∀a,a < m->b (a+1)=c a):(List.range (m+1)).countP b=(List.range (m+1)).countP c:=by
 rw [List.range_succ_eq_map,zBn,zEr,<-List.range_succ_eq_map,zDx,zFj,zBn,List.countP_nil,zBi,d];congr 1;refine zDy λa f=>?_;have g:a < m:=by simpa using f
 simp [Function.comp,e a g]
def wW {α:Type} (l:List α) (b c:α->Bool) (d:∀a∈l,¬(b a=true/\c a=true)):l.countP (λa=>b a||c a)=l.countP b+l.countP c:=by
 induction l with
 | nil=>rfl
 | cons a l f=>
  rw [zBn,zBn,zBn,f (λg e=>d g (by simp [e]))];have:=d a zs;cases i:b a <;> cases j:c a <;> simp_all <;> omega
structure EndOk (l:List Nat) (m:Nat):Prop where
 len:l.length=m+1
 last:l.getD m 0=0
 pos:∀p,p < m->0 < l.getD p 0
def aHT {l i d} (j:IsSuf l i) (k:EndOk l d) (e f b) (v:0 < b):cR (aH l i) b (Nq l e f)=Nq l e (b::f):=by
 have c:=k.len;unfold cR;rw [aF7 j];have m:(aH l i).countP (λr=>decide (r < b))=(List.range (d+1)).countP (λa=>decide (l.getD a 0 < b)):=by
  rw [aH,zEr,j.count,c];refine iE _ _ ?_ λa g=>?_
  .show decide (bS l 0 < b)=_;rw [bV oM,c,zBb]
  .show decide (bS l (a+1) < b)=_;rw [bL oM]
 have o:(List.range l.length).countP (λa=>decide (bS l a=b)&&Pq l e f a)=(List.range (d+1)).countP (λa=>decide (l.getD a 0=b)&&Pq l e f (a+1)):=by
  rw [c];refine iE _ _ ?_ λa g=>?_;show (decide (bS l 0=b)&&_)=(decide (l.getD d 0=b)&&_);rw [bV oM,c,zBb,k.last];have:decide (0=b)=false:=zt;rw [this];rfl
  .show (decide (bS l (a+1)=b)&&_)=_;rw [bL oM]
 rw [m,o,<-wW]
 .unfold Nq;rw [c];refine zDy λa g=>?_;have u:a < d+1:=(by simpa using g);rw [aDN,fN oM];have p:decide (((l.getD a 0:Nat):Int) < b)=decide (l.getD a 0 < b):=(by rw [decide_eq_decide];omega);have q:decide (((l.getD a 0:Nat):Int)=b)=decide (l.getD a 0=b):=(by rw [decide_eq_decide];omega);rw [p,q]
 intro a _;simp only [zBd,zCa];rintro ⟨s,t,_⟩;omega
def aOX (l):Nq l false []=0/\Nq l true []=l.length:=by
 constructor;unfold Nq;exact zDU.2 λ_ _ a=>by simp [Pq] at a
 .unfold Nq;have:=(zDJ (p:=Pq l true []) (l:=List.range l.length)).2 (λ_ _=>rfl);rw [this];simp
def fA (a):EndOk (aG a) a.length:=by
 refine ⟨aO a,?_,λc b=>?_⟩
 .unfold aG dQ;rw [zAb,zAo zs];simp
 .unfold aG dQ;rw [zAb,zAn (by simpa using b),zAf,zAa b];simp
def aMg (l b):∀a,Pq l true b a=(Pq l false b a||wJ l b a)/\¬(Pq l false b a=true/\wJ l b a=true):=by
 induction b with
 | nil=>intro a;exact ⟨rfl,λi=>by simp [Pq] at i⟩
 | cons c b m=>
  intro a;obtain ⟨j,k⟩:=m (a+1);rw [aDN,aDN,aCg,j];by_cases d:aN l a < (c:Int)
  .have:¬aN l a=c:=oM;simp [d,this]
  .by_cases e:aN l a=c;have f:decide (aN l a < (c:Int))=false:=(by simpa using d);have g:decide (aN l a=c)=true:=(by simpa using e);rw [f,g,zGm,zDO,zGm,zDO,zDO];exact ⟨rfl,k⟩
   .simp [d,e]
def occ (l:List Nat) (a:List Nat):Nat:=(List.range l.length).countP (wJ l a)
def aHx (l a):Nq l true a=Nq l false a+occ l a:=by
 unfold Nq occ;rw [<-wW _ _ _ λb _=>(aMg l a b).2];exact zDy λb _=>by rw [(aMg l a b).1]
def lW (c:IntKind) (n:Nat) (a:Nat->Nat):Array Value:=((List.range n).map λb=>Value.int c ((a b:Nat):Int)).toArray
def nI (b:IntKind) (n a):(lW b n a).size=n:=by simp [lW]
def gX {c:IntKind} {n b a} (d:a < n):(lW c n b)[a]?=some (.int c ((b a:Nat):Int)):=by
 unfold lW;rw [zCy,zAf,zCk d];rfl
def xC {c:IntKind} {n b a} (d:¬a < n):(lW c n b)[a]?=none:=zDn (by rw [nI];omega)
def dP {d:IntKind} {n b c} (e:∀a,a < n->b a=c a):lW d n b=lW d n c:=by
 unfold lW;congr 1;exact zFb λa f=>by rw [e a (zCj.1 f)]
def nJ {e:IntKind} {n f d i} (g:d < n):(lW e n f).setIfInBounds d (.int e ((i:Nat):Int))=lW e n (λc=>if c=d then i else f c):=by
 apply zEO;intro c;rw [zCd,nI];by_cases b:c < n
 .rw [gX b,gX b];by_cases a:d=c
  .subst a;rw [zBx rfl,zBx b,zBx rfl]
  .rw [zBw a,zBw (λg=>a g.symm)]
 .rw [xC b,xC b];by_cases a:d=c
  .subst a;rw [zBx rfl,zBw b]
  .rw [zBw a]
def rX (b:IntKind) (n):Array.replicate n (Value.int b 0)=lW b n (λ_=>0):=by
 apply zEO;intro c;by_cases a:c < n;rw [gX a,Array.getElem?_replicate,zBx a];rfl
 .rw [xC a,Array.getElem?_replicate,zBw a]
def aJw (b:IntKind) (n a):(lW b n a).toList=(List.range n).map λc=>Value.int b ((a c:Nat):Int):=rfl
def aKI (a:Option Addr) (n c b:Nat):Array Value:=#[.slice a n c,.int .i64 b,.bool false]
def oV {gr:Nat} {A} {n c B at_ to_ v:Nat} (aA:Nat) {l w} (a:Bk w gr 156 (aKI A n c at_)) (j:Rd w B 1 A n (l.map bv)) (i:n<=c) (f:c<=maxLen) (g:fF l (at_:Int)=(v,(to_:Int),0)) (t:v<=aA) (s:aA<=4611686018427387904):
 Calls prog 122 #[gr,(aA:Int)] w λe d=>e=.returned (.int .i64 v)/\Bk d gr 156 (aKI A n c to_)/\Keep (λb=>b=gr) w d:=by
 have o:w.cell? gr=some (.slice A n c):=a.cell 0;have q:w.cell? ⟨gr,1,none⟩=some (.int .i64 at_):=a.cell 1;have r:=a.frozen 1;have k:¬((v:Int) > aA):=oM;have u:=zBy k;have m:¬aA < v:=oM;have x:=zBy m;have y:IntKind.u64.wrap aA=(aA:Int):=zv
 have z:IntKind.i64.wrap v=(v:Int):=zu
 go_enter func122,ntmps122;go_wp2_with fail;go_quiet (exact tB (fZ g (j.drewN _) i f));go_wp2_with fail;go_ret;exact ⟨rfl,(a.drewN nq).set 1 _,((ke (λb=>b=gr) w).drewN nq).setCell (p:=⟨gr,1,none⟩) (.inl rfl) _⟩
def vI {gr:Nat} {A} {n c B at_ q k:Nat} (a:Nat) {l w} (f:Bk w gr 156 (aKI A n c at_)) (t:Rd w B 1 A n (l.map bv)) (J:n<=c) (H:c<=maxLen) (T:n<=1099511627776) (o:fF l (at_:Int)=(k,(q:Int),0)) (U:q+(k+4)=a) (ht:a<=n):
 Calls prog 123 #[gr] w λj x=>j=.returned (.slice (dH A c q 1) k (c - q))/\Bk x gr 156 (aKI A n c a)/\Keep (λy=>y=gr) w x:=by
 have s:=oV n f t J H o oM oM;have z:w.cell? gr=some (.slice A n c):=f.cell 0;clear f t o;go_enter func123,ntmps123;go_wp2_with fail;refine s.mono ?_;clear s;rintro j w1 ⟨rfl,d,r⟩;have C:w1.cell? gr=some (.slice A n c):=d.cell 0;have D:w1.cell? ⟨gr,1,none⟩=some (.int .i64 q):=d.cell 1;have E:w1.cell? ⟨gr,2,none⟩=some (.bool false):=d.cell 2;have G:=d.frozen 1;obtain ⟨b,I⟩:∃b,n - q=b+4:=⟨n - q - 4,by omega⟩;have L:IntKind.i64.wrap (n -q)=((b+4:Nat):Int):=zu
 have M:IntKind.i64.wrap ((b+4:Nat) - 4)=(b:Int):=zu
 have u:¬((k:Int) > b):=oM;have N:=zBy u;have v:¬b < k:=oM;have O:=zBy v;clear z;go_wp2_with fail;go_quiet (fail);go_wp2_with fail;have F:((q:Int)+((k:Int)+4))=(a:Int):=oM;rw [F];have e:=(d.drewN nq).set 1 (.int .i64 a);have i:=(r.drewN nq).setCell (p:=⟨gr,1,none⟩) (.inl rfl) (.int .i64 a);generalize (w1.drewN nq).setCell ⟨gr,1,none⟩ (.int .i64 a)=w2 at e i⊢;have R:w2.cell? gr=some (.slice A n c):=e.cell 0;have S:w2.cell? ⟨gr,1,none⟩=some (.int .i64 a):=e.cell 1;obtain ⟨g,W⟩:=eqx (q+k);have Z:IntKind.i64.wrap (a -k)=((q+4:Nat):Int):=zu
 have a0:IntKind.i64.wrap ((q+4:Nat) - 4)=(q:Int):=zu
 have a1:IntKind.i64.wrap (a - 4)=(g:Int):=zu
 have K:=λw=>kN (P:=prog) 22 5 1 underlying22 (λw=>by kernel_rfl) A n c q g oM oM w;have m:g - q=k:=oM;rw [m] at K;have V:q<=1099511627776:=oM;have X:a<=1099511627776:=oM;have Y:q+k+4=a:=oM;clear d r C D E G I L M u N v O m;go_quiet (fail);go_wp2_with fail;go_ret;exact ⟨rfl,e.drewN _,i.drewN _⟩
def aI0 {a b} (i:IsSuf (aG a) b) {c:Nat} (f:b[c]?=some 0):(aH (aG a) b)[c]?=some 0:=by
 unfold aH;rw [zAf,f];obtain ⟨d,e,g⟩:=fA a;show some (bS (aG a) 0)=some 0;rw [bV oM,d];have:a.length+1 - 1=a.length:=oM;rw [this,e]
def aG3 {a e} (i:IsSuf (aG a) e):(aH (aG a) e).count 0=1:=by
 obtain ⟨c,f,g⟩:=fA a;unfold aH;rw [zEU,zEr,i.count,c,iE (m:=a.length) _ (λb=>(aG a).getD b 0==0)]
 .rw [zDx,zFj];have j:(List.range a.length).countP (λb=>(aG a).getD b 0==0)=0:=zDU.2 λb d k=>by have:=g b (zCj.1 d);rw [zCr] at k;omega
  rw [j];simp only [List.countP_singleton,f];rfl
 .simp only [Function.comp];rw [bV oM,c];congr 2
 .intro b d;simp only [Function.comp];rw [bL oM]
def aIU {b c d} (g:b[c]?=some d) (a):cR b a (c+1)=if a=d then cR b a c+1 else cR b a c:=by
 unfold cR;rw [zAv,g,zCc];by_cases e:a=d;subst e;rw [zBx rfl];simp;omega
 .rw [zBw e];have:([d]:List Nat).count a=0:=(by rw [List.count_eq_zero];intro f;simp at f;exact e f);show _+((b.take c).count a+ [d].count a)=_;rw [this,zBq]
def aHA {j k:Option Addr} {n:Nat} (q r:Nat) {g:Nat} {d:List Nat} {b:World} (o:Rd b g 1 j n (d.map sv)) (w:Rd b g 1 k n (d.map sv)) (hB:g<=b.heap.size) (D:n<=1099511627776):
 Calls prog 220 #[.slice j n q,.slice k n r] b λs y=>s=.returned (.bool true)/\Below b.heap.size b y:=by
 have B:d.length=n:=by have:=o.1;simpa using this
 go_enter func220,ntmps220;go_wp2_with fail;go_loopw [13] (λi wr=>∃c:Nat,c<=n/\i=.int .i64 c/\Below b.heap.size b wr) (λi _=>n -(intOf i).toNat)
 case atStart=>exact ⟨0,by omega,rfl,kg _ _⟩
 case round=>
  obtain ⟨c,C,rfl,a⟩:=hrel;by_cases m:c < n
  .obtain ⟨b1,E,G,rfl,z,e,t⟩:=(o.below (a.mono hB)).get m;obtain ⟨b2,F,H,rfl,A,f,u⟩:=(w.below (a.mono hB)).get m;obtain ⟨p,x⟩:∃p,d[c]?=some p:=⟨_,zAa oM⟩;rw [zAf,x] at e f;injection e with e;injection f with f;subst e f;unfold sv at t u;go_wp2_with fail;go_quiet (fail);go_wp2_with fail;go_roundw
   case rel=>exact ⟨c+1,by omega,by go_num,⟨a.os,a.tape,a.output,a.size,a.block⟩⟩
   case measure=>exact zr
  .have v:c=n:=oM;subst v;go_wp2_with fail;go_ret;exact ⟨rfl,a⟩
def aA8 {A A2:Option Addr} {n:Nat} (a b:Nat) {B:Nat} {L:List Nat} {w:World} (d:Rd w B 1 A n (L.map sv)) (e:Rd w B 1 A2 n (L.map sv)) (hB:B<=w.heap.size) (i:n<=1099511627776):
 Calls prog 185 #[.slice A n a,.slice A2 n b] w λc j=>c=.returned (.bool true)/\Below w.heap.size w j:=by
 have g:=aHA a b d e hB i;clear d e;go_enter func185,ntmps185;go_wp2_with fail;refine g.mono ?_;rintro c w1 ⟨rfl,f⟩;go_wp2_with fail;go_ret;exact ⟨rfl,f⟩
def aBt {A A2:Option Addr} {n n2:Nat} (d e:Nat) {B:Nat} {l l2:List UInt8} {w:World} (f:Rd w B 1 A n (l.map bv)) (g:Rd w B 1 A2 n2 (l2.map bv)):
 Calls prog 126 #[.slice A n d,.slice A2 n2 e] w λi p=>i=.returned (.bool (l==l2))/\Below w.heap.size w p:=by
 have m:(convert 22 9 (.slice A n d)).run prog w=.ok (.string ⟨l.toArray⟩) w:=nX (P:=prog) 22 9 5 underlying22 underlying5 underlying9 f;have o:(convert 22 9 (.slice A2 n2 e)).run prog w=.ok (.string ⟨l2.toArray⟩) w:=nX (P:=prog) 22 9 5 underlying22 underlying5 underlying9 g;obtain ⟨q,a⟩:∃c:ByteArray,⟨l.toArray⟩=c:=⟨_,rfl⟩;obtain ⟨r,b⟩:∃c:ByteArray,⟨l2.toArray⟩=c:=⟨_,rfl⟩;rw [a] at m;rw [b] at o;have j:q.toList=l:=by rw [<-a,ByteArray.toList_eq]
 have k:r.toList=l2:=by rw [<-b,ByteArray.toList_eq]
 clear a b f g;go_enter func126,ntmps126;go_wp2_with fail;go_ret;refine ⟨?_,kg _ _⟩;rw [<-j,<-k];rfl
def aDT {o g t A B C z p P c a y s} (row) {d} (i:PermAt d o g t A B C z p P c a y s) (m:c.Pairwise (λq r=>aF a q < aF a r)) (x:c.length<=1099511627776) (k:∀b∈c,aF a b≠row):
 Calls prog 118 #[g,(row:Int)] d λf D=>f=.returned (.int .i64 (-1))/\Below d.heap.size d D:=by
 have e:=lS row i m x;have j:decide (∃b∈c,aF a b=row)=false:=by simp only [decide_eq_false_iff_not];rintro ⟨b,u,v⟩;exact k b u v
 rw [j] at e;clear i m k j;go_enter func118,ntmps118;go_wp2_with fail;refine e.mono ?_;rintro f w1 ⟨rfl,w⟩;clear e;go_wp2_with fail;go_ret;exact ⟨rfl,w⟩
def aDS {F p L Z a0 a1 Y G P e a X K row g t} (j:PermAt t F p L Z a0 a1 Y G P e a X K) (m:e.Pairwise (λi o=>aF a i < aF a o)) (O:e.length<=1099511627776) (a6:a.length<=1099511627776) (k:g∈e) (w:aF a g=row):
 Calls prog 118 #[p,(row:Int)] t λy a2=>y=.returned (.int .i64 (aS a g:Nat))/\Below t.heap.size t a2:=by
 have q:=lS row j m O;have C:decide (∃x∈e,aF a x=row)=true:=zBz ⟨g,k,w⟩;rw [C] at q;obtain ⟨d,s,U⟩:=(wZ m row).2 ⟨g,k,w⟩;obtain ⟨f,E⟩:∃f,(e.countP λx=>decide (aF a x < row))=f:=⟨_,rfl⟩;rw [E] at s q;have W:d=g:=by
  obtain ⟨i,B,u⟩:=zBo.1 k;obtain ⟨o,v⟩:=zAc.1 s;rcases zDD i f with b | b | b;have:=zAr.1 m i f B o b;rw [u,v] at this;omega
  .subst b;rw [<-u,<-v]
  have:=zAr.1 m f i o B b;rw [u,v] at this;omega
 subst W;have ad:f < e.length:=(zAc.1 s).1;have V:d < a.length:=j.lt d k;obtain ⟨z,I,T,aa,M⟩:=kj j.t oM;obtain ⟨A,J,S,ab,N⟩:=kj j.u oM;subst T;subst S;have R:=(cL a d V).2;have ac:(f:Int) < e.length:=oM;have ae:(d:Int) < a.length:=oM;clear m C U E k w;go_enter func118,ntmps118;go_wp2_with fail;refine q.mono ?_;rintro y w1 ⟨rfl,r⟩;have b:=j.below r;have a3:∀c,(w1.drewN c).cell? ⟨p,1,none⟩=some (.slice (some A) a.length J):=λc=>(b.a.cell 1).trans rfl;have a4:∀c,(w1.drewN c).cell? ⟨p,2,none⟩=some (.slice (some z) e.length I):=λc=>(b.a.cell 2).trans rfl;have a9:=b.a.lt;have a5:∀c,(w1.drewN c).cell? ⟨z,f,none⟩=some (.int .i64 d):=λc=>(kh b.t f oM).trans (by rw [zAf,s];rfl);have H:∀c,(w1.drewN c).cell? ⟨A,d*2+1,none⟩=some (.int .i64 (aS a d:Nat)):=λc=>(kh b.u (d*2+1) oM).trans R;have a7:=zAl M r.size;have a8:=zAl N r.size;obtain ⟨af,D⟩:=eqx (aS a d);rw [D] at H;clear q b;go_wp2_with fail;go_quiet (fail);go_wp2_with fail;go_ret;exact ⟨by rw [D];rfl,km r _⟩
section
attribute [local go_sem] Oper.semAt_some
section
variable {P : Program} {ops : Array Oper} {md : Region.Mode} {Q : Exit -> Act -> World -> Prop} {l n : Nat}
def aIh {f:Oper} {e:Act} {d:Act->World->Prop} {b:Result Next} (a:f.upon P e d Q b):f.uponIn (Fence.wide.inRound l) n P e d Q b:=by
 cases b with
 | ok c s=>
  cases c with
  | value g=>exact a
  | skip=>exact a
  | defer t=>exact a
  | enter u j=>
   refine ⟨λa=>(by simp [Fence.wide] at a),CallsIn.inRound l (callsIn_wide.2 (Calls.mono a ?_))⟩;intro o i p;cases o <;> exact p
  | row row j=>
   refine ⟨λa=>(by simp [Fence.wide] at a),λk m _=>?_⟩;obtain ⟨g,i,q,r⟩:=a k m;exact ⟨g,i,q,stepsIn_wide.2 r⟩
  | _=>exact a.elim
 | halt c s=>cases c <;> exact a
def aFZ (r:¬LetsOut Q) (p:∀(e:Nat) (f:Oper),ops[e]?=some f->∀o,f.op≠.defer o):∀(d:Nat) (i:Array Bool) (b:Act) (c:World),wpAny P md ops Q d i b c->wpAnyIn (Fence.wide.inRound l) n P md ops Q d i b c:=by
 intro d
 induction d with
 | zero=>intro i b c g;exact g
 | succ d k=>
  intro i b c g;refine ⟨g.1,λe q=>?_⟩;have a:=g.2 e q;unfold wpOp at a;unfold wpOpIn;cases j:ops[e]? with
  | none=>
   rw [j] at a;exact k _ _ _ a
  | some f=>
   rw [j] at a;simp only at a⊢;by_cases m:Region.wanted f (yielded ops b.tmps)=true;rw [zBx m] at a⊢;rcases a with a | a;refine ⟨λ_ _=>trivial,?_⟩;rw [Oper.semAt_eq _ _ _ (p e f j)];exact aIh (Oper.wp_mono (λb c=>k _ b c) a);exact absurd a.2 r;rw [zBw m] at a⊢;exact ⟨λ_ _=>trivial,k _ _ _ a⟩
end
def KpB (b1 b2:Nat) (b c:World):Prop:=∀a:Addr,(a.block=b1∨a.block=b2)->c.cell? a=b.cell? a
def KpB.trans {b1 b2 a b c} (f:KpB b1 b2 a b) (g:KpB b1 b2 b c):KpB b1 b2 a c:=λe d=>(g e d).trans (f e d)
def bkL (a:List UInt8) (c:Nat):List (Nat×UInt8):=(List.range c).map λb=>(a.length - 1 - b,a.getD (a.length - 1 - b) 0)
def aL2 (a b):bkL a (b+1)=bkL a b++ [(a.length - 1 - b,a.getD (a.length - 1 - b) 0)]:=by simp [bkL,zDx]
def aNt (b a):(bkL b a).length=a:=by simp [bkL]
def aD9 (p:Fence) (n) (L:p.fn 171) (O:p.round=none) (Y:1<=n) (l j m u D v b) (F:0 < b.length->v=some ⟨m,u,none⟩) (N:b.length<=1000000) {k:List (Nat×UInt8)->World->Prop} (w:List (Nat×UInt8)->World->Prop) (H:∀g i d,k g d->g.length < b.length->YieldAt p (n - 1) prog l #[(i.1:Int),.int .u8 i.2.toNat] d λc e=>
 (c=.returned (.bool true)/\k (g++ [i]) e/\KpB j m d e)∨(c=.returned (.bool false)/\w (g++ [i]) e)) {d} (x:d.cell? j=some (.slice v b.length D)) (I:∀a,a < b.length->d.cell? ⟨m,u+a,none⟩=some (.int .u8 ((b.getD a 0).toNat:Int))) (E:k [] d):
 CallsIn p n prog 171 #[.func (.yield l) #[] #[],j] d λc e=>(∃S,c=.returned S)/\
  ((∃C,C=bkL b b.length/\k C e)∨(∃g,True/\w g e)):=by
 obtain ⟨len,f⟩:=eqx b.length;rw [f] at x N;refine callsIn_of_wp func171 rfl L ?_ O;simp only [ntmps171,List.size_toArray,zCg,zDM,Nat.reduceAdd,Nat.reduceSub,Array.replicate_succ,Array.replicate_zero,List.push_toArray,List.append_toArray,zDH,zEm]
 gi_wp2
 gi_loopw [3] (λt wr=>∃o:Nat,o<=len/\t=.int .i64 ((o:Int) - 1)/\k (bkL b (len - o)) wr/\KpB j m d wr) (λt _=>(intOf t+1).toNat)
 case atStart=>exact ⟨len,zAs _,rfl,by rw [zDK];exact E,λ_ _=>rfl⟩
 case round=>
  obtain ⟨o,Z,rfl,q,r⟩:=hrel;rcases o with _ | a
  .have c:((0:Nat):Int) - 1=-1:=oM;rw [c];rw [Nat.sub_zero] at q;clear r
   gi_wp2
   go_end0;exact ⟨⟨_,rfl⟩,.inl ⟨_,rfl,by rw [f];exact q⟩⟩
  .have c:((a+1:Nat):Int) - 1=a:=oM;rw [c];have A:bkL b (len - a)=bkL b (len -(a+1))++ [(a,b.getD a 0)]:=(by rw [show len - a=(len -(a+1))+1 by omega,aL2,f,show len - 1 -(len -(a+1))=a by omega]);have J:=(r ⟨j,0,none⟩ (.inl rfl)).trans x;rw [F (by rw [f];omega)] at J;have K:=(r ⟨m,u+a,none⟩ (.inr rfl)).trans (I a (by rw [f];omega));have X:a < len:=oM;obtain ⟨i,B⟩:=eqx (b.getD a 0);rw [B] at K A;obtain ⟨W,a0,U,V,R,G⟩:=H (bkL b (len -(a+1))) (a,i) wr q (by rw [aNt,f];omega);dsimp only at R;clear q c B
   gi_wp2
   refine G.mono ?_;rintro c T (⟨rfl,y,M⟩|⟨rfl,z⟩)
   .have s:=y;clear y
    gi_wp2
    go_roundw
    case rel=>exact ⟨a,by omega,rfl,by rw [A];exact s,r.trans M⟩
    case measure=>simp [intOf]
   .have s:=z;clear z
    gi_wp2
    refine bodyPost_ret (results_none rfl _ _ _) rfl ?_;exact ⟨⟨_,rfl⟩,.inr ⟨_,trivial,s⟩⟩
end
def aKS (l e):∀c,wJ l e c=true↔∀(a d:Nat),e[a]?=some d->aN l (c+a)=(d:Int):=by
 induction e with
 | nil=>intro c;exact ⟨λ_ a d b=>by simp at b,λ_=>rfl⟩
 | cons k e j=>
  intro c;rw [aCg,zBd,zCa,j];constructor
  .rintro ⟨f,g⟩ a d b;rcases a with _ | a;simp at b;subst b;exact f
   .have:=g a d (by simpa using b);rwa [show c+(a+1)=c+1+a by omega]
  .intro b;refine ⟨b 0 k zs,λa d i=>?_⟩;have:=b (a+1) d (by simpa using i);rwa [show c+1+a=c+(a+1) by omega]
def rY {d c a} (b:d[c]?=some a):aN (aG d) c=((a.toNat+1:Nat):Int):=by
 have e:=(zAc.1 b).1;refine mG ?_;unfold aG dQ;rw [zAn (by simpa using e),zAf,b];rfl
def aGC (d j c):wJ (aG d) (dQ j) c=true↔∀(a:Nat) (b:UInt8),j[a]?=some b->d[c+a]?=some b:=by
 rw [aKS];constructor
 .intro f a b g;have:=f a (b.toNat+1) (by unfold dQ;rw [zAf,g];rfl);cases ht:d[c+a]? with
  | none=>
   exfalso;have m:=List.getElem?_eq_none_iff.1 ht;rcases zFL m with e | e
   .have:aN (aG d) (c+a)=0:=by
     rw [mG (x:=0)];rfl
     .unfold aG dQ;rw [zAo zt];simp [e]
    omega
   have:aN (aG d) (c+a)=-1:=pC (by rw [aO];omega);omega
  | some k=>
   rw [rY ht] at this;have e:k.toNat=b.toNat:=oM;rw [UInt8.toNat_inj.1 e]
 intro f a o i;unfold dQ at i;rw [zAf] at i;obtain ⟨b,g,rfl⟩:=zEF.1 i;exact rY (f a b g)
def aMa (a):aN (aG a) a.length=0:=by
 refine mG (x:=0) ?_;unfold aG dQ;rw [zAo zs];simp
def ShelfRow.same {o w' e n f lv l} (q:ShelfRow o e n f lv l) (k:∀a d b,Bk o a d b->Bk w' a d b):ShelfRow w' e n f lv l:=by
 obtain ⟨p,r,g⟩:=q;exact ⟨p,aC r λa b _ c=>k _ _ _ c,λm j=>⟨(g m j).1,(g m j).2.same λa d b _ c=>k _ _ _ c⟩⟩
def WalkAt.same {g w' b gk c} (l:WalkAt g b gk c) (a:∀d f e,Bk g d f e->Bk w' d f e):WalkAt w' b gk c:=by
 obtain ⟨k,j,n,⟨m,S,s,o,p⟩,q⟩:=l;exact ⟨k,j,a _ _ _ n,⟨m,S,s,a _ _ _ o,λlv r=>(p lv r).same a⟩,a _ _ _ q⟩
def LvW (a:World) (b d:Nat) (c:List Nat):Prop:=∃gk e f g,Bk a d 89 #[.pointer (some ⟨gk,0,none⟩),e,f,g]/\WalkAt a b gk c
def LvW.b {e w' a c b} (f:LvW e a c b) (d:Vis e w'):LvW w' a c b:=by
 obtain ⟨gk,k,l,m,g,j⟩:=f;exact ⟨gk,k,l,m,d.d g dC dC,j.b d⟩
def LvW.same {j w' a e b} (k:LvW j a e b) (f:∀c g d,Bk j c g d->Bk w' c g d):LvW w' a e b:=by
 obtain ⟨gk,n,o,p,l,m⟩:=k;exact ⟨gk,n,o,p,f _ _ _ l,m.same f⟩
def LvW.lt {b c a d} (e:LvW b c a d):a < b.heap.size:=by
 obtain ⟨gk,j,k,l,f,g⟩:=e;exact f.lt
def ShelfRow.bh {o p e n f lv l} (r:ShelfRow o e n f lv l) (k:∀a c b,c≠3->Bk o a c b->Bk p a c b):ShelfRow p e n f lv l:=by
 obtain ⟨q,s,g⟩:=r;exact ⟨q,aC s λa b _ d=>k _ _ _ dC d,λm j=>⟨(g m j).1,(g m j).2.same λa c b ht d=>k _ _ _ (by rintro rfl;revert ht;decide) d⟩⟩
def LvW.bh {j k c g d} (n:LvW j c g d) (a:∀e b f,b≠3->Bk j e b f->Bk k e b f):LvW k c g d:=by
 obtain ⟨gk,u,v,w,o,m,l,p,⟨hB,S,x,q,r⟩,s⟩:=n;exact ⟨gk,u,v,w,a _ _ _ dC o,m,l,a _ _ _ dC p,⟨hB,S,x,a _ _ _ dC q,λlv t=>(r lv t).bh a⟩,a _ _ _ dC s⟩
def LvW.cz {l d o q b e z p} (t:LvW l o q p) (g:VisF (λa=>a=b) l d) (u:Bk l b 3 #[e]) (v:Bk d b 3 #[z]):LvW d o q p:=by
 have s:Bk (d.setCell b e) b 3 #[e]:=v.set 0 e;have k:∀a,a≠b->(d.setCell b e).heap[a]?=d.heap[a]?:=λa x=>heap_setCell_other d ⟨b,0,none⟩ a e x;have y:Vis l (d.setCell b e):=by refine ⟨g.os,g.tape,g.output,by simpa [World.setCell] using g.size,λa w _=>?_⟩;by_cases c:a=b;subst c;exact .inl (s.trans u.symm);rcases g.block a w c with f |⟨j,n,f,m⟩|⟨j,n,f,m⟩;exact .inl ((k a c).trans f);exact .inr (.inl ⟨j,n,f,(k a c).trans m⟩);exact .inr (.inr ⟨j,n,f,(k a c).trans m⟩)
 refine (t.b y).bh λa A j ht r=>?_;have c:a≠b:=λc=>by subst c;exact ht (aU r s).1
 exact (k a c).symm.trans r
def LiveAt.ai {e a c gk k j o p q f l m b g n} (d:LiveAt e a c gk k j o p q f l m b g n):LvW e a c b:=⟨gk,_,_,_,d.a,d.walk⟩
def cD {B gl a n w} (e:LvW w B gl a) (g:a.length=n+1) (l:n<=1000000):
 Calls prog 17 #[gl] w λb d=>b=.returned (.int .i64 n)/\w=d:=by
 obtain ⟨gk,m,o,p,c,f⟩:=e;have j:=c.cell 0;have k:IntKind.i64.wrap ((n+1:Nat) - 1)=(n:Int):=zu
 clear c;go_enter func17,ntmps17;go_wp2_with fail;refine (mH f).mono ?_;rintro b d ⟨rfl,rfl⟩;rw [g];go_wp2_with fail;go_ret;exact ⟨fM oM,rfl⟩
def aIV (a b) {c d} (e:c<=d):cR a b c<=cR a b d:=by
 unfold cR;have:=(List.take_sublist_take_left (l:=a) e).count_le b;omega
def zG (b a e):cR b a e<=b.length:=by
 unfold cR;have k:=(zEY e b).count_le a;have l:b.countP (λc=>decide (c < a))+b.count a<=b.length:=by
  induction b with
  | nil=>simp
  | cons c j g=>
   have:=g ((zEY e j).count_le a);rw [zBn,zDg];by_cases d:c < a;have:¬c=a:=oM;simp [d,this];omega;by_cases f:c=a;simp [d,f];omega;simp [d,f];omega
 omega
noncomputable def ltP (a:List Nat) (b c:Nat):Bool:=@decide (sufLt a c b) (Classical.propDecidable _)
def uQ (a b c):ltP a b c=true↔sufLt a c b:=by
 unfold ltP;exact @decide_eq_true_iff _ (Classical.propDecidable _)
def aCm {b a} (g:IsSuf b a) {i} (k:i < a.length):a.countP (ltP b a[i])=i:=by
 have n:(a.take i).countP (ltP b a[i])=i:=by rw [zDJ.2 λm f=>?_];rw [zAj];omega;obtain ⟨d,e,rfl⟩:=zBo.1 f;rw [zAj] at e;rw [zEC,uQ];exact zAr.1 g.B d i oM k oM
 have o:(a.drop i).countP (ltP b a[i])=0:=zDU.2 λm f c=>by obtain ⟨d,e,rfl⟩:=zBo.1 f;rw [zAw] at e;rw [zED,uQ] at c;rcases zBa d with j | j;subst j;exact sufLt.asymm c c;exact sufLt.asymm c (zAr.1 g.B i (i+d) k oM oM)
 have l:a.countP (ltP b a[i])=(a.take i++a.drop i).countP (ltP b a[i]):=congrArg (List.countP _) (zAu i a).symm;rw [l,zFj];omega
def aEf {a d} (e:IsSuf a d) (b:Nat->Bool) (k:∀g j,sufLt a g j->b j=true->b g=true) (f):((aH a d).take (d.countP b)).count f=(List.range a.length).countP (λc=>decide (bS a c=f)&&b c):=by
 rw [aH,<-zDw,wH e.B k,<-e.count,zEU,zEr,List.countP_filter];refine zDy λc _=>?_;simp [Function.comp,and_comm]
def lf {a e g} (f:IsSuf a e) (n:EndOk a g) {i o b} (q:i < e.length) (y:o < e.length) (x:e[i]=b+1) (z:e[o]=b):cR (aH a e) (a.getD b 0) i=o:=by
 have j:=n.len;have A:b < g:=zj (f.lt (zBj q))
 have B:=n.pos b A;obtain ⟨d,r⟩:=eqx (a.getD b 0);rw [r] at B⊢;have p:=aCm f q;have m:=aCm f y;rw [x] at p;rw [z] at m;have s:=aEf f (ltP a (b+1)) (λc F C u=>by rw [uQ] at u⊢;exact C.trans u) d;rw [p] at s;rw [f.count] at m;unfold cR;rw [s];have v:(aH a e).countP (λc=>decide (c < d))=(List.range (g+1)).countP (λb=>decide (a.getD b 0 < d)):=by
  rw [aH,zEr,f.count,j];refine iE _ _ ?_ λb D=>?_
  .show decide (bS a 0 < d)=_;rw [bV oM,j,zBb]
  .show decide (bS a (b+1) < d)=_;rw [bL oM]
 have w:(List.range a.length).countP (λc=>decide (bS a c=d)&&ltP a (b+1) c)=(List.range (g+1)).countP (λc=>decide (a.getD c 0=d)&&ltP a (b+1) (c+1)):=by
  rw [j];refine iE _ _ ?_ λc t=>?_;show (decide (bS a 0=d)&&_)=(decide (a.getD g 0=d)&&_);rw [bV oM,j,zBb,n.last];have:decide (0=d)=false:=zt;rw [this];rfl
  .show (decide (bS a (c+1)=d)&&_)=_;rw [bL oM]
 rw [v,w,<-wW,<-m,j];refine zDy λc t=>?_;have E:c < g+1:=(by simpa using t);rw [uQ,jF,fN (by omega:c < a.length),fN (by omega:b < a.length),r];simp only [zEX,zBd,zCa,uQ];constructor;rintro (k |⟨k,l⟩);exact .inl oM;exact .inr ⟨by omega,l⟩;rintro (k |⟨k,l⟩);exact .inl oM;exact .inr ⟨by omega,l⟩;intro c _;simp only [zBd,zCa];rintro ⟨k,l,_⟩;omega
def uT {a c d} (e:EndOk a d) {i b} (f:i < c.length) (g:c[i]=b+1) (k:b < d):(aH a c)[i]'(by rw [bY];exact f)=a.getD b 0:=by
 have j:=e.len;unfold aH;rw [zGr,g,bL oM]
def IsSuf.row {d b} (f:IsSuf d b) {p} (g:p < d.length):∃a,∃c:a < b.length,b[a]=p:=by
 obtain ⟨a,c,e⟩:=zBo.1 (f.mem g);exact ⟨a,c,e⟩
def aDq {L k} (lv) (b:k < L.length):(aM L lv (bF L[k] lv))[gO L k L[k] lv]?=some (iF L[k] lv):=by
 unfold aM gO;have a:L=L.take k++L[k]::L.drop (k+1):=by rw [<-zAx b,zAu]
 generalize c:L[k]=s at a⊢;generalize L.take k=A at a⊢;rw [a,zEe,zEu,zBx zs,zAz,zFk,zAo zs];simp
def eW (b c lv a):aM (b++c) lv a=aM b lv a++aM c lv a:=by
 unfold aM;rw [zEe,zAz]
def mF (b c lv a):aM (b::c) lv a=if bF b lv=a then iF b lv::aM c lv a else aM c lv a:=by
 unfold aM;rw [zEu];by_cases d:bF b lv=a
 .simp [d]
 .simp [d]
def vB (a c lv b):aM a lv b=aM (a.take c) lv b++aM (a.drop c) lv b:=by
 rw [<-eW,zAu]
def aCt (a b c lv):(aM (a.take b) lv (bF c lv)).length=gO a b c lv:=by
 rw [iX];rfl
def aHd (b c a lv):aM (aT b c a) lv (bF a lv)=aT (aM b lv (bF a lv)) (gO b c a lv) (iF a lv):=by
 have d:=aCt b c a lv;unfold aT;rw [eW,mF,zBx rfl]
 conv=>rhs;rw [vB b c lv (bF a lv)]
 rw [<-d,List.take_left,zFV]
def aBD (b e c lv a) (d:bF c lv≠a):aM (aT b e c) lv a=aM b lv a:=by
 unfold aT;rw [eW,mF,zBw d,<-vB]
def aLO {a} {b c:Nat} (d:a[b]?=some c):a=a.take b++c::a.drop (b+1):=by
 obtain ⟨e,f⟩:=zAc.1 d;rw [<-f,<-zAx e,zAu]
def aHe {b c a} (lv) (f:b[c]?=some a):aM (aK b c) lv (bF a lv)=aK (aM b lv (bF a lv)) (gO b c a lv):=by
 have d:=aCt b c a lv;have e:aM b lv (bF a lv)=aM (b.take c) lv (bF a lv)++iF a lv::aM (b.drop (c+1)) lv (bF a lv):=by
  conv=>lhs;rw [aLO f]
  rw [eW,mF,zBx rfl]
 unfold aK;rw [eW,e];generalize aM (b.take c) lv (bF a lv)=A at d⊢;generalize aM (b.drop (c+1)) lv (bF a lv)=C;rw [<-d,List.take_left,zFE,zFh oM,show A.length+1 - A.length=1 by omega];rfl
def aBE {a c d} (lv b) (e:a[c]?=some d) (f:bF d lv≠b):aM (aK a c) lv b=aM a lv b:=by
 conv=>rhs;rw [aLO e]
 unfold aK;rw [eW,eW,mF,zBw f]
def aIk {α:Type} {b:List α} {a} (d:α) (e:a<=b.length):(aT b a d).take a=b.take a:=by
 unfold aT;have c:(b.take a).length=a:=by rw [zAj];omega
 rw [zEI,c,zDK,zDN,zEa,zEy,Nat.min_self]
def aNc {b} {e d c:Nat} (f:∀a∈b,a < c) (j:d < c):∀a∈aT b e d,a < c:=λa k=>by
 rcases zDf.1 ((fU b e d).mem_iff.1 k) with rfl | g;exact j;exact f a g
def rS {c} {g d:Nat} (e:∀a∈c,a < d):∀a∈aK c g,a < d:=λa f=>by
 unfold aK at f;rcases zCp.1 f with b | b;exact e a (zFy b);exact e a (zFz b)
def TC (lv a:Nat):Nat:=16+512*lv+a
def aOU {lv a c b} (e:a < 512) (f:b < 512) (d:TC lv a=TC c b):lv=c/\a=b:=by
 unfold TC at d;omega
def aN7 {lv a} (c:lv < 9) (d:a < 2 ^ lv):a < 512:=by
 have:2 ^ lv<=2 ^ 9:=zBp dC oM;have b:(2:Nat)^ 9=512:=dC;omega
def eD (own:Nat->Nat) (d c b a:Nat):Nat:=if a < d then own a else if a < c then b else 0
structure WaveS (w:World) (B:Nat) (own:Nat->Nat) (gv:Nat) (S:Nat->Value) (Ls:Nat->List Nat) (n v:Int):Prop where
 a:Bk w gv 181 (wcells S n v)
 base:B<=gv/\own gv=2
 rows:∀lv,lv < 9->∃G:Nat->Nat,w.ownsRow B 184 3 (S lv) (2 ^ lv) (eG G lv (2 ^ lv))/\(∀b,(S lv).ownBlock=some b->own b=2)/\∀p,p < 2 ^ lv->TreeE w (λb=>own b=TC lv p) (G p) (aM (Ls lv) lv p)
 q:∀b,own b≠0->B<=b/\b < w.heap.size
def WaveE (e:World) (b:Nat) (own:Nat->Nat) (c:Nat) (a:List Nat):Prop:=∃S d,WaveS e b own c S (λ_=>a) (a.length:Int) d
def WaveS.b {l w' d own g} {S:Nat->Value} {e:Nat->List Nat} {k u} (a:WaveS l d own g S e k u) (b:Vis l w'):∃c,WaveS w' d own g S e k c:=by
 obtain ⟨c,q⟩:=b.Q a.a;refine ⟨c,q,a.base,λlv r=>?_,λf j=>⟨(a.q f j).1,zAl (a.q f j).2 b.size⟩⟩;obtain ⟨m,n,o,p⟩:=a.rows lv r;exact ⟨m,b.own n dC dC,o,λt s=>(p t s).b b⟩
def WaveE.b {e w' b own d c} (a:WaveE e b own d c) (g:Vis e w'):WaveE w' b own d c:=by
 obtain ⟨S,k,a⟩:=a;obtain ⟨j,f⟩:=a.b g;exact ⟨S,j,f⟩
def WaveE.at {k d own g e} (a:WaveE k d own g e):WaveAt k d g e:=by
 obtain ⟨S,o,a⟩:=a;refine ⟨a.base.1,S,o,a.a,λlv n=>?_⟩;obtain ⟨c,l,p,f⟩:=a.rows lv n;refine ⟨c,l,λb j=>⟨?_,(f b j).at⟩⟩;have m:own (c b)=TC lv b:=(f b j).W;exact (a.q (c b) (by rw [m];unfold TC;omega)).1
def WaveS.K {f m u own y} {S:Nat->Value} {r:Nat->List Nat} {F a9 Q} (g:WaveS f u own y S r F a9) {lv p gx} (a5:lv < 9) (a7:p < 2 ^ lv) {q} (Z:f.ownsRow u 184 3 (S lv) (2 ^ lv) (eG q lv (2 ^ lv))) (L:own gx < 16) (a3:∀w,¬Bk f gx 184 w) {I} (ht:TreeE m (Gw (λa=>own a=TC lv p) f.heap.size) (q p) I) (E:Keep (λG=>own G=TC lv p∨G=y∨G=gx) f m) (D:Bk m y 181 (wcells S F Q)) {L'} (a1:aM L' lv p=I) (a2:∀c,c≠p->aM L' lv c=aM (r lv) lv c):
 WaveS m u (eD own f.heap.size m.heap.size (TC lv p)) y S (λb=>if b=lv then L' else r b) F Q:=by
 have hB:u<=f.heap.size:=zAk g.base.1 (zCm g.a.lt);have B:∀a,a < f.heap.size->eD own f.heap.size m.heap.size (TC lv p) a=own a:=λa D=>by unfold eD;rw [zBx D]
 refine ⟨D,⟨g.base.1,by rw [B _ g.a.lt];exact g.base.2⟩,λb P=>?_,λa l=>?_⟩
 .obtain ⟨o,x,J,K⟩:=g.rows b P;refine ⟨o,aC x λa w A s=>E.d s λd=>?_,λa A=>?_,λc t=>?_⟩;rcases d with d | d | d;rw [J a A] at d;unfold TC at d;omega;subst d;exact absurd (aU s g.a).1 dC;subst d;exact a3 w s;rw [B _ (x.lt a A).2];exact J a A
  .have O:(b≠lv∨c≠p)->TreeE m (λa=>eD own f.heap.size m.heap.size (TC lv p) a=TC b c) (o c) (aM (r b) b c):=λa6=>by
    have a8:=(K c t).keep E λa an w M s j d=>by rcases d with d | d | d;rw [j] at d;obtain ⟨e,n⟩:=aOU (aN7 P t) (aN7 a5 a7) d;rcases a6 with z | z;exact z e;exact z n;subst d;rw [(aU s g.a).1] at M;exact absurd M dC;subst d;rw [j] at L;unfold TC at L;omega
    have am:TreeE f (λa=>own a=TC b c) (o c) (aM (r b) b c):=K c t;refine a8.mono λa l j=>?_;have a4:a < f.heap.size:=(g.q a (by rw [j];unfold TC;omega)).2;rw [B a a4];exact j
   by_cases e:b=lv
   .subst e;rw [zBx rfl];by_cases n:c=p
    .subst n;rw [a1]
     have a0:o c=q c:=by
      have z:=x.1;have e:=(gF o b (2 ^ b) c t).1;have n:=(gF q b (2 ^ b) c t).1
      have Y:eG o b (2 ^ b)=eG q b (2 ^ b):=by
       rcases x.2 with ⟨H,T⟩|⟨ak,ag,ai,H,T,U,aa,ab,ac,V⟩;have:=zFn b;omega
       .rcases Z.2 with ⟨k,v⟩|⟨al,ah,aj,k,v,W,ad,ae,af,X⟩;have:=zFn b;omega
        .rw [H] at k;injection k with k _ _;injection k with k;injection k with k _;subst k;obtain ⟨_,rfl⟩:=aU U W;rw [<-V,<-X]
      rw [Y,n] at e;injection e with e;injection e with e;injection e with e;injection e with e _;exact e.symm
     rw [a0];refine ht.mono λa l j=>?_;rcases j with j | j;rw [B a (g.q a (by rw [j];unfold TC;omega)).2];exact j
     .unfold eD;rw [zBw oM,zBx l]
    rw [a2 c n];exact O (.inr n)
   rw [zBw e];exact O (.inl e)
 unfold eD at l;by_cases C:a < f.heap.size;rw [zBx C] at l;exact ⟨(g.q a l).1,zAl C E.size⟩;rw [zBw C] at l;by_cases v:a < m.heap.size;exact ⟨by omega,v⟩;rw [zBw v] at l;exact absurd rfl l
def aJX (S:Nat->Value) (c a b):(wcells S c b).setIfInBounds 9 (.int .i64 a)=wcells S a b:=by
 unfold wcells;rfl
def WaveS.b8 {f j own b} {S:Nat->Value} {k:Nat->List Nat} {z o} (c:WaveS f j own b S k z o) (e):WaveS (f.setCell ⟨b,9,none⟩ (.int .i64 e)) j own b S k e o:=by
 have g:Keep (λa=>a=b) f (f.setCell ⟨b,9,none⟩ (.int .i64 e)):=ka (F:=λa=>a=b) (ke _ _) (p:=⟨b,9,none⟩) (.inl rfl) _;refine ⟨by have:=c.a.set 9 (.int .i64 e);rw [aJX] at this;exact this,c.base,λlv x=>?_,λa l=>⟨(c.q a l).1,zAl (c.q a l).2 g.size⟩⟩;obtain ⟨q,u,v,w⟩:=c.rows lv x;exact ⟨q,aC u λa r _ d=>g.d d (Bk.ne d c.a dC),v,λn y=>(w n y).keep g λa A r m d _ s=>by
  have t:a=b:=s;subst t;rw [(aU d c.a).1] at m;exact absurd m dC⟩
def WaveS.m {p w' f own k} {S:Nat->Value} {g:Nat->List Nat} {n o} (b:WaveS p f own k S g n o) {H} (d:Keep H p w') (e:∀a,H a->own a≠2/\own a < 16):WaveS w' f own k S g n o:=by
 refine ⟨d.d b.a (λc=>by have:=e _ c;have:=b.base.2;omega),b.base,λlv w=>?_,λa l=>⟨(b.q a l).1,zAl (b.q a l).2 d.size⟩⟩;obtain ⟨q,s,j,t⟩:=b.rows lv w;exact ⟨q,aC s λa r u m=>d.d m (λc=>by have:=e _ c;have:=j a u;omega),j,λy x=>(t y x).keep d λa A r z m v c=>by
  have:=e a c;rw [v] at this;unfold TC at this;omega⟩
def WaveE.m {f w' c own e d} (b:WaveE f c own e d) {H} (j:Keep H f w') (g:∀a,H a->own a≠2/\own a < 16):WaveE w' c own e d:=by
 obtain ⟨S,k,b⟩:=b;exact ⟨S,k,b.m j g⟩
def WaveS.aq {c d own own' e} {S:Nat->Value} {j:Nat->List Nat} {n o} (b:WaveS c d own e S j n o) (f:∀a,a < c.heap.size->2<=own a->own' a=own a) (r:∀a,own' a≠0->d<=a/\a < c.heap.size):WaveS c d own' e S j n o:=by
 refine ⟨b.a,⟨b.base.1,by rw [f e b.a.lt (by rw [b.base.2];omega)];exact b.base.2⟩,λlv t=>?_,r⟩;obtain ⟨p,k,l,q⟩:=b.rows lv t;refine ⟨p,k,λa g=>?_,λv u=>(q v u).mono λa s m=>?_⟩;rw [f a (k.lt a g).2 (by rw [l a g];omega)];exact l a g;rw [f a s (by rw [m];unfold TC;omega)];exact m
def WaveE.aq {b c own own' f e} (d:WaveE b c own f e) (g:∀a,a < b.heap.size->2<=own a->own' a=own a) (j:∀a,own' a≠0->c<=a/\a < b.heap.size):WaveE b c own' f e:=by
 obtain ⟨S,k,d⟩:=d;exact ⟨S,k,d.aq g j⟩
def aLW (N:Nat) (c:TypeId) (b:Array Value):Value->World->Prop:=λd e=>∃a,d=.pointer (some ⟨a,0,none⟩)/\Bk e a c b/\N<=a
def aLV {d b} (N a k) (l:a≠223) (m:a≠181) (n:∀j,¬b j):aJB (VFB d b) (aLW N a k):=λ_ _ _ ⟨c,e,f,g⟩ o=>⟨c,e,o.1.d f l m (n c),g⟩
def WaveS.cells {d f own a} {S:Nat->Value} {g:Nat->List Nat} {b c} (e:WaveS d f own a S g b c):(∀i,i < 9->d.cell? ⟨a,i,none⟩=some (S i))/\d.cell? ⟨a,9,none⟩=some (.int .i64 b)/\d.cell? ⟨a,10,none⟩=some (.int .i64 c):=by
 obtain ⟨m,n,o,p,q,r,s,t,u,k,j⟩:=cK S b c;exact ⟨λi l=>(e.a.cell i).trans (vZ S b c l),(e.a.cell 9).trans k,(e.a.cell 10).trans j⟩
def aPh (f:World) (c:Nat) (own:Nat->Nat) (e:Nat) (b:List Nat) (d:Nat):Prop:=∃S a,WaveS f c own e S (λ_=>b) (b.length:Int) a/\0<=a/\a<=(d:Int)
def aF1 {S:Nat->Value} {b c d} (e:wcells S b c=wcells S b d):c=d:=by
 have a:=(cK S b c).2.2.2.2.2.2.2.2.2.2;rw [e,(cK S b d).2.2.2.2.2.2.2.2.2.2] at a;injection a with a;injection a with _ a;exact a.symm
def WaveS.bg {g c d own a} {S:Nat->Value} {e:Nat->List Nat} {b n v'} (k:WaveS g d own a S e b n) (m:Vis g c) (l:Bk c a 181 (wcells S b v')):WaveS c d own a S e b v':=by
 obtain ⟨o,f⟩:=k.b m;have j:=aF1 (aU f.a l).2;subst j;exact f
def WaveS.below {b j B own d} {S:Nat->Value} {c:Nat->List Nat} {f g} (a:WaveS b B own d S c f g) (e:Below b.heap.size b j):WaveS j B own d S c f g:=a.bg (kb e) (a.a.below e a.a.lt)
def aO7 {v d C q:Nat} (a:v<=q) (b:d<=C) (e:q<=100000) (c:C<=100000):IntKind.i64.wrap (v+d)=((v+d:Nat):Int):=by rw [wI0];omega
def aDw {ab j x:Nat} {own m} (r:Nat) {o:Nat} {l} (A:WaveE l ab own j m) (ao:o < 257) (bH:r<=m.length) (ct:∀a0∈m,a0 < 257) (bL:m.length<=895) (cs:HtB x (m.length+1)) (dy:x<=1100):
 Calls prog 160 #[j,(r:Int),(o:Int)] l λu b6=>u=.returned (.int .i64 0)/\∃b4,aPh b6 ab b4 j (aT m r o) (9*(6*x+3))/\(∀a,a < l.heap.size->b4 a=own a)/\(∀a,l.heap.size<=a->b4 a≠1)/\Keep (λa=>a=j∨16<=own a) l b6:=by
 have bi:=nG (L:=m) (k:=r) (s0:=o) bH ct ao;obtain ⟨S,b5,A⟩:=A;obtain ⟨z,aD⟩:=eqx m.length;rw [aD] at A bH bL;have bE:(aT m r o).length=z+1:=by rw [cM _ _ oM,aD]
 obtain ⟨ci,ch,c9⟩:=A.cells;have ck:=A.a.frozen 10;have cJ:=A.a.lt;have hB:ab<=l.heap.size:=zAk A.base.1 (zCm cJ);have af:=A.bg (v':=0) ((VisK.alloc (VB.N A.a A.base.1 0) (.cells #[(r:Int)] 3)).1) (by have:=(A.a.set 10 (.int .i64 0)).alloc (.cells #[(r:Int)] 3);rw [eS] at this;exact this);have cA:j≠l.heap.size:=oM;have a8:=kd (l.setCell ⟨j,10,none⟩ (.int .i64 0)) 3 #[(r:Int)];rw [show (l.setCell ⟨j,10,none⟩ (.int .i64 0)).heap.size=l.heap.size by simp [World.setCell]] at a8;have aR:Keep (λa=>a=j∨16<=own a) l ((l.setCell ⟨j,10,none⟩ (.int .i64 0)).alloc (.cells #[(r:Int)] 3)):=(ka (F:=λa=>a=j∨16<=own a) (ke _ _) (p:=⟨j,10,none⟩) (.inl (.inl rfl)) _).alloc _;obtain ⟨K,aJ⟩:=eqx ((l.setCell ⟨j,10,none⟩ (.int .i64 0)).alloc (.cells #[(r:Int)] 3));rw [aJ] at af a8 aR;obtain ⟨U,bb,ca⟩:=af.cells;have c8:∀c,(K.drewN c).cell? j=some (S 0):=λc=>U 0 oM;have a2:∀c,(K.drewN c).cell? ⟨j,1,none⟩=some (S 1):=λc=>U 1 oM;have ar:∀c,(K.drewN c).cell? ⟨j,2,none⟩=some (S 2):=λc=>U 2 oM;have cb:∀c,(K.drewN c).cell? ⟨j,3,none⟩=some (S 3):=λc=>U 3 oM;have cc:∀c,(K.drewN c).cell? ⟨j,4,none⟩=some (S 4):=λc=>U 4 oM;have cd:∀c,(K.drewN c).cell? ⟨j,5,none⟩=some (S 5):=λc=>U 5 oM;have ce:∀c,(K.drewN c).cell? ⟨j,6,none⟩=some (S 6):=λc=>U 6 oM;have cf:∀c,(K.drewN c).cell? ⟨j,7,none⟩=some (S 7):=λc=>U 7 oM;have cg:∀c,(K.drewN c).cell? ⟨j,8,none⟩=some (S 8):=λc=>U 8 oM;have bc:K.cell? ⟨j,9,none⟩=some (.int .i64 z):=bb;have bd:K.cell? l.heap.size=some (.int .i64 r):=(a8.cell 0).trans rfl;have cD:decide ((r:Int) < 0)=false:=zs
 have dK:¬z < r:=oM;have dL:¬((r:Int) > z):=oM;have bn:=af.a.lt;have aK:=a8.lt;obtain ⟨c0,aF,c3,b8⟩:=hqq4 bi aD bE aJ;have db:=A.base;have bv:=A.q;clear A bi aD bE aJ ci U bb ca;go_enter func160,ntmps160;go_wp2_with fail;rw [b8.out];clear c9 ck ch;refine (fW (s:=o) _ ao).mono ?_;rintro u w1 ⟨rfl,a5⟩;have a3:w1.cell? ⟨j,9,none⟩=some (.int .i64 z):=(a5.cell (p:=⟨j,9,none⟩) bn).trans bc;have be:w1.cell? l.heap.size=some (.int .i64 r):=(a5.cell (p:=l.heap.size) aK).trans bd;have O:=af.below a5;have bA:=a8.below a5 aK;have cE:Keep (λa=>a=j∨16<=own a) l w1:=aR.trans (kF a5);have di:∀c,(w1.drewN c).cell? j=some (S 0):=λc=>O.cells.1 0 oM;have cj:∀c,(w1.drewN c).cell? ⟨j,1,none⟩=some (S 1):=λc=>O.cells.1 1 oM;have dj:∀c,(w1.drewN c).cell? ⟨j,2,none⟩=some (S 2):=λc=>O.cells.1 2 oM;have dk:∀c,(w1.drewN c).cell? ⟨j,3,none⟩=some (S 3):=λc=>O.cells.1 3 oM;have dl:∀c,(w1.drewN c).cell? ⟨j,4,none⟩=some (S 4):=λc=>O.cells.1 4 oM;have ds:∀c,(w1.drewN c).cell? ⟨j,5,none⟩=some (S 5):=λc=>O.cells.1 5 oM;have dt:∀c,(w1.drewN c).cell? ⟨j,6,none⟩=some (S 6):=λc=>O.cells.1 6 oM;have du:∀c,(w1.drewN c).cell? ⟨j,7,none⟩=some (S 7):=λc=>O.cells.1 7 oM;have dv:∀c,(w1.drewN c).cell? ⟨j,8,none⟩=some (S 8):=λc=>O.cells.1 8 oM;have dI:=O.a.lt;have dD:=bA.lt;have dg:∀c,(w1.drewN c).cell? ⟨j,9,none⟩=some (.int .i64 z):=λc=>a3;have dh:∀c,(w1.drewN c).cell? l.heap.size=some (.int .i64 r):=λc=>be;clear a5 af a8 aR c8 a2 ar cb cc cd ce cf cg bc bd bn aK b8;go_wp2_with fail;go_quiet (fail);clear a3 be cD;go_wp2_with fail;go_loopw [35] (λi wr=>∃(lv:Nat) (E:Nat->Nat) (Q:Nat),lv<=9/\i=.int .i64 lv/\WaveS wr ab E j S (λP=>if P < lv then aT m r o else m) (z:Int) (Q:Int)/\Bk wr l.heap.size 3 #[.int .i64 (gO m r o lv:Nat)]/\(∀a,a < l.heap.size->E a=own a)/\(∀a,l.heap.size<=a->E a≠1)/\E l.heap.size=0/\Keep (λa=>a=j∨16<=own a) l wr/\Q<=lv*(6*x+3)) (λi _=>9 -(intOf i).toNat)
 case atStart=>refine ⟨0,own,0,by omega,rfl,?_,?_,λ_ _=>rfl,λa Y u=>?_,?_,?_,by omega⟩;have aw:=λc=>O.below (km (kg w1.heap.size w1) c);simpa using aw _;rw [c0.out];exact bA.drewN _;have:=(bv a oM).2;omega;rcases zBa (own l.heap.size) with u | u;exact u;have:=(bv l.heap.size oM).2;omega;exact cE.drewN _
 case round=>
  obtain ⟨lv,E,Q,dM,rfl,W,ak,aS,bM,aV,az,bQ⟩:=hrel;by_cases a9:lv < 9
  .have cB:=ix9 (lv:=lv) S a9;obtain ⟨J,an,cL,b0⟩:=W.rows lv a9;obtain ⟨aq,aA⟩:=eqx (2 ^ lv);obtain ⟨e,Z⟩:=eqx (bF o lv);have aW:e < aq:=(by rw [<-aA,<-Z];exact nY (s:=o) lv ao oM);have cN:e < 2 ^ lv:=(by rw [aA];exact aW);have cr:=an;rw [aA] at an b0;obtain ⟨a4,ad,bm,dN,dH⟩:=kj an oM;rw [bm] at cB an;obtain ⟨a0,ap⟩:=eqx (gO m r o lv);obtain ⟨I,aa⟩:=eqx (gO m r o (lv+1));obtain ⟨a,ax⟩:=eqx (iF o lv);have b2:=nH (lv:=lv) m r o a9;have b1:=aId m r o lv;have bq:=aHd m r o lv;have bu:=aBD m r o lv;have bt:(aM m lv (bF o lv)).length<=895:=(by rw [iX];exact zAk zBh (by rw [aF.out];exact bL));rw [Z,ap,ax,aa] at b2;rw [Z,ap] at b1;rw [Z,ap,ax] at bq;rw [Z] at bt bu;rw [ap] at ak;have bP:TreeE wr (λa=>E a=TC lv e) (J e) (aM m lv e):=(by have:=b0 e aW;rw [zBw oM] at this;exact this);have dO:(e:Int) < aq:=oM;obtain ⟨c6,ac,c4,c2,c7,aG,ba⟩:=hqq7 b2 b1 Z ax aa aS aV;clear b0 bm aA Z ap aa ax b2 b1 aS aV cL;go_wp2_with fail;refine wp_region_any kR<|cC (pre:=(λ_=>True)) (pJ:=(is (.bool a))) wr.heap.size 11 [39,40,41,42,43,44,45,46,47,9,10] (λ_=>False) 8 [] [is (.slice (some a4) aq ad),is (o:Int),is (lv:Int),is (e:Int),is (.pointer (some ⟨a4,e*3,none⟩)),is (.agg #[.pointer (some ⟨J e,0,none⟩),(lv:Int),(e:Int)]),is (o:Int),is (lv:Int),cO,aLW wr.heap.size 184 #[.pointer none,o0,o0],aLW wr.heap.size 4 #[false]] _ rfl dC kR kR kR (trivial) (λ_ _ _ _ _=>trivial) (jN _ _) (by repeat' (first | exact jN _ _ | exact lE _ | exact aLV _ _ _ dC dC (λ_ g=>g)|(refine zAe.2 ⟨?_,?_⟩)|(intro e Z;cases Z))) ?_ ?_
   .refine bB<|pH3 8 (.slice (some a4) aq ad)<|pH3 2 (.int .i64 o)<|pH3 7 (.int .i64 lv)<|sC3 (λ_ G _ _ _ _ _ D _ _ _ B=>?_) ?_
    .have dm:_=_:=D 1 40 kR rfl;have dn:_=_:=D 2 41 kR rfl;go_simp;refine (mI (s:=o) lv G ao oM).mono ?_;rintro u d0 ⟨rfl,aN⟩;rw [c4.out];exact B _ _ (aI (kc aN)) rfl
    refine pW3 0 39 3 42<|sC3 (λ_ G y _ _ _ _ D _ _ _ B=>?_) ?_
    .replace y:VFB wr.heap.size (λ_=>False) wr G:=fD y;have dp:_=_:=D 4 43 kR rfl;have cQ:=y.1.ak (λ_ _ g=>g);have aX:=cQ.own an dC dC;obtain ⟨cW,cX,cY⟩:=gF J lv aq e aW;have dc:G.cell? ⟨a4,e*3,none⟩=_:=(kh aX (e*3) oM).trans cW;have dd:G.cell? ⟨a4,e*3+1,none⟩=_:=(kh aX (e*3+1) oM).trans cX;have de:G.cell? ⟨a4,e*3+2,none⟩=_:=(kh aX (e*3+2) oM).trans cY;go_simp;exact B _ _ (aI vR) rfl
    refine pH3 2 (.int .i64 o)<|pH3 7 (.int .i64 lv)<|sC3 (λ_ G _ _ _ _ _ D _ _ _ B=>?_) ?_
    .have dq:_=_:=D 6 45 kR rfl;have dr:_=_:=D 7 46 kR rfl;go_simp;refine (oQ (s:=o) (lv:=lv) G ao oM).mono ?_;rintro u d0 ⟨rfl,aN⟩;rw [c2.out];exact B _ _ (aI (kc aN)) rfl
    refine sC3 (λ_ G y _ _ _ _ _ _ _ _ B=>?_) ?_
    .replace y:VFB wr.heap.size (λ_=>False) wr G:=fD y;go_simp;exact B _ _ (aI (kc (bR.alloc nL _))) ⟨_,rfl,kd _ _ _,y.1.size⟩
    refine sC3 (λ_ G y _ _ _ _ _ _ _ _ B=>?_) ?_
    .replace y:VFB wr.heap.size (λ_=>False) wr G:=fD y;go_simp;exact B _ _ (aI (kc (bR.alloc nL _))) ⟨_,rfl,kd _ _ _,y.1.size⟩
    exact aB
   .intro au T g y D bo;replace y:VFB wr.heap.size (λ_=>False) wr T:=fD y;have bf:au (.tmp 44)=.agg #[.pointer (some ⟨J e,0,none⟩),(lv:Int),(e:Int)]:=D 5 44 dC rfl;have bg:au (.tmp 47)=.bool a:=D 8 47 dC rfl;have cV:(aLW wr.heap.size 184 #[.pointer none,o0,o0]) (au (.tmp 9)) T:=D 9 9 dC rfl;have cU:(aLW wr.heap.size 4 #[false]) (au (.tmp 10)) T:=D 10 10 dC rfl;obtain ⟨cZ,bX⟩:=bo 8 dC;have bW:(is (.bool a)) cZ T:=bX;clear bX bo;simp only [zqq];rw [bf];rw [bg];clear D;obtain ⟨t,bZ,V,ay⟩:=cV;obtain ⟨X,bY,a6,bz⟩:=cU;rw [bZ,bY];have bS:Below wr.heap.size wr T:=y.2.e nL (λa Y g=>by rcases g with g | g;exact g;omega);have d8:T.cell? t=some (.pointer none):=(V.cell 0).trans rfl;have d9:T.cell? ⟨t,1,none⟩=some (.int .i64 0):=(V.cell 1).trans rfl;have da:T.cell? ⟨t,2,none⟩=some (.int .i64 0):=(V.cell 2).trans rfl;have cm:=V.frozen 0;have cn:=V.frozen 1;have co:=V.frozen 2;have b7:T.cell? X=some (.bool false):=(a6.cell 0).trans rfl;have cl:=a6.frozen 0;have aC:t≠X:=Bk.ne V a6 dC;have a9:=V.lt;have cH:=a6.lt;clear y bW bf bg bZ bY;change wpAny prog Region.Mode.any _ _ (2+g) (bT 11 13) _ T;rw [show 2+g=g+1+1 by omega];refine aY (f:=g+1) (i:=11) kR ?_;refine bJ rfl rfl ?_;generalize B:wpAny prog _ _ _ (g+1) _=K5;go_simp;subst B;refine aY (f:=g) (i:=12) kR ?_;refine bJ rfl rfl ?_;generalize B:wpAny prog _ _ _ g _=K5;go_simp;subst B;refine bG kR ?_;obtain ⟨M,ah⟩:=eqx (((((T.setCell t (.pointer (some ⟨J e,0,none⟩))).setCell ⟨t,1,none⟩ (.int .i64 lv)).setCell ⟨t,2,none⟩ (.int .i64 e)).setCell X (.bool a)));have ai:Bk M t 184 #[.pointer (some ⟨J e,0,none⟩),(lv:Int),(e:Int)]:=(by rw [<-ah];exact (((V.set 0 _).set 1 _).set 2 _).m (p:=X) aC _);have bp:Bk M X 4 #[.bool a]:=(by rw [<-ah];exact (((a6.m (p:=t) (λu=>aC u.symm) _).m (p:=⟨t,1,none⟩) (λu=>aC u.symm) _).m (p:=⟨t,2,none⟩) (λu=>aC u.symm) _).set 0 _);have bI:Keep (λ_=>False) wr M:=(by rw [<-ah];exact ka (F:=λ_=>False) (ka (F:=λ_=>False) (ka (F:=λ_=>False) (ka (F:=λ_=>False) (kF bS) (p:=t) (.inr ay) _) (p:=⟨t,1,none⟩) (.inr ay) _) (p:=⟨t,2,none⟩) (.inr ay) _) (p:=X) (.inr bz) _);rw [ah];have a7:Below wr.heap.size wr M:=bI.e nL (λ_ _ g=>g);clear bI ah d8 d9 da cm cn co b7 cl V a6 bS a9 cH;have av:=W.below a7;have bC:=ak.below a7 ak.lt;have cR:=bP.below a7;have bD:=W.base.2;have cv:=W.q;have dQ:=a7.size;have dG:=ak.lt;have d1:M.cell? t=some (.pointer (some ⟨J e,0,none⟩)):=(ai.cell 0).trans rfl;have d2:M.cell? ⟨t,1,none⟩=some (.int .i64 lv):=(ai.cell 1).trans rfl;have d3:M.cell? ⟨t,2,none⟩=some (.int .i64 e):=(ai.cell 2).trans rfl;have dA:=ai.lt;have cK:∀(bh:Fn) (first ad:Array Value) (l:World),(Instr.makeFunc bh first ad).run prog l=.ok (.func bh first ad) l:=λ_ _ _ _=>rfl;have b9:=lhd bD;clear bD;go_wp2_with fail;have bl:HtB x ((aM m lv e).length+1):=cs.mono (by rw [aF.out];have:=iX m lv e;have cp:(m.countP λo=>bF o lv==e)<=m.length:=zBh;rw [aF.out] at cp;omega);refine (aNC (gv:=j) (gt:=(J e)) (H:=x) (gk:=l.heap.size) (gb:=X) (S:=S) (n:=z) (v:=Q) (F:=(λa=>E a=TC lv e)) (bs:=(aM m lv e)) (k:=a0) (b:=a) (w:=M) lv e av.a cR (λg=>by rw [b9.out] at g;unfold TC at g;omega) (λI aa=>(av.q I (by rw [aa];unfold TC;omega)).2) bC bp bt ac (bl.mono (zDT _))).mono ?_;rintro u a1 ⟨rfl,aZ,am,ae,cx,br⟩;have bw:=av.K (lv:=lv) (p:=e) (gx:=j) a9 cN (aP cr a7) (by rw [b9.out];omega) (λdf cw=>absurd (aU cw av.a).1 dC) aZ (am.mono λI _ g=>by rcases g with g | g;exact .inl g;exact .inr (.inl g)) br (L':=aT m r o) bq (λc cP=>by rw [zBw (zCl _)];exact bu c (λu=>cP u.symm));have bx:(λP=>if P=lv then aT m r o else if P < lv then aT m r o else m)=λP=>if P < lv+1 then aT m r o else m:=by
     funext P;by_cases a2:P=lv
     .rw [zBx a2,zBx oM]
     .by_cases ar:P < lv
      .rw [zBw a2,zBx ar,zBx oM]
      .rw [zBw a2,zBw ar,zBw oM]
    rw [bx] at bw;have b3:∀I,wr.heap.size<=I->¬(E I=TC lv e∨I=j):=λI aa g=>by rcases g with g | g;have:=(cv I (by rw [g];unfold TC;omega)).2;omega;have:=W.a.lt;omega
    have aQ:=am.d bC (λg=>by
     rcases g with g | g;rw [ba.out] at g;unfold TC at g;omega
     .exact cA g.symm)
    have aj:=am.d ai (b3 t ay);have aL:=am.d bp (b3 X bz);have b7:a1.cell? t=some (.pointer (some ⟨J e,0,none⟩)):=(aj.cell 0).trans rfl;have d4:a1.cell? ⟨t,1,none⟩=some (.int .i64 lv):=(aj.cell 1).trans rfl;have d5:a1.cell? ⟨t,2,none⟩=some (.int .i64 e):=(aj.cell 2).trans rfl;have d7:a1.cell? l.heap.size=some (.int .i64 a0):=(aQ.cell 0).trans rfl;have d6:a1.cell? X=some (.bool a):=(aL.cell 0).trans rfl;have dB:=aj.lt;have dz:=aL.lt;have dE:=aQ.lt;have cS:=aZ.at
    have bj:E (J e)=TC lv e:=bP.W;have c1:=lhd bj;have cT:a0<=(aT (aM m lv e) a0 a).length:=(by rw [cM _ _ ac];have:=ac.out;omega);clear aZ bx b3 aj aL d1 d2 d3 cK bj;go_wp2_with fail;refine (aFi (gv:=j) (gt:=(J e)) (H:=x) (S:=S) (n:=z) (bs:=(aT (aM m lv e) a0 a)) (k:=a0) (w:=a1) lv e a br cS cT (bl.mono (by rw [cM _ _ ac];exact zAs _))).mono ?_;rintro u aH ⟨rfl,aE,a3,cy,aO⟩;rw [aIk _ ac,c6.out];have cI:lv*(6*x+3)<=8*(6*x+3):=zEk _ oM;have bO:(lv+1)*(6*x+3)=lv*(6*x+3)+(6*x+3):=Nat.succ_mul _ _;have bU:=aO7 (v:=Q) (d:=ae) bQ cx oM oM;have bV:=aO7 (v:=Q+ae) (d:=a3) (q:=Q+ae) (C:=x+1) nL cy oM oM;rw [bU,bV] at aO;have aw:=bw.bg aE.1 aO;have c5:=(show Q+ae+a3<=(lv+1)*(6*x+3) by rw [bO];omega);clear bU bV aO cI bO;have al:=aE.1.d aQ dC dC;have dS:aH.cell? l.heap.size=some (.int .i64 a0):=(al.cell 0).trans rfl;have dx:=al.frozen 0;have dF:=al.lt;have cz:=al.set 0 (.int .i64 I);have bN:eD E M.heap.size a1.heap.size (TC lv e) l.heap.size=0:=(by unfold eD;rw [zBx oM];exact ba);have cq:=aw.m (w':=aH.setCell l.heap.size (.int .i64 I)) (H:=λa=>a=l.heap.size) (ka (F:=λa=>a=l.heap.size) (ke _ _) (p:=l.heap.size) (.inl rfl) _) (λa u=>by rw [show a=l.heap.size from u,bN];omega);have dP:=az.size;have cF:Keep (λa=>a=j∨16<=own a) l (aH.setCell l.heap.size (.int .i64 I)):=ka (F:=λa=>a=j∨16<=own a) (((az.trans (kF a7)).trans' am (λa Y g=>by
     rcases g with g | g;right;rw [<-aG a Y,g];unfold TC;omega
     .exact .inl g)).trans' aE.2 (λa Y g=>by
     rcases g with g | g;exact .inl g
     .right;rw [<-aG a Y,g,c1.out];unfold TC;omega)) (p:=l.heap.size) (.inr nL) _
    clear aE aw al b7 d4 d5 d7 d6;go_wp2_with fail;go_roundw
    case rel=>
     refine ⟨lv+1,eD E M.heap.size a1.heap.size (TC lv e),Q+ae+a3,by omega,by go_num,cq,?_,λa Y=>?_,λa Y=>?_,bN,cF,c5⟩;rw [c7.out];exact cz;unfold eD;rw [zBx oM];exact aG a Y
     .unfold eD;by_cases a2:a < M.heap.size;rw [zBx a2];exact bM a Y
      .rw [zBw a2];unfold TC;split <;> omega
    case measure=>exact zr
  .obtain rfl:lv=9:=oM;have ag:WaveS wr ab E j S (λ_=>aT m r o) (z:Int) Q:=⟨W.a,W.base,λP bK=>by have:=W.rows P bK;simpa [bK] using this,W.q⟩;obtain ⟨_,dR,_⟩:=ag.cells;have dw:=ag.a.frozen 9;have dJ:=ag.a.lt;have cu:=ag.b8 ((z:Int)+1);have cj:wrap64 (z+1)=(z:Int)+1:=(by unfold wrap64;omega);have cG:Keep (λa=>a=j∨16<=own a) l (wr.setCell ⟨j,9,none⟩ (.int .i64 ((z:Int)+1))):=ka (F:=λa=>a=j∨16<=own a) az (p:=⟨j,9,none⟩) (.inl (.inl rfl)) _;clear W ag az ak aV;go_wp2_with fail;go_ret;refine ⟨rfl,E,⟨S,Q,?_,Int.natCast_nonneg _,Int.ofNat_le.2 bQ⟩,aS,bM,cG⟩;rw [c3.out];exact cu
def aAS {k e:Nat} {own b} {f g:Nat} {d} (m:WaveE d k own e b) (t:g < 257) (r:f<=b.length) (q:∀v∈b,v < 257) (s:b.length<=895):
 Calls prog 160 #[e,(f:Int),(g:Int)] d λl j=>l=.returned (.int .i64 0)/\∃c,WaveE j k c e (aT b f g)/\(∀a,a < d.heap.size->c a=own a)/\(∀a,d.heap.size<=a->c a≠1)/\Keep (λa=>a=e∨16<=own a) d j:=by
 refine (aDw f m t r q s (aH2 oM) nL).mono ?_;rintro l j ⟨n,c,⟨S,u,o,_⟩,p⟩;exact ⟨n,c,⟨S,u,o⟩,p⟩
section
def inR (a b:Nat):Nat:=if b<=a then a+1 else a
def bN (a b:Nat):Nat:=if b < a then a - 1 else a
abbrev ro (R:List Nat) (a:Nat):Nat:=R.idxOf a
def cE {R a} (b:a∈R):R[ro R a]?=some a:=zAc.2 ⟨zDk.2 b,zFl _⟩
def gR {R} (e:R.Nodup) {a b} (d:R[a]?=some b):ro R b=a:=by
 obtain ⟨f,c⟩:=zAc.1 d;subst c;exact e.idxOf_getElem a f
def fL {R b c} (e:b∈R) (f:c∈R) (d:ro R b=ro R c):b=c:=by
 have a:=cE e;rw [d,cE f] at a;injection a with a;exact a.symm
def zD {R} (n:R.Nodup) {a t d} (g:R[a]?=some d) (ht:t < R.length):
 (aT (aK R a) t d).Perm R/\ro (aT (aK R a) t d) d=t/\∀c∈R,c≠d->ro (aT (aK R a) t d) c=inR (bN (ro R c) a) t:=by
 have f:=(zAc.1 g).1;have q:=cJ f;have l:(aT (aK R a) t d).Perm R:=(fU _ _ _).trans (fH g);have k:(aT (aK R a) t d).Nodup:=l.nodup_iff.2 n;refine ⟨l,?_,λc o p=>?_⟩
 .refine gR k ?_;rw [jX _ _ oM,zBw oM,zBx rfl]
 .have b:=cE o;have s:ro R c≠a:=λm=>by rw [m,g] at b;injection b with b;exact p b.symm
  refine gR k ?_;have r:=(zAc.1 b).1;rw [jX _ _ oM];unfold inR bN;by_cases j:a < ro R c;rw [zBx j];by_cases e:t<=ro R c - 1;rw [zBx e,zBw oM,zBw oM,eQ f,zBw oM];rw [<-b];congr 1;omega;rw [zBw e,zBx oM,eQ f,zBw oM,<-b];congr 1;omega
  .rw [zBw j];by_cases e:t<=ro R c
   .rw [zBx e,zBw oM,zBw oM,eQ f,zBx oM,<-b];congr 1
   .rw [zBw e,zBx oM,eQ f,zBx oM,<-b]
def wP (S R:List Nat) (a b:Nat):Prop:=S.getD a 0 < S.getD b 0∨(S.getD a 0=S.getD b 0/\ro R (a+1) < ro R (b+1))
structure Near (S R:List Nat) (N i:Nat):Prop where
 ba:EndOk S N
 perm:R.Perm (List.range (N+1))
 a9:∀p q,p<=N->q<=N->ro R p < ro R q->S.getD p 0<=S.getD q 0
 cons:∀p q,p<=N->q<=N->p≠q->p+1≠i->q+1≠i->(ro R p < ro R q↔wP S R p q)
section
variable {S R : List Nat} {N i : Nat}
def Near.nodup (a:Near S R N i):R.Nodup:=a.perm.nodup_iff.2 zDl
def Near.mem (b:Near S R N i) {a}:a∈R↔a<=N:=by
 rw [b.perm.mem_iff,zCj];omega
def Near.len (a:Near S R N i):R.length=N+1:=by simpa using a.perm.length_eq
def aEQ {S a b} (k:a < S.length) (l:b < S.length) (j:S.getD a 0=S.getD b 0) (e:sufLt S (a+1) (b+1)):sufLt S a b:=by
 obtain ⟨m,d,n,f,g⟩:=e;refine ⟨m+1,d+1,by omega,λc o=>?_,?_⟩
 .cases c with
  | zero=>
   rw [zBq,zBq,fN k,fN l,j]
  | succ c=>
   have:=f c oM;rw [show a+(c+1)=a+1+c by omega,show b+(c+1)=b+1+c by omega];exact this
 rw [show a+(d+1)=a+1+d by omega,show b+(d+1)=b+1+d by omega];exact g
def aHX {S a b} (c:a < S.length) (d:b < S.length) (e:S.getD a 0 < S.getD b 0):sufLt S a b:=by
 refine ⟨1,0,by omega,λg f=>by omega,?_⟩;rw [zBq,zBq,fN c,fN d];omega
def Near.B (c:Near S R N 0):IsSuf S R:=by
 obtain ⟨r,C,k⟩:=c.ba;have B:∀e a b,N < a+e->a<=N->b<=N->a≠b->ro R a < ro R b->sufLt S a b:=by
  intro e
  induction e with
  | zero=>intro a b u o;omega
  | succ e A=>
   intro a b u o z y v;rcases (c.cons a b o z y oM oM).1 v with j |⟨j,s⟩;exact aHX oM oM j
   .have D:a≠N:=λd=>by subst d;have:=k b oM;omega
    have E:b≠N:=λd=>by subst d;have:=k a oM;omega
    exact aEQ oM oM j (A (a+1) (b+1) oM oM oM oM s)
 refine ⟨by rw [r];exact c.perm,?_⟩;rw [zAr];intro f g l m t;have n:=c.nodup;have w:R[f]<=N:=c.mem.1 (zBj l);have x:R[g]<=N:=c.mem.1 (zBj m);have p:ro R R[f]=f:=gR n (zAa l);have q:ro R R[g]=g:=gR n (zAa m);exact B (N+1) _ _ oM w x (λd=>by rw [d,q] at p;omega) (by rw [p,q];exact t)
def IsSuf.P (p:IsSuf S R) (y:EndOk S N):Near S R N 0:=by
 obtain ⟨t,w,m⟩:=y;have B:R.Perm (List.range (N+1)):=by rw [<-t];exact p.perm
 have G:=p.nodup;have n:∀a,a<=N->a∈R:=λa c=>p.mem oM;have q:∀a b,a<=N->b<=N->ro R a < ro R b->sufLt S a b:=λa b c e j=>by have C:=(zAc.1 (cE (n a c)));have E:=(zAc.1 (cE (n b e)));obtain ⟨d,f⟩:=C;obtain ⟨l,x⟩:=E;have:=zAr.1 p.B _ _ d l j;rwa [f,x] at this
 have s:∀a b,a<=N->b<=N->sufLt S a b->ro R a < ro R b:=λa b c e j=>by rcases zDD (ro R a) (ro R b) with d | d | d;exact d;have:=fL (n a c) (n b e) d;subst this;exact (j.asymm j).elim;exact (j.asymm (q b a e c d)).elim
 have u:∀a b,a<=N->b<=N->sufLt S a b->S.getD a 0<=S.getD b 0:=λa b c e ⟨F,g,d,f,l⟩=>by
  cases g with
  | zero=>
   rw [zBq,zBq,fN oM,fN oM] at l;omega
  | succ g=>
   have:=f 0 oM;rw [zBq,zBq,fN oM,fN oM] at this;omega
 have v:∀a b,a<=N->b<=N->a≠b->S.getD a 0=S.getD b 0->(sufLt S a b↔sufLt S (a+1) (b+1)):=λa b c e r z=>by
  constructor
  .rintro ⟨F,g,d,f,l⟩;cases g with
   | zero=>
    rw [zBq,zBq,fN oM,fN oM] at l;omega
   | succ g=>
    refine ⟨g+1,g,by omega,λo n=>?_,?_⟩;have:=f (o+1) oM;rw [show a+1+o=a+(o+1) by omega,show b+1+o=b+(o+1) by omega];exact this;rw [show a+1+g=a+(g+1) by omega,show b+1+g=b+(g+1) by omega];exact l
  exact aEQ oM oM z
 refine ⟨⟨t,w,m⟩,B,λa b c e j=>u a b c e (q a b c e j),λa b c e r _ _=>?_⟩;unfold wP;constructor
 .intro j;have d:=q a b c e j;rcases Nat.lt_or_eq_of_le (u a b c e d) with f | f;exact .inl f
  .refine .inr ⟨f,?_⟩;have A:a≠N:=λk=>by subst k;have:=m b oM;omega
   have D:b≠N:=λk=>by subst k;have:=m a oM;omega
   exact s _ _ oM oM ((v a b c e r f).1 d)
 .rintro (d |⟨d,f⟩);exact s a b c e (aHX oM oM d)
  .have A:a≠N:=λk=>by subst k;have:=m b oM;omega
   have D:b≠N:=λk=>by subst k;have:=m a oM;omega
   exact s a b c e ((v a b c e r d).2 (q _ _ oM oM f))
def aDc (S R:List Nat) (N b c:Nat):Nat:=(List.range (N+1)).countP λa=>decide (S.getD a 0 < b∨(S.getD a 0=b/\ro R (a+1) < c))
def aB2 {R:List Nat} (j:R.Nodup) (b:Nat) (c:Nat->Bool):(R.take b).countP c=R.countP λa=>c a&&decide (ro R a < b):=by
 have k:R.countP (λa=>c a&&decide (ro R a < b))=(R.take b).countP (λa=>c a&&decide (ro R a < b))+(R.drop b).countP (λa=>c a&&decide (ro R a < b)):=by rw [<-zFj,zAu]
 have l:(R.drop b).countP (λa=>c a&&decide (ro R a < b))=0:=by rw [zDU];intro a e;obtain ⟨f,g,d⟩:=zBo.1 e;rw [zED] at d;have:ro R a=b+f:=gR j (by rw [<-d];exact zAa _);simp;omega
 have m:(R.take b).countP (λa=>c a&&decide (ro R a < b))=(R.take b).countP c:=by refine zDy λa e=>?_;obtain ⟨f,g,d⟩:=zBo.1 e;rw [zAj] at g;rw [zEC] at d;have:ro R a=f:=gR j (by rw [<-d];exact zAa _);have n:ro R a < b:=oM;simp [n]
 rw [k,l,m];rfl
def aDk {b:List Nat} {c d:Nat->Bool} (e:∀a∈b,¬(c a=true/\d a=true)):b.countP c+b.countP d=b.countP λa=>c a||d a:=by
 induction b with
 | nil=>rfl
 | cons a b g=>
  have m:=e a zs;rw [zBn,zBn,zBn,<-g λj f=>e j (by simp [f])];cases k:c a <;> cases l:d a <;> simp_all <;> omega
def uM (n:EndOk S N) (c:R.Perm (List.range (N+1))) {a} (r:0 < a) (d):cR (aH S R) a d=aDc S R N a d:=by
 obtain ⟨e,f,q⟩:=n;have o:R.Nodup:=c.nodup_iff.2 zDl;unfold cR aDc;have g:(aH S R).countP (λp=>decide (p < a))=(List.range (N+1)).countP λb=>decide (S.getD b 0 < a):=by
  unfold aH;rw [zEr,c.countP_eq];refine iE _ _ ?_ λb c=>?_;simp only [Function.comp];rw [bV oM,e];rfl
  .simp only [Function.comp];rw [bL oM]
 have j:((aH S R).take d).count a=(List.range (N+1)).countP λb=>decide (S.getD b 0=a)&&decide (ro R (b+1) < d):=by
  unfold aH;rw [<-zDw,zEU,zEr,aB2 o,c.countP_eq];refine iE _ _ ?_ λb c=>?_
  .simp only [Function.comp];rw [bV oM,e];have:(N+1 - 1)=N:=oM;rw [this,f];have m:¬(0:Nat)=a:=oM;simp [m]
  simp only [Function.comp];rw [bL oM];rfl
 rw [g,j,aDk]
 .refine zDy λb _=>?_;simp
 intro b _ ⟨k,l⟩;simp at k l;omega
def aC2 {K:Nat->Bool}:∀ {d:List Nat},d.Pairwise (λa o=>K o=true->K a=true)->∀(c a:Nat),d[c]?=some a->(K a=true↔c < d.countP K)
 | [],_,c,a,b=>by simp at b
 | g::d,hO,c,a,b=>by
  obtain ⟨k,l⟩:=zEf.1 hO;cases e:K g with
  | true=>
   rw [List.countP_cons_of_pos e];cases c with
   | zero=>
    injection b with b;subst b;simp [e]
   | succ c=>
    rw [aC2 l c a b];omega
  | false=>
   have j:(g::d).countP K=0:=by
    rw [zDU];intro p f;rcases zDf.1 f with rfl | f
    .simp [e]
    .intro m;have:=k p f m;rw [e] at this;cases this
   rw [j];have n:a∈g::d:=zAd b;have:=(zDU.1 j) a n;simp [this]
def KB (S R:List Nat) (i a:Nat):Bool:=decide (S.getD a 0 < S.getD i 0∨(S.getD a 0=S.getD i 0/\ro R (a+1) < ro R (i+1)))
def aM9 (a:Near S R N (i+1)) (u:i<=N):∀b,b<=N->b≠i->(KB S R i b=true↔bN (ro R b) (ro R i) < aDc S R N (S.getD i 0) (ro R (i+1))):=by
 intro b z I;have m:=a.nodup;have s:=cE (a.mem.2 u);have t:=cE (a.mem.2 z);have v:=(zAc.1 s).1;have e:=fH s;have U:(aK R (ro R i)).Nodup:=(zDe.1 (e.nodup_iff.2 m)).2;have V:ro R b≠ro R i:=λc=>I (fL (a.mem.2 z) (a.mem.2 u) c);have D:(aK R (ro R i))[bN (ro R b) (ro R i)]?=some b:=by
  unfold bN;rw [eQ v];by_cases r:ro R i < ro R b;rw [zBx r,zBw oM,<-t];congr 1;omega
  .rw [zBw r,zBx oM,<-t]
 have F:aDc S R N (S.getD i 0) (ro R (i+1))=(aK R (ro R i)).countP (KB S R i):=by
  unfold aDc;rw [<-a.perm.countP_eq,<-e.countP_eq,zBn];have B:decide (S.getD i 0 < S.getD i 0∨(S.getD i 0=S.getD i 0/\ro R (i+1) < ro R (i+1)))=false:=by rw [decide_eq_false_iff_not];omega
  rw [B];rfl
 rw [F];refine aC2 ?_ _ _ D;rw [zAr];intro n o C E T p;have j:(aK R (ro R i))[n]?=some (aK R (ro R i))[n]:=zAa C;have k:(aK R (ro R i))[o]?=some (aK R (ro R i))[o]:=zAa E;obtain ⟨f,J⟩:=eqx ((aK R (ro R i))[n]);obtain ⟨g,O⟩:=eqx ((aK R (ro R i))[o]);rw [J] at j⊢;rw [O] at k p;have y:=(zDe.1 (e.nodup_iff.2 m)).1;have w:=zAd j;have x:=zAd k;have W:f≠i:=λc=>y (by rw [c] at w;exact w);have X:g≠i:=λc=>y (by rw [c] at x;exact x);have L:f∈R:=e.subset (by simp [zAd j]);have Q:g∈R:=e.subset (by simp [zAd k]);have K:=a.mem.1 L;have P:=a.mem.1 Q;have A:∀ {d q:Nat},(aK R (ro R i))[d]?=some q->ro R q=if d < ro R i then d else d+1:=λ{d q} l=>by rw [eQ v] at l;split at l;rw [zBx (by assumption)];exact gR m l;rw [zBw (by assumption)];exact gR m l
 have H:ro R f < ro R g:=by rw [A j,A k];split <;> split <;> omega
 have M:f≠g:=λc=>by subst c;omega
 have G:=(a.cons f g K P M oM oM).1 H;unfold KB at p⊢;rw [zCa] at p⊢;unfold wP at G;omega
def tgt (S R:List Nat) (i:Nat):Nat:=cR (aH S R) (S.getD i 0) (ro R (i+1))
def aJ7 (a:Near S R N (i+1)) (b:i < N):tgt S R i=aDc S R N (S.getD i 0) (ro R (i+1)):=uM a.ba a.perm (a.ba.pos i b) _
def aJ6 (c:Near S R N (i+1)) (e:i < N):tgt S R i < N+1:=by
 rw [aJ7 c e];unfold aDc;have d:(List.range (N+1)).countP (λa=>decide (S.getD a 0 < S.getD i 0∨(S.getD a 0=S.getD i 0/\ro R (a+1) < ro R (i+1))))≠(List.range (N+1)).length:=λb=>by have:=(zDJ.1 b) i zt;rw [zCa] at this;omega
 have f:=zBh (p:=λa=>decide (S.getD a 0 < S.getD i 0∨(S.getD a 0=S.getD i 0/\ro R (a+1) < ro R (i+1)))) (l:=List.range (N+1));rw [zCi] at d f;omega
def aHS (k:Near S R N (i+1)) (I:i < N) {g n} (ht:n=tgt S R i) (z:g.Perm R) (F:ro g i=n) (m:∀a∈R,a≠i->ro g a=inR (bN (ro R a) (ro R i)) n) {B} (T:B=i∨(ro R i=n/\B=0)):Near S g N B:=by
 have x:=aM9 k oM;rw [<-aJ7 k I,<-ht] at x;have l:∀a,a<=N->a∈R:=λa d=>k.mem.2 d;have t:∀a,a<=N->a≠i->ro R a≠ro R i:=λa d e j=>e (fL (l a d) (l i oM) j);have u:∀a b,a<=N->b<=N->a≠i->b≠i->(ro g a < ro g b↔ro R a < ro R b):=λa b d f e c=>by rw [m a (l a d) e,m b (l b f) c];have P:=t a d e;have Q:=t b f c;unfold inR bN;split <;> split <;> split <;> split <;> omega
 have E:∀a,a<=N->a≠i->(ro g a < ro g i↔KB S R i a=true):=λa d e=>by rw [x a d e,F,m a (l a d) e];unfold inR;split <;> omega
 have D:∀a,a<=N->a≠i->(ro g i < ro g a↔¬KB S R i a=true):=λa d e=>by rw [x a d e,F,m a (l a d) e];unfold inR;split <;> omega
 have G:∀a,a < N->a≠i->(a+1≠i∨ro R i=n)->(ro R (a+1) < ro R (i+1)↔ro g (a+1) < ro g (i+1)):=λa d e q=>by
  rcases q with q | q;exact (u (a+1) (i+1) oM oM q oM).symm
  .have r:∀b,b<=N->ro g b=ro R b:=λb f=>by
    by_cases c:b=i;subst c;omega
    .rw [m b (l b f) c,q];have:=t b f c;unfold inR bN;split <;> split <;> omega
   rw [r _ oM,r _ oM]
 obtain ⟨M,O,C⟩:=k.ba;refine ⟨k.ba,z.trans k.perm,λa b d f y=>?_,λa b d f A W X=>?_⟩;by_cases e:a=i;subst e;by_cases c:b=a;subst c;omega;have:=(D b f c).1 y;unfold KB at this;rw [zCa] at this;omega;by_cases c:b=i;subst c;have:=(E a d e).1 y;unfold KB at this;rw [zCa] at this;omega;exact k.a9 a b d f ((u a b d f e c).1 y)
 .have w:∀o p,o<=N->p<=N->o≠p->S.getD o 0=S.getD p 0->o < N/\p < N:=λo p J K Y Z=>by refine ⟨zFO J λj=>?_,zFO K λj=>?_⟩;subst j;have:=C p oM;omega;subst j;have:=C o oM;omega
  by_cases e:a=i;subst e;have c:b≠a:=λj=>A j.symm;rw [D b f c];unfold KB wP;rw [zCa];by_cases s:S.getD b 0=S.getD a 0;obtain ⟨v,H⟩:=w b a f d c s;have:=G b v c oM;have U:ro R (b+1)≠ro R (a+1):=λj=>c (zj (fL (l (b+1) oM) (l (a+1) oM) j));have V:ro g (b+1)≠ro g (a+1):=λj=>c (zj (fL ((z.trans k.perm).mem_iff.2 zt) ((z.trans k.perm).mem_iff.2 zt) j));omega;omega
  .by_cases c:b=i;subst c;rw [E a d e];unfold KB wP;rw [zCa];by_cases s:S.getD a 0=S.getD b 0;obtain ⟨v,H⟩:=w a b d f e s;have:=G a v e oM;omega;omega
   .rw [u a b d f e c,k.cons a b d f A oM oM];unfold wP;by_cases s:S.getD a 0=S.getD b 0
    .obtain ⟨v,H⟩:=w a b d f A s;by_cases L:ro R i=n
     .have r:∀b,b<=N->ro g b=ro R b:=λb f=>by
       by_cases c:b=i;subst c;omega
       .rw [m b (l b f) c,L];have:=t b f c;unfold inR bN;split <;> split <;> omega
      rw [r _ oM,r _ oM]
     .rw [u (a+1) (b+1) oM oM oM oM]
    omega
end
end
end Go.Proofs.YtlghmcogeipojaaGreatDoor
