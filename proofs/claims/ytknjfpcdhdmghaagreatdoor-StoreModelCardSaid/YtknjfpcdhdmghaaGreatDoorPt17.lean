/- Lemmas of the walk. Conditions: each its own. -/
import Derived.Test.YtknjfpcdhdmghaaGreatDoorPt14
import Derived.Test.YtknjfpcdhdmghaaGreatDoorPt15
set_option linter.all false
set_option maxRecDepth 100000
set_option maxHeartbeats 4000000
open Go.Proofs.Tryz
namespace Go.Proofs.YtknjfpcdhdmghaaGreatDoor
open Go.RowKit
def pE (f:Nat->Prop) (n o:Nat) (b:LT) (r:List Value) (g:List Nat) (p:Int) (l:Bool) (k:Tr) (j:World) (m:Ending) (d:World):Prop:=
 ∃(a:LT) (e:List Value) (i:List Nat) (q:Int),m=.returned (.tuple #[.int .i64 (a.num:Nat),.bool l])/\TS d f n o e i p q/\a.er=k/\a.In d e/\(a.nums++i).Perm (b.nums++g)/\a.blks.Nodup/\(∀c,c∈a.blks->c∈b.blks∨j.heap.size<=c)/\ButL (b.nums++g) r e/\LK f b.blks j d
def LK.trans' {b c e d w1 l} (g:LK b c d w1) (k:LK b e w1 l) (m:∀a,a < d.heap.size->a∈e->a∈c):LK b c d l:=
 ⟨g.keep.trans k.keep,λa f j i=>k.a a f (λn=>j (m a i.lt n)) (g.a a f j i)⟩
def aM5 (a b:Tr):(Tr.mend a b).ht<=max a.ht b.ht+1:=by
 unfold Tr.mend;split
 .split
  .split <;> simp [Tr.ht]
  .simp [Tr.ht]
 .split
  .split <;> simp [Tr.ht] <;> omega
  .simp [Tr.ht]
 .split
  .split <;> simp [Tr.ht] <;> omega
  .simp [Tr.ht]
 .simp [Tr.ht]
def aHV {a b e f:LT} (g:Tr.mend a.er b.er=.nd e.er f.er) (i:max a.ht b.ht+1<=100000) (j:a.len+b.len<=100000):e.L/\f.L:=by
 have c:=aM5 a.er b.er;have d:=congrArg List.length (Tr.mend_bits a.er b.er);rw [g] at c d;simp only [Tr.ht,Tr.bits,zAi] at c d;refine ⟨⟨?_,?_⟩,⟨?_,?_⟩⟩<;> simp only [LT.ht,LT.len] at*<;> omega
def aCp {p g y d e b a o i K N f} (D:TS f p g y o i K N) (a7:(LT.lf e b a).In f o) (a6:p b) (G:a.length<=128) (u:d < a.length):
 Calls prog 244 #[g,(e:Int),(d:Int)] f (pE p g y (.lf e b a) o i K (a.getD d false) (.lf (aK a d)) f):=by
 obtain ⟨j,E⟩:=a7;obtain ⟨x,H⟩:=eqx a.length;obtain ⟨z,I⟩:=eqx (a.count true);obtain ⟨ac,s⟩:=eqx (a.getD d false);have w:At8 o e (lH (x:Int) (z:Int) b):=by rw [<-H,<-I];exact j
 obtain ⟨q,m,n⟩:=nR (k:=d) (cs:=#[.int .i64 (-1),.int .i64 (-1),.int .i64 0,.int .i64 x,.int .i64 z,.int .i64 0,.int .i64 0,.pointer (some b)]) D;obtain ⟨aq,ab,af,ay,c⟩:=D;obtain ⟨a5,ag,rfl,t⟩:=c.rd.ex (zj (j.lt c.rd.len));have ad:=c.rd.c1;have ae:=c.rd.c3;have ap:=c.rd.a.frozen 3;have av:=c.rd.a.lt;have au:=t.lt;have ax:g≠a5:=Bk.ne c.rd.a t dC;have aw:(e:Int) < y:=zj (j.lt c.rd.len)
 obtain ⟨ah,ai,aj,ak,al,am,an,ao⟩:=c.rd.at w;obtain ⟨a3,r⟩:=eqx ((f.setCell ⟨g,3,none⟩ (.int .i64 (wrap64 (N+1)))).alloc (.cells #[(-1:Int),(-1:Int),o0,(x:Int),(z:Int),o0,o0,b] 236));rw [r] at q m n;have aa:a3.cell? ⟨f.heap.size,7,none⟩=some (.pointer (some b)):=(n.cell 7).trans rfl;have ar:=n.lt;obtain ⟨W,P,a1,B,S,X,Z,Y⟩:=hqq8 r q m (m.a b _ zs E) w s G u;have a0:=lhd (show (aK a d).length<=128 by have:=cJ u;omega);clear q m n r E j w H I G u c t;unfold pE;rw [s];clear s;go_enter func244,ntmps244;go_wp2_with fail;rw [W.out];refine (yX B Z Y).mono ?_;rintro a4 az ⟨rfl,F,v⟩;rw [X.out];obtain ⟨Q,C⟩:=hqq2 (P.out.a B.out v) F;have a2:=lhd ((a1.out.mono (bl':= [b]) zs).trans (LK.one v a6));clear F v aa;go_wp2_with fail;refine (lU Q S C a0).mono ?_;rintro a4 a9 ⟨rfl,O,L,J,M,A,_⟩;obtain ⟨U,R⟩:=hqq2 L (show (LT.lf e b (aK a d)).In a9 O from ⟨J,A.a b _ zs C.out⟩);have V:=lhd (M.l (l:= [e]++i) zs);have T:=lhd (a2.out.trans (A.mono zs));clear L J M A;go_wp2_with fail;go_ret2;exact ⟨.lf e b (aK a d),O,i,_,rfl,U,rfl,R,.refl _,by simp [LT.blks],λaA a8=>.inl a8,V,T⟩
def aJg {p t n C b} {d a:LT} {r:Tr} (F) {aY x l O bQ o} (b3:TS o p t n x l O bQ) (cC:(LT.nd b d a).In o x) (bo:((LT.nd b d a).nums++(aY++l)).Perm (List.range n)) (al:(LT.nd b d a).blks.Nodup) (b4:∀f,f∈(LT.nd b d a).blks->p f) (bb:∀E,o.heap.size<=E->p E) (cD:C < d.len) (a2:(LT.nd b d a).L) (b6:r.ht<=d.ht/\r.bits.length<=d.len) (dq:n<=50000) (bM:r.Le) (bD:a.er.Le) (sh:∀g:LT,g.er=r->g.J=true->a.ht<=1) (bJ:a.J=false) (bu:∀B cM,TS B p t n x l O cM->d.In B x->LK p [] o B->Calls prog 244 #[t,(d.num:Int),(C:Int)] B (pE p t n d x l O F r B)):
 Calls prog 244 #[t,(b:Int),(C:Int)] o (pE p t n (.nd b d a) x l O F (Tr.rebal (Tr.mend r a.er)) o):=by
 obtain ⟨Z,bd,ar⟩:=cC;obtain ⟨J,a0⟩:=eqx d.len;obtain ⟨aD,bi⟩:=eqx d.on;obtain ⟨aE,bl⟩:=eqx (d.len+a.len);obtain ⟨aG,bm⟩:=eqx (d.on+a.on);obtain ⟨ap,bc⟩:=eqx (max d.ht a.ht+1);obtain ⟨aC,a1⟩:=eqx d.num;obtain ⟨aH,ax⟩:=eqx a.num;have au:At8 x b (ndL aC aH ap aE aG J aD):=by rw [<-a0,<-bi,<-bl,<-bm,<-bc,<-a1,<-ax];exact Z
 have bq:d.L:=a2.l;have cH:a.L:=a2.r;rw [a0] at cD;have dm:J<=100000:=by rw [<-a0];exact bq.2
 obtain ⟨ag,M,bR⟩:=nR (k:=C) (cs:=#[.int .i64 aC,.int .i64 aH,.int .i64 ap,.int .i64 aE,.int .i64 aG,.int .i64 J,.int .i64 aD,.pointer none]) b3;obtain ⟨dh,cT,d4,dy,u⟩:=b3;obtain ⟨cr,d5,rfl,ao⟩:=u.rd.ex (zj (Z.lt u.rd.len));have d2:=u.rd.c1;have d3:=u.rd.c3;have de:=u.rd.a.frozen 3;have dk:=u.rd.a.lt;have dj:=ao.lt;have dr:t≠cr:=Bk.ne u.rd.a ao dC;have dl:(b:Int) < n:=zj (Z.lt u.rd.len)
 obtain ⟨d7,d8,d9,da,db,cm,dc,dd⟩:=u.rd.at au;obtain ⟨B,ai⟩:=eqx ((o.setCell ⟨t,3,none⟩ (.int .i64 (wrap64 (bQ+1)))).alloc (.cells #[(aC:Int),(aH:Int),(ap:Int),(aE:Int),(aG:Int),(J:Int),(aD:Int),.pointer none] 236));rw [ai] at ag M bR;have bh:=bd.but (ButL.refl [] _) M zs zs;have bp:=ar.but (ButL.refl [] _) M zs zs;have aq:=bu B _ ag bh M;rw [a1] at aq;have df:=zy ((C:Int) < J);have dg:=zy (C < J);obtain ⟨c2,aX,c0,aP,bZ,aV,aT,Q,aU⟩:=hqq9 ai M bp aq au bo al b4 bb;obtain ⟨ac,aR,cY,c6,c4,TL,c9,cc,cd⟩:=hqq9 a2 b6 a1 ax (ar.a) bM bD sh bJ;clear ag M bR ai bh bp aq bu Z au a0 bi bl bm bc a1 ax bd ar u ao bo al b4 a2 b6 bq cH bb bM bD sh bJ;go_enter func244,ntmps244;go_wp2_with fail;rw [c2.out];refine aP.mono ?_;rintro s aJ ⟨g,aL,H,dz,rfl,cJ,y,bs,a6,bC,ae,a8,a7⟩;clear aP;obtain ⟨cI,a5,aF⟩:=iR aV;have bf:b∉d.nums++l:=λc=>by rcases zCp.1 c with c | c;have:=aF;rw [LT.nums,zDe] at this;exact this.1 (by simp [c]);exact (a5 b (by simp [LT.nums])).1 (by simp [c])
 have bn:∀e,e∈a.nums->e∉d.nums++l:=λe i c=>by rcases zCp.1 c with c | c;have:=aF;rw [LT.nums,zDe,zDb] at this;exact this.2.2.2 _ c _ i rfl;exact (a5 e (by simp [LT.nums,i])).1 (by simp [c])
 have aw:∀f,f∈a.blks->f∉d.blks:=λf i c=>by have:=aT.out;rw [LT.blks,zDb] at this;exact this.2.2 _ c _ i rfl
 have a4:=a8 _ _ bf bZ;have bv:=c0.but a8 a7 bn aw;obtain ⟨cp,cU,ci,cK,z⟩:=cJ;obtain ⟨b1,d6,rfl,X⟩:=z.rd.ex (zj (a4.lt z.rd.len));have cg:=z.rd.c1;have cA:=z.rd.a.lt;have cy:=X.lt;have co:=X.frozen (b*8);obtain ⟨cR,cS,_⟩:=z.rd.at a4;obtain ⟨W,az⟩:=eqx g.num;have ak:=z.put (b*8) (.int .i64 W);have N:LK p [] aJ (aJ.setCell ⟨b1,b*8,none⟩ (.int .i64 W)):=LK.set X dC (OwnF.at z.own) _;obtain ⟨cf,aj⟩:=eqx (aJ.setCell ⟨b1,b*8,none⟩ (.int .i64 W));rw [aj] at ak N;have a9:ButL [b] aL (aL.set (b*8) (.int .i64 W)):=(But8.set b aL (j:=0) oM _).l zs;have bz:=a4.set (j:=0) oM (.int .i64 W);have U:((b::(g.nums++a.nums)++H)++aY).Perm (List.range n):=by refine List.Perm.trans ?_ aV;have P:=zDc.1 a6;rw [zDc];intro q;have:=P q;simp only [LT.nums,zDg,zCc] at this⊢;omega
 have bk:=U.nodup_iff.2 zDl;have T:(b::(g.nums++a.nums)++H).Nodup:=(zDb.1 bk).1;have av:∀e,e∈b::(g.nums++a.nums)++H->e < n:=λe i=>zCj.1 (U.mem_iff.1 (zDE _ i));have ba:H.length<=1000000:=by have:=U.length_eq;rw [zAi,zAi,zCi] at this;omega
 have bg:∀e,e∈g.nums->e∉ [b]:=λe i c=>by have R:=T;rw [zEm,zDe] at R;have s:=zDa.1 c;exact R.1 (by rw [<-s];simp [i])
 have be:∀e,e∈a.nums->e∉ [b]:=λe i c=>by have R:=T;rw [zEm,zDe] at R;have s:=zDa.1 c;exact R.1 (by rw [<-s];simp [i])
 have bx:=bs.but a9 N bg zs;have bw:=bv.but a9 N be zs;have ay:g.L:=by obtain ⟨bS,bT⟩:=aR;obtain ⟨bU,P⟩:=ac.l;exact ⟨by show g.er.ht<=_;rw [y];exact zAk bS bU,by show g.er.bits.length<=_;rw [y];exact zAk bT P⟩
 have cG:=aX.keep.size;have cE:=a7.keep.size;have cF:=N.keep.size;have I:(g.blks++a.blks).Nodup:=by have I:=aT.out;rw [LT.blks,zDb] at I;rw [zDb];refine ⟨bC,I.2.1,λq V dE br s=>?_⟩;subst s;rcases ae q V with c | c;exact aw q br c;obtain ⟨ck,cx⟩:=c4 q br;have cQ:=cx.lt;omega
 have an:∀f,f∈g.blks++a.blks->f∈(LT.nd b d a).blks∨o.heap.size<=f:=λf v=>by rcases zCp.1 v with c | c;rcases ae f c with bA | bA;exact .inl (by simp [LT.blks,bA]);exact .inr oM;exact .inl (by simp [LT.blks,c])
 have b5:∀f,f∈g.blks++a.blks->p f:=λf v=>by rcases an f v with c | c;exact Q f c;exact aU f c
 have bj:=aFH ⟨cp,_,ci,cK,ak⟩ (show Nd _ b g.num a.num from ⟨_,_,_,_,_,by rw [az,c6.out];exact bz⟩) bx bw I b5 (λE al=>aU E oM) T av ba (y ▸ TL) c9 ay ac.r (λY=>cc g y Y) (λY=>by rw [cd.out] at Y;cases Y);have aQ:=lhd bj;have ce:=lhd ((a8.mono (l':=(LT.nd b d a).nums++l) (λe i=>by rcases zCp.1 i with w | w <;> simp [LT.nums,w])).trans (a9.mono (by simp [LT.nums])));have cb:=lhd ((aX.out.mono (bl':=(LT.nd b d a).blks) zs).trans ((a7.mono (bl':=(LT.nd b d a).blks) (λf _ v=>by simp [LT.blks,v])).trans (N.mono zs)));obtain ⟨ca,aO,cW,ab,c5,cZ,d0,cV⟩:=hqq8 a6 y I an T av U ay;have c1:=lhd (show ∀A D:LT,Tr.mend g.er a.er=.nd A.er D.er->A.L/\D.L from λA D s=>by
  obtain ⟨bS,bT⟩:=aR;obtain ⟨bU,P⟩:=ac;have cQ:g.ht=r.ht:=congrArg Tr.ht y;have dA:g.len=r.bits.length:=congrArg (λw=>w.bits.length) y;have dB:=LT.len_nd b d a;have dD:(LT.nd b d a).ht=max d.ht a.ht+1:=rfl;exact aHV s oM oM)
 obtain ⟨c3,c7⟩:=hqq2 aj az;have ds:o.heap.size<=cf.heap.size:=oM;have bH:∀e,e∈g.nums->e∈d.nums∨e∈l:=λe i=>by have:=a6.mem_iff.1 (zDE H i);exact zCp.1 this
 obtain ⟨d1,cX⟩:=hqq2 bH (show ∀e,e∈(LT.nd b d a).nums->e∉l from λe i c=>(a5 e i).1 (List.mem_append_right _ c));clear z X ak N a9 bz a4 bg be bx bw bv bs a8 a7 a6 bC ae y ay aw bf bn cI a5 aF aj az I an b5 T av ba U bk bj cG cE cF bH;go_wp2_with fail;rw [c7.out,c3.out];clear cg cA cy co cR cS;refine aQ.mono ?_;rintro s aK ⟨aM,af,cN,aI,_,bO,bF,cw⟩;clear aQ;have am:LK p (LT.nd b d a).blks o aK:=cb.trans' bF λf v c=>by rcases ab f c with w | w;exact w;omega
 have dt:o.heap.size<=aK.heap.size:=am.keep.size;have ah:(b::(g.nums++a.nums)++H).Perm ((LT.nd b d a).nums++l):=by have P:=zDc.1 ca;rw [zDc];intro q;have:=P q;simp only [LT.nums,zDg,zCc] at this⊢;omega
 have b7:ButL ((LT.nd b d a).nums++l) x aM:=ce.trans (bO.mono λe i=>ah.mem_iff.1 (zDE _ i));obtain ⟨aN,aa,aS⟩:=hqq3 am ah b7;clear am ah b7 bO bF;rcases cw with ⟨c,f,E,rfl,G,a3,L,b2⟩|⟨A,D,rfl,G,K,aA,aB,L,bB,aZ⟩
 .obtain ⟨cq,bV,cj,cL,m⟩:=aI;have dp:c < n:=(zj (a3.1.lt m.rd.len));obtain ⟨ct,cl,rfl,S⟩:=m.rd.ex oM;have ch:=m.rd.c1;have cB:=m.rd.a.lt;have cz:=S.lt;have dn:(c:Int) < n:=oM;obtain ⟨_,_,_,_,_,_,_,cn⟩:=m.rd.at (show At8 aM c [_,_,_,_,_,_,_,_] from a3.1)
  have Q:=lhd (show pE p t n (.nd b d a) x l O F (Tr.rebal (Tr.mend r a.er)) o (.returned (.tuple #[.int .i64 (c:Nat),.bool F])) aK from
   ⟨.lf c f E,aM,af,cN,rfl,⟨_,_,_,_,m⟩,by rw [<-aO.out,G];rfl,a3,L.trans aa,by simp [LT.blks],λq V=>ab q (by rw [zDa.1 V];exact b2),aS,aN⟩)
  clear m a3 L b2 G S;go_wp2_with fail;go_ret2;exact Q
 .obtain ⟨bI,bK⟩:A.L/\D.L:=c1 A D G;have b9:(b::(A.nums++D.nums)).Nodup:=(zDb.1 (L.nodup_iff.2 c5)).1;have b8:=zP aI K aA aB b9 bI bK;obtain ⟨cq,bV,cj,cL,m⟩:=aI;obtain ⟨di,dw,dx,du,dv,K⟩:=K;obtain ⟨ct,cl,rfl,S⟩:=m.rd.ex (zj (K.lt m.rd.len));have ch:=m.rd.c1;have cB:=m.rd.a.lt;have cz:=S.lt;obtain ⟨_,_,_,_,_,_,_,cn⟩:=m.rd.at K;obtain ⟨bY,aW,c8,bW,bX⟩:=hqq5 b8 L bB aZ G;have cu:=λf v=>aA.a f v;have cv:=λf v=>aB.a f v;clear m S b8 L bB aZ G K aA aB b9 bI bK cu cv;go_wp2_with fail;refine bY.mono ?_;rintro s cO ⟨bL,cP,cm,rfl,bN,_,bt,b0,bE,ad,bP,bG⟩
  have Q:=lhd (show pE p t n (.nd b d a) x l O F (Tr.rebal (Tr.mend r a.er)) o (.returned (.tuple #[.int .i64 (bL.num:Nat),.bool F])) cO from
   ⟨bL,cP,af,_,rfl,bN,by rw [b0,<-aO.out,bX.out];rfl,bt,(bE.append_right af).trans (aW.trans aa),ad.nodup_iff.2 c8,λq V=>by
    rcases bW q (ad.mem_iff.1 V) with w | w;exact ab q w
    .exact .inr oM,aS.trans (bP.mono λe i=>aa.mem_iff.1 (aW.mem_iff.1 (zDE _ i))),aN.trans (bG.mono zs)⟩)
  clear bN bt b0 bE ad bP bG;go_wp2_with fail;go_ret2;exact Q
def aJf {p u n q b} {a d:LT} {s:Tr} (G) {aZ z l P bP o} (b4:TS o p u n z l P bP) (cB:(LT.nd b a d).In o z) (bp:((LT.nd b a d).nums++(aZ++l)).Perm (List.range n)) (al:(LT.nd b a d).blks.Nodup) (b5:∀f,f∈(LT.nd b a d).blks->p f) (bc:∀F,o.heap.size<=F->p F) (cC:¬q < a.len) (dn:q<=100000) (a2:(LT.nd b a d).L) (b7:s.ht<=d.ht/\s.bits.length<=d.len) (dt:n<=50000) (bL:s.Le) (bC:a.er.Le) (sh:∀g:LT,g.er=s->g.J=true->a.ht<=1) (bI:a.J=false) (aA:∀D cM,TS D p u n z l P cM->d.In D z->LK p [] o D->Calls prog 244 #[u,(d.num:Int),.int .i64 (q - a.len:Nat)] D (pE p u n d z l P G s D)):
 Calls prog 244 #[u,(b:Int),(q:Int)] o (pE p u n (.nd b a d) z l P G (Tr.rebal (Tr.mend a.er s)) o):=by
 obtain ⟨Z,ar,be⟩:=cB;obtain ⟨x,a0⟩:=eqx a.len;obtain ⟨aE,bj⟩:=eqx a.on;obtain ⟨aF,bm⟩:=eqx (a.len+d.len);obtain ⟨aH,bn⟩:=eqx (a.on+d.on);obtain ⟨ap,bd⟩:=eqx (max a.ht d.ht+1);obtain ⟨aD,av⟩:=eqx a.num;obtain ⟨aI,a1⟩:=eqx d.num;have au:At8 z b (ndL aD aI ap aF aH x aE):=by rw [<-a0,<-bj,<-bm,<-bn,<-bd,<-av,<-a1];exact Z
 have br:a.L:=a2.l;have cG:d.L:=a2.r;rw [a0] at cC aA;have dq:x<=100000:=by rw [<-a0];exact br.2
 obtain ⟨ag,N,bQ⟩:=nR (k:=q) (cs:=#[.int .i64 aD,.int .i64 aI,.int .i64 ap,.int .i64 aF,.int .i64 aH,.int .i64 x,.int .i64 aE,.pointer none]) b4;obtain ⟨dj,cT,d4,dB,v⟩:=b4;obtain ⟨cq,d5,rfl,ao⟩:=v.rd.ex (zj (Z.lt v.rd.len));have d2:=v.rd.c1;have d3:=v.rd.c3;have de:=v.rd.a.frozen 3;have dm:=v.rd.a.lt;have dl:=ao.lt;have du:u≠cq:=Bk.ne v.rd.a ao dC;have dp:(b:Int) < n:=zj (Z.lt v.rd.len)
 obtain ⟨d7,d8,d9,da,db,cl,dc,dd⟩:=v.rd.at au;obtain ⟨D,ai⟩:=eqx ((o.setCell ⟨u,3,none⟩ (.int .i64 (wrap64 (bP+1)))).alloc (.cells #[(aD:Int),(aI:Int),(ap:Int),(aF:Int),(aH:Int),(x:Int),(aE:Int),.pointer none] 236));rw [ai] at ag N bQ;have bi:=ar.but (ButL.refl [] _) N zs zs;have bq:=be.but (ButL.refl [] _) N zs zs;have aq:=aA D _ ag bq N;rw [a1] at aq;have df:=zn ((q:Int) < x);have dg:=zn (q < x);have dh:wrap64 (q -x)=((q - x:Nat):Int):=by unfold wrap64;omega
 have di:((q:Int) -x)=((q - x:Nat):Int):=oM;obtain ⟨c1,aY,bZ,aQ,bY,aW,aU,R,aV⟩:=hqq9 ai N bi aq au bp al b5 bc;obtain ⟨ac,aS,c5,d0,c3,TL,c8,cb,cc⟩:=hqq9 a2 b7 av a1 (ar.a) bL bC sh bI;clear ag N bQ ai bi bq aq aA Z au a0 bj bm bn bd av a1 ar be v ao bp al b5 a2 b7 br cG bc bL bC sh bI;go_enter func244,ntmps244;go_wp2_with fail;rw [c1.out];refine aQ.mono ?_;rintro t aK ⟨g,aM,I,dD,rfl,cJ,A,bs,a6,bB,ae,a8,a7⟩;clear aQ;obtain ⟨cI,a5,aG⟩:=iR aW;have bg:b∉d.nums++l:=λc=>by rcases zCp.1 c with c | c;have:=aG;rw [LT.nums,zDe] at this;exact this.1 (by simp [c]);exact (a5 b (by simp [LT.nums])).1 (by simp [c])
 have bo:∀e,e∈a.nums->e∉d.nums++l:=λe i c=>by rcases zCp.1 c with c | c;have:=aG;rw [LT.nums,zDe,zDb] at this;exact this.2.2.2 _ i _ c rfl;exact (a5 e (by simp [LT.nums,i])).1 (by simp [c])
 have ax:∀f,f∈a.blks->f∉d.blks:=λf i c=>by have:=aU.out;rw [LT.blks,zDb] at this;exact this.2.2 _ i _ c rfl
 have a4:=a8 _ _ bg bY;have bu:=bZ.but a8 a7 bo ax;obtain ⟨co,cU,ch,cK,B⟩:=cJ;obtain ⟨b2,d6,rfl,X⟩:=B.rd.ex (zj (a4.lt B.rd.len));have cf:=B.rd.c1;have cz:=B.rd.a.lt;have cx:=X.lt;have cn:=X.frozen (b*8+1);obtain ⟨cR,cS,_⟩:=B.rd.at a4;obtain ⟨W,az⟩:=eqx g.num;have ak:=B.put (b*8+1) (.int .i64 W);have O:LK p [] aK (aK.setCell ⟨b2,b*8+1,none⟩ (.int .i64 W)):=LK.set X dC (OwnF.at B.own) _;obtain ⟨ce,aj⟩:=eqx (aK.setCell ⟨b2,b*8+1,none⟩ (.int .i64 W));rw [aj] at ak O;have a9:ButL [b] aM (aM.set (b*8+1) (.int .i64 W)):=(But8.set b aM (j:=1) oM _).l zs;have bx:=a4.set (j:=1) oM (.int .i64 W);have V:((b::(a.nums++g.nums)++I)++aZ).Perm (List.range n):=by refine List.Perm.trans ?_ aW;have Q:=zDc.1 a6;rw [zDc];intro r;have:=Q r;simp only [LT.nums,zDg,zCc] at this⊢;omega
 have bl:=V.nodup_iff.2 zDl;have U:(b::(a.nums++g.nums)++I).Nodup:=(zDb.1 bl).1;have aw:∀e,e∈b::(a.nums++g.nums)++I->e < n:=λe i=>zCj.1 (V.mem_iff.1 (zDE _ i));have bb:I.length<=1000000:=by have:=V.length_eq;rw [zAi,zAi,zCi] at this;omega
 have bh:∀e,e∈g.nums->e∉ [b]:=λe i c=>by have S:=U;rw [zEm,zDe] at S;have t:=zDa.1 c;exact S.1 (by rw [<-t];simp [i])
 have bf:∀e,e∈a.nums->e∉ [b]:=λe i c=>by have S:=U;rw [zEm,zDe] at S;have t:=zDa.1 c;exact S.1 (by rw [<-t];simp [i])
 have bw:=bs.but a9 O bh zs;have bv:=bu.but a9 O bf zs;have ay:g.L:=by obtain ⟨bR,bS⟩:=aS;obtain ⟨bT,Q⟩:=ac.r;exact ⟨by show g.er.ht<=_;rw [A];exact zAk bR bT,by show g.er.bits.length<=_;rw [A];exact zAk bS Q⟩
 have cF:=aY.keep.size;have cD:=a7.keep.size;have cE:=O.keep.size;have J:(a.blks++g.blks).Nodup:=by have J:=aU.out;rw [LT.blks,zDb] at J;rw [zDb];refine ⟨J.1,bB,λr K dH cH t=>?_⟩;subst t;rcases ae r cH with c | c;exact ax r K c;obtain ⟨cj,cw⟩:=c3 r K;have cQ:=cw.lt;omega
 have an:∀f,f∈a.blks++g.blks->f∈(LT.nd b a d).blks∨o.heap.size<=f:=λf w=>by rcases zCp.1 w with c | c;exact .inl (by simp [LT.blks,c]);rcases ae f c with bz | bz;exact .inl (by simp [LT.blks,bz]);exact .inr oM
 have b6:∀f,f∈a.blks++g.blks->p f:=λf w=>by rcases an f w with c | c;exact R f c;exact aV f c
 have bk:=aFH ⟨co,_,ch,cK,ak⟩ (show Nd _ b a.num g.num from ⟨_,_,_,_,_,by rw [az,c5.out];exact bx⟩) bv bw J b6 (λF al=>aV F oM) U aw bb c8 (A ▸ TL) ac.l ay (λY=>by rw [cc.out] at Y;cases Y) (λY=>cb g A Y);have aR:=lhd bk;have cd:=lhd ((a8.mono (l':=(LT.nd b a d).nums++l) (λe i=>by rcases zCp.1 i with y | y <;> simp [LT.nums,y])).trans (a9.mono (by simp [LT.nums])));have ca:=lhd ((aY.out.mono (bl':=(LT.nd b a d).blks) zs).trans ((a7.mono (bl':=(LT.nd b a d).blks) (λf _ w=>by simp [LT.blks,w])).trans (O.mono zs)));obtain ⟨c9,aP,cW,ab,c4,cY,cZ,cV⟩:=hqq8 a6 A J an U aw V ay;have c0:=lhd (show ∀C E:LT,Tr.mend a.er g.er=.nd C.er E.er->C.L/\E.L from λC E t=>by
  obtain ⟨bR,bS⟩:=aS;obtain ⟨bT,Q⟩:=ac;have cQ:g.ht=s.ht:=congrArg Tr.ht A;have dE:g.len=s.bits.length:=congrArg (λy=>y.bits.length) A;have dF:=LT.len_nd b a d;have dG:(LT.nd b a d).ht=max a.ht d.ht+1:=rfl;exact aHV t oM oM)
 obtain ⟨c2,c6⟩:=hqq2 aj az;have dv:o.heap.size<=ce.heap.size:=oM;have bG:∀e,e∈g.nums->e∈d.nums∨e∈l:=λe i=>by have:=a6.mem_iff.1 (zDE I i);exact zCp.1 this
 obtain ⟨d1,cX⟩:=hqq2 bG (show ∀e,e∈(LT.nd b a d).nums->e∉l from λe i c=>(a5 e i).1 (List.mem_append_right _ c));clear B X ak O a9 bx a4 bh bf bw bv bu bs a8 a7 a6 bB ae A ay ax bg bo cI a5 aG aj az J an b6 U aw bb V bl bk cF cD cE bG;go_wp2_with fail;rw [c6.out,c2.out];clear cf cz cx cn cR cS;refine aR.mono ?_;rintro t aL ⟨aN,af,cN,aJ,_,bN,bE,cv⟩;clear aR;have am:LK p (LT.nd b a d).blks o aL:=ca.trans' bE λf w c=>by rcases ab f c with y | y;exact y;omega
 have dw:o.heap.size<=aL.heap.size:=am.keep.size;have ah:(b::(a.nums++g.nums)++I).Perm ((LT.nd b a d).nums++l):=by have Q:=zDc.1 c9;rw [zDc];intro r;have:=Q r;simp only [LT.nums,zDg,zCc] at this⊢;omega
 have b8:ButL ((LT.nd b a d).nums++l) z aN:=cd.trans (bN.mono λe i=>ah.mem_iff.1 (zDE _ i));obtain ⟨aO,aa,aT⟩:=hqq3 am ah b8;clear am ah b8 bN bE;rcases cv with ⟨c,f,F,rfl,H,a3,M,b3⟩|⟨C,E,rfl,H,L,aB,aC,M,bA,b0⟩
 .obtain ⟨cp,bU,ci,cL,m⟩:=aJ;have ds:c < n:=(zj (a3.1.lt m.rd.len));obtain ⟨cr,ck,rfl,T⟩:=m.rd.ex oM;have cg:=m.rd.c1;have cA:=m.rd.a.lt;have cy:=T.lt;have dr:(c:Int) < n:=oM;obtain ⟨_,_,_,_,_,_,_,cm⟩:=m.rd.at (show At8 aN c [_,_,_,_,_,_,_,_] from a3.1)
  have R:=lhd (show pE p u n (.nd b a d) z l P G (Tr.rebal (Tr.mend a.er s)) o (.returned (.tuple #[.int .i64 (c:Nat),.bool G])) aL from
   ⟨.lf c f F,aN,af,cN,rfl,⟨_,_,_,_,m⟩,by rw [<-aP.out,H];rfl,a3,M.trans aa,by simp [LT.blks],λr K=>ab r (by rw [zDa.1 K];exact b3),aT,aO⟩)
  clear m a3 M b3 H T;go_wp2_with fail;go_ret2;exact R
 .obtain ⟨bH,bJ⟩:C.L/\E.L:=c0 C E H;have ba:(b::(C.nums++E.nums)).Nodup:=(zDb.1 (M.nodup_iff.2 c4)).1;have b9:=zP aJ L aB aC ba bH bJ;obtain ⟨cp,bU,ci,cL,m⟩:=aJ;obtain ⟨dk,dz,dA,dx,dy,L⟩:=L;obtain ⟨cr,ck,rfl,T⟩:=m.rd.ex (zj (L.lt m.rd.len));have cg:=m.rd.c1;have cA:=m.rd.a.lt;have cy:=T.lt;obtain ⟨_,_,_,_,_,_,_,cm⟩:=m.rd.at L;obtain ⟨bX,aX,c7,bV,bW⟩:=hqq5 b9 M bA b0 H;have ct:=λf w=>aB.a f w;have cu:=λf w=>aC.a f w;clear m T b9 M bA b0 H L aB aC ba bH bJ ct cu;go_wp2_with fail;refine bX.mono ?_;rintro t cO ⟨bK,cP,cl,rfl,bM,_,bt,b1,bD,ad,bO,bF⟩
  have R:=lhd (show pE p u n (.nd b a d) z l P G (Tr.rebal (Tr.mend a.er s)) o (.returned (.tuple #[.int .i64 (bK.num:Nat),.bool G])) cO from
   ⟨bK,cP,af,_,rfl,bM,by rw [b1,<-aP.out,bW.out];rfl,bt,(bD.append_right af).trans (aX.trans aa),ad.nodup_iff.2 c7,λr K=>by
    rcases bV r (ad.mem_iff.1 K) with y | y;exact ab r y
    .exact .inr oM,aT.trans (bO.mono λe i=>aa.mem_iff.1 (aX.mem_iff.1 (zDE _ i))),aO.trans (bF.mono zs)⟩)
  clear bM bt b1 bD ad bO bF;go_wp2_with fail;go_ret2;exact R
def aBr (j:Nat->Prop) (r:Nat) {D:Nat} (u:List Value) (q:List Nat) (E:Int) (C:D<=50000):∀(d:LT) (c:Nat) (p:List Nat) (W:Int) (m:World),TS m j r D u q E W->d.In m u->(d.nums++(p++q)).Perm (List.range D)->d.blks.Nodup->(∀i,i∈d.blks->j i)->(∀k,m.heap.size<=k->j k)->c < d.len->d.er.Avl->d.er.Full->(d.ht<=50000/\d.len<=50000)->
 Calls prog 244 #[r,(d.num:Int),(c:Int)] m (pE j r D d u q E (d.bits.getD c false) (d.er.drp c) m)
 | .lf e i ag,c,p,W,m,y,B,s,z,o,A,a5,a2,M,P=>aCp y B (o i (by simp [LT.blks])) M.2 a5
 | .nd e a b,c,p,W,m,y,B,s,z,o,A,a5,a2,M,P=>by
  have ai:=LT.len_nd e a b;have ah:(LT.nd e a b).ht=max a.ht b.ht+1:=rfl;have L:=z;rw [LT.blks,zDb] at L;obtain ⟨Y,Z,a7,a8⟩:=a2;obtain ⟨w,x⟩:=M;have ae:a.ht<=b.ht+1:=a7;have af:b.ht<=a.ht+1:=a8;have a4:∀f,LK j [] m f->∀k,f.heap.size<=k->j k:=λf T k aa=>A k (zAk T.keep.size aa);have J:∀ {l:LT},l.er.Full->l.J=false:=λ{l} n=>by
   cases l with
   | lf T i k=>exact zBy (by have:=n.1;omega)
   | nd T aj a6=>rfl
  have a0:∀ {l:LT},l.J=true->¬l.er.Full:=λ{l} a1 n=>by rw [J n] at a1;cases a1
  have a3:(LT.nd e a b).bits=a.bits++b.bits:=rfl;by_cases g:c < a.len
  .obtain ⟨t,Q,R,S,ac⟩:=Tr.drp_spec a.er c g Y w;have F:(LT.nd e a b).er.drp c=Tr.rebal (Tr.mend (a.er.drp c) b.er):=(by show (Tr.nd a.er b.er).drp c=_;rw [Tr.drp,zBx g]);have H:(LT.nd e a b).bits.getD c false=a.bits.getD c false:=(by rw [a3,zAb,zAb,zAn g]);have O:=congrArg List.length (Tr.drp_bits a.er c g);have ab:=cJ g;rw [F,H]
   refine aJg _ y B s z o A g (LT.L.of P) ⟨S,by rw [O];have G:a.er.bits.length=a.len:=rfl;omega⟩ C Q.le x.le (λad I n=>by
    have K:=R (by rw [<-I];exact a0 n);have a9:a.ht=0:=K;omega) (J x) λf X V t U=>?_
   refine aBr j r u q E C a c (e::(b.nums++p)) X f V t ?_ L.1 (λi N=>o i (by simp [LT.blks,N])) (a4 f U) g Y w ⟨by omega,by omega⟩;refine List.Perm.trans ?_ s;rw [zDc];intro a6;simp only [LT.nums,zDg,zCc];omega
  .have v:c - a.len < b.er.bits.length:=(by have G:b.er.bits.length=b.len:=rfl;omega);obtain ⟨t,Q,R,S,ac⟩:=Tr.drp_spec b.er (c - a.len) v Z x;have F:(LT.nd e a b).er.drp c=Tr.rebal (Tr.mend a.er (b.er.drp (c - a.len))):=(by show (Tr.nd a.er b.er).drp c=_;rw [Tr.drp,zBw g]);have H:(LT.nd e a b).bits.getD c false=b.bits.getD (c - a.len) false:=(by rw [a3,zAb,zAb,zAo (by have G:a.bits.length=a.len:=rfl;omega)]);have O:=congrArg List.length (Tr.drp_bits b.er (c - a.len) v);have ab:=cJ v;rw [F,H]
   refine aJf _ y B s z o A g oM (LT.L.of P) ⟨S,by rw [O];have G:b.er.bits.length=b.len:=rfl;omega⟩ C Q.le w.le (λad I n=>by
    have K:=R (by rw [<-I];exact a0 n);have a9:b.ht=0:=K;omega) (J w) λf X V t U=>?_
   refine aBr j r u q E C b (c - a.len) (e::(a.nums++p)) X f V t ?_ L.2.1 (λi N=>o i (by simp [LT.blks,N])) (a4 f U) v Z x ⟨by omega,by omega⟩;refine List.Perm.trans ?_ s;rw [zDc];intro a6;simp only [LT.nums,zDg,zCc];omega
def uU {c b d} (a:Keep (Gw c b.heap.size) b d):Keep c b d:=
 ⟨a.os,a.tape,a.output,a.size,λi g f=>a.block i g λe=>e.elim f λj=>by omega⟩
def aLz {a:Tr} (b:a.Full):32*a.lv<=a.bits.length:=by have:=Tr.full_lv b;omega
def uK:∀c:LT,c.nums.length+1=2*c.er.lv
 | .lf _ _ _=>rfl
 | .nd _ a b=>by have d:=uK a;have e:=uK b;show (_::(a.nums++b.nums)).length+1=2*(a.er.lv+b.er.lv);simp only [zCg,zAi];omega
def aMV {a:LT} (d:a.er.Ok) (e:a.len<=1100):a.nums.length<=80:=by
 have b:=uK a;have f:a.er.bits.length<=1100:=e;cases c:a.er with
 | lf g=>
  rw [c] at b;simp only [Tr.lv] at b;omega
 | nd i j=>
  rw [c] at d b f;have:=Tr.full_lv d.2;omega
def aNS {d:Nat} (a:d<=100000):wrap64 (0+d)=(d:Int):=by unfold wrap64;omega
def aOn (c:Option Tr) (b:Nat) (a:Bool):Option Tr:=
 match c with
 | none=>some (.lf [a])
 | some d=>some (d.ins b a)
def aO0 (b:Nat->Prop) (d i:Nat) (j:Bool) (e:Option Tr) (f:World) (g:Ending) (a:World):Prop:=g=.returned (.int .i64 0)/\TreeEo a (Gw b f.heap.size) d (aOn e i j)/\Keep b f a/\∃c:Nat,c<=5*oht e+2/\a.cell? ⟨d,3,none⟩=some (.int .i64 c)
def yR {i a l} (y) {m:Tr} {f} (U:TreeEo f i a (some m)) (a3:m.bits.length < 1100) (a2:l<=m.bits.length):
 Calls prog 226 #[a,(l:Int),.bool y] f (aO0 i a l y (some m) f):=by
 have b4:¬(l:Int) < 0:=oM;obtain ⟨P,a0⟩:=eqx m.bits.length;have b5:¬(P < l):=oM;obtain ⟨M,ah,z,ag⟩:=hqq4 U a0 a2 a3;clear U a0 a2 a3;go_enter func226,ntmps226;go_wp2_with fail;refine (jL M.at).mono ?_;rintro r w1 ⟨rfl,u⟩;rw [show (cH (some m)).length=P from ah.out];have aF:=M.below u;obtain ⟨aZ,aQ,aU,a5,L,bb,R,ba,bc,c,T,⟨n,_,_⟩|⟨e,n,D,rfl,V,W,X,Y,Z⟩⟩:=aF
 .cases n
 injection n with n;obtain ⟨b0,aV,rfl,aG⟩:=c.rd.ex (zj (D.at.lt c.rd.len));have aR:=c.rd.c2;have aT:=c.rd.c3;have aW:=c.rd.a.frozen 2;have aY:=c.rd.a.frozen 3;have b1:=c.rd.a.lt;have b7:(((e.num:Nat):Int)==-1)=false:=zCb.2 oM;have b8:¬((e.num:Nat):Int)=-1:=oM;have b9:=u.size;have a1:=(c.ab 0).mono (G:=Gw i f.heap.size) λaA _ aD=>.inl aD;have A:TS (w1.setCell ⟨a,3,none⟩ (.int .i64 0)) (Gw i f.heap.size) a a5 L R (e.num:Int) 0:=⟨_,_,_,_,a1⟩;have E:e.In (w1.setCell ⟨a,3,none⟩ (.int .i64 0)) L:=D.keep (λ_ _ _ j=>j) λg _ aC k=>k.m (p:=⟨a,3,none⟩) (Bk.ne k c.rd.a dC) _;have v:Keep (Gw i f.heap.size) f (w1.setCell ⟨a,3,none⟩ (.int .i64 0)):=(kF u).setCell (p:=⟨a,3,none⟩) (.inl (.inl c.W)) _;have J:f.heap.size<=(w1.setCell ⟨a,3,none⟩ (.int .i64 0)).heap.size:=v.size;obtain ⟨ap,B⟩:=eqx (w1.setCell ⟨a,3,none⟩ (.int .i64 0));rw [B] at A E v J;have aI:i a:=c.W;obtain ⟨aj,ai,ak,al,s,ae,af,N,ad⟩:=hqq9 B A E v V X Y Z W;obtain ⟨q,O⟩:=hqq2 n T;clear B A E v V X Y Z W n T a1 D aG u c;go_wp2_with fail;rw [aj.out];have b3:e.ht<=e.len:=s.a4;have b6:=ad.out;refine (aD0 (Gw i f.heap.size) a a5 y L R (e.num:Int) (zj O.out) e l [] 0 ap ai ak (by simpa using ae.out) af (λg C=>.inl (N g C)) (λaA k=>.inr (zAk J k)) (by have:=z.out;rw [q.out] at this;exact this) s.le s.de ⟨by omega,by omega⟩).mono ?_;rintro r aO ⟨b,w,aP,S,t,rfl,⟨aE,ac,aB,aN,o⟩,a7,x,a8,K,a9,aM,aa,ab,aL,a6⟩;have b2:=o.rd.a.lt;have aX:=o.rd.a.frozen 2;have aS:=o.rd.c2;have Q:=lhd (o.ao (b.num:Int));have an:=lhd (a8.keep (w':=aO.setCell ⟨a,2,none⟩ (.int .i64 b.num)) (λ_ _ _ j=>j) λg _ aC k=>k.m (p:=⟨a,2,none⟩) (Bk.ne k o.rd.a dC) _);have ao:=lhd (uU ((al.out.trans a6.keep).setCell (p:=⟨a,2,none⟩) (.inl (.inl aI)) (.int .i64 b.num)));have I:b.er.Ok:=by rw [x];exact Tr.ins_ok _ _ _ (by have:=z.out;rw [q.out] at this;exact this) s
 have H:b.len<=1100:=by show b.er.bits.length<=1100;have aJ:=ag.out;have F:=z.out;rw [q.out] at aJ F;rw [x,Tr.ins_bits _ _ _ F,cM _ _ F];omega
 have a4:w<=200:=by rcases a9 with r | r;rw [r];exact O;subst r;have aK:=K.length_eq;simp only [zDH,zEa,zCi] at aK;have:=aMV I H;omega
 have am:=lhd (⟨I,H,a4,by simpa using K,aa,λg C=>(ab g C).elim (λj=>.inl (N.out g j)) λj=>.inr (zAk J j),a7,x⟩:b.er.Ok/\b.len<=1100/\w<=200/\(b.nums++S).Perm (List.range w)/\b.blks.Nodup/\(∀g,g∈b.blks->Gw i f.heap.size g)/\t<=5*e.ht+2/\b.er=e.er.ins l y);clear o a7 x a8 K a9 aM aa ab aL a6 I H a4;go_wp2_with fail;go_ret;obtain ⟨aq,ar,au,av,aw,ax,ay,az⟩:=am;have aH:=aNS (d:=t) oM;refine ⟨rfl,⟨aE,ac,aB,w,aP,aN,S,_,_,Q,au,.inr ⟨b,by rw [q.out,az];rfl,an,rfl,aq,ar,av,aw,ax⟩⟩,ao,t,by rw [q.out];exact ay,?_⟩;rw [Q.rd.c3,aH]
def yS {c a} (d) {b} (Z:TreeEo b c a none):
 Calls prog 226 #[a,o0,.bool d] b (aO0 c a 0 d none b):=by
 have O:=lhd Z;clear Z;go_enter func226,ntmps226;go_wp2_with fail;refine (jL (gt:=a) (o:=none) O.at).mono ?_;rintro u w1 ⟨rfl,r⟩;have an:=O.below r;obtain ⟨aE,ac,aA,j,N,aL,q,aa,ax,e,Y,a2⟩:=an;obtain ⟨rfl,a1⟩:aa=-1/\q.Perm (List.range j):=by
  rcases a2 with ⟨_,ai,t⟩|⟨aK,x,_⟩;exact ⟨ai,t⟩
  .cases x
 clear a2;have aj:=e.rd.c2;have V:=e.rd.c3;have W:=e.rd.a.frozen 3;have aG:=e.rd.a.lt;have z:=(e.ab 0).mono (G:=Gw c b.heap.size) λt _ al=>.inl al;have E:Keep (Gw c b.heap.size) b (w1.setCell ⟨a,3,none⟩ (.int .i64 0)):=(kF r).setCell (p:=⟨a,3,none⟩) (.inl (.inl e.W)) _;have aI:=r.size;have H:w1.heap.size=(w1.setCell ⟨a,3,none⟩ (.int .i64 0)).heap.size:=by simp [World.setCell]
 obtain ⟨f,y⟩:=eqx (w1.setCell ⟨a,3,none⟩ (.int .i64 0));rw [y] at z E H;have a6:c a:=e.W;obtain ⟨ae,af,ag,S,k,P⟩:=hqq6 y z E H a1 Y;clear y z E H e Y r a1;go_wp2_with fail;rw [ae.out];clear aj V W;refine (gQ (A:=(some ⟨w1.heap.size,0,none⟩)) (m:=1) (l:=[d]) (w:=(f.alloc (.cells #[.bool d] 4))) 1 (Rd.bt f 4 1 1 #[.bool d] w1.heap.size rfl S) nL dC).mono ?_;rintro u M ⟨rfl,B,a4⟩;rw [sZ0] at B;have D:Below f.heap.size f M:=(bR.alloc nL _).trans (a4.mono zs);obtain ⟨ao,R⟩:=hqq2 (show TS M (Gw c b.heap.size) a j N q (-1) 0 from ⟨_,_,_,_,af.out.below D⟩) (ag.out.trans (kF D));have au:=R.size;have aJ:=S.out;have Q:=lhd B;clear a4 D B;rw [sZ0];go_wp2_with fail;have a5:aD3 j q:=⟨k.nodup_iff.2 zDl,λg ar=>zCj.1 (k.mem_iff.1 ar),λ_=>by rw [k.length_eq,zCi];exact zAs _⟩;refine (aBl (F:=(Gw c b.heap.size)) (gt:=a) (n:=j) (gb:=(f.heap.size+1)) (xs:=N) (fr:=q) (rt:=(-1)) (v:=0) (bs:=[d]) (w:=M) ao (λt ap=>.inr (zAk au ap)) (zj P.out) a5 Q zs).mono ?_;rintro u ab ⟨g,rfl,I,ay,X,J,⟨am,ad,ak,aw,i⟩,a9,av,K⟩;have aH:=i.rd.a.lt;have aC:=i.rd.a.frozen 2;have az:=i.rd.c2;have s:=i.ao (g:Int);have W:=s.rd.a.frozen 3;have V:=s.rd.c3;have L:=s.ab 1;have a3:Bk ((ab.setCell ⟨a,2,none⟩ (.int .i64 g)).setCell ⟨a,3,none⟩ (.int .i64 1)) (f.heap.size+1) 250 (dL [d]):=by have C:=K.a _ _ zs Q.out;exact (C.m (p:=⟨a,2,none⟩) (Bk.ne C i.rd.a dC) _).m (p:=⟨a,3,none⟩) (Bk.ne C i.rd.a dC) _
 have ah:=lhd (uU (((R.out.trans K.keep).setCell (p:=⟨a,2,none⟩) (.inl (.inl a6)) (.int .i64 g)).setCell (p:=⟨a,3,none⟩) (.inl (.inl a6)) (.int .i64 1)));have a8:([g]++X).Perm (List.range I):=aAx (U:= []) k J;have a7:I<=200:=by have:=P.out;rcases J with ⟨_,u,_⟩|⟨x,_,_,aB⟩;omega;have a0:=k.length_eq;rw [x,zCi] at a0;have aF:0=j:=a0;omega
 have T:=lhd (show TreeEo ((ab.setCell ⟨a,2,none⟩ (.int .i64 g)).setCell ⟨a,3,none⟩ (.int .i64 1)) (Gw c b.heap.size) a (aOn none 0 d)/\_ from ⟨⟨am,ad,ak,I,ay,aw,X,_,_,L,a7,.inr ⟨.lf g (f.heap.size+1) [d],rfl,⟨a9,a3⟩,rfl,⟨by simp,by simp⟩,by simp [LT.len,LT.er,Tr.bits],a8,by simp [LT.blks],λaD aq=>.inr (by simp [LT.blks] at aq;omega)⟩⟩,L.rd.c3⟩);clear J i a9 av K s L a3 a8 a7 a5;go_wp2_with fail;go_ret;exact ⟨rfl,T.1,ah,1,by omega,T.2⟩
def aDD {f d b} (c) {a:Option Tr} {e} (g:TreeEo e f d a) (j:(cH a).length < 1100) (i:b<=(cH a).length):
 Calls prog 226 #[d,(b:Int),.bool c] e (aO0 f d b c a e):=by
 cases a with
 | none=>
  obtain rfl:b=0:=(by simpa [cH] using i);exact yS c g
 | some k=>exact yR c g j i
def aI5 {b:Option Tr} {a} (c) (d:a<=(cH b).length):cH (aOn b a c)=aT (cH b) a c:=by
 cases b with
 | none=>
  obtain rfl:a=0:=(by simpa [cH] using d);rfl
 | some e=>exact Tr.ins_bits e a c d
def aGZ (c:Option Tr) (b:Nat):Option Tr:=
 match c with
 | none=>none
 | some a=>if a.bits.length=1 then none else some (a.drp b)
def Tr.Ok.one {a:Tr} (c:a.Ok) (f:a.bits.length < 32):∃b,a=.lf b:=by
 cases a with
 | lf b=>exact ⟨b,rfl⟩
 | nd d e=>
  have:=aLz c.2;have:=Tr.lv_pos (.nd d e);omega
def aNG {c g j k e l} (v:j<=50000) {a:LT} {d s b} (n:TS b c g j k e l s) (p:a.In b k) (w:(a.nums++e).Perm (List.range j)) (t:a.blks.Nodup) (o:∀f,f∈a.blks->c f) (u:∀m,b.heap.size<=m->c m) (q:d < a.len) (i:a.er.Ok) (B:a.len<=1100):
 Calls prog 244 #[g,(a.num:Int),(d:Int)] b (pE c g j a k e l (a.bits.getD d false) (a.er.drp d) b):=by
 have A:a.ht<=a.len:=i.a4;cases a with
 | lf r f z=>exact aCp n p (o f (by simp [LT.blks])) i.2 q
 | nd r x y=>exact aBr c g k e l v (.nd r x y) d [] s b n p (by simpa using w) t o u q i.1 i.2 ⟨by omega,by omega⟩
def aPq (a:Nat->Prop) (g b:Nat) (c:Option Tr) (d:World) (f:Ending) (e:World):Prop:=f=.returned (.tuple #[.bool ((cH c).getD b false),o0])/\TreeEo e (Gw a d.heap.size) g (aGZ c b)/\Keep a d e
def aDE {l c g} {H:Option Tr} {j} (B:TreeEo j l c H) (W:g < (cH H).length):
 Calls prog 222 #[c,(g:Int)] j (aPq l c g H j):=by
 have av:=aCw B.at W;obtain ⟨aU,ap⟩:=eqx ((cH H).getD g false);have V:l c:=by obtain ⟨_,_,_,_,_,_,_,_,_,e,_⟩:=B;exact e.W
 obtain ⟨L,aF,K⟩:=hqq3 ap B W;clear B W ap;go_enter func222,ntmps222;go_wp2_with fail;refine av.mono ?_;rintro x w1 ⟨rfl,Z⟩;clear av;have o:=aF.b Z.1;have X:Keep (Gw l j.heap.size) j w1:=Z.2.mono λbJ _ x=>by rw [x];exact .inl V
 have aA:=X.size;obtain ⟨bq,ba,bl,q,b9,bG,aY,bF,b8,A,ag,⟨P,_,_⟩|⟨f,P,aw,rfl,ai,aj,ak,al,am⟩⟩:=o;subst P;exact absurd K (Nat.not_lt_zero _);subst P;have bi:=A.rd.c2;have bu:=A.rd.a.lt;have an:TS w1 (Gw l j.heap.size) c q b9 aY (f.num:Int) b8:=⟨_,_,_,_,A.mono (G:=Gw l j.heap.size) λN _ aW=>.inl aW⟩;obtain ⟨aH,aL,aM,J,a1,a2,aG,a3,w⟩:=hqq9 an aw X ai aj ak al am ag;clear an aw X ai aj ak al am A ag Z;go_wp2_with fail;refine (aNG (zj w.out) aH aL a2 aG (λe U=>.inl (a3 e U)) (λN i=>.inr (zAk aA i)) K J a1).mono ?_;rintro x k ⟨d,I,z,bH,rfl,⟨Q,bb,O,b7,a⟩,v,r,aB,aC,aD,b6,aE⟩;rw [show f.bits.getD g false=aU from L.out];obtain ⟨ah,bn,rfl,S⟩:=a.rd.ex (zj (r.at.lt a.rd.len));have E:g < f.er.bits.length:=K;have aq:(f.er.drp g).bits.length+1=f.er.bits.length:=by rw [Tr.drp_bits _ _ E];have:=cJ E;omega
 obtain ⟨bc,bd,be,bf,a0,y⟩:=d.R;obtain ⟨n,T⟩:=eqx d.len;rw [T] at y;obtain ⟨_,_,_,ae,_⟩:=a.rd.at (show At8 I d.num [_,_,_,_,_,_,_,_] from y ▸ r.at);obtain ⟨b,u⟩:=eqx d.num;have b1:b < q:=zj (r.at.lt a.rd.len)
 have bz:((b:Nat):Int) < q:=oM;rw [u] at ae;rw [u];have bv:=a.rd.a.lt;have bt:=S.lt;have aX:=a.rd.a.frozen 2;have bC:=Bk.ne a.rd.a S dC;have aV:=a.rd.c1;have bh:=a.rd.c0;have bj:=a.rd.c2;have m:=lhd (a.ao (b:Int));have a9:=lhd (r.keep (w':=k.setCell ⟨c,2,none⟩ (.int .i64 b)) (λ_ _ _ t=>t) λe _ bm i=>i.m (p:=⟨c,2,none⟩) (Bk.ne i a.rd.a dC) _);have D:=((aM.trans aE.keep).setCell (p:=⟨c,2,none⟩) (.inl (.inl V)) (.int .i64 b));have b4:=D.size;have ad:(k.setCell ⟨c,2,none⟩ (.int .i64 b)).cell? ⟨c,1,none⟩=some (.slice (some ah) q O):=m.rd.c1;have ac:(k.setCell ⟨c,2,none⟩ (.int .i64 b)).cell? c=some (.pointer (some Q)):=m.rd.c0;have af:(k.setCell ⟨c,2,none⟩ (.int .i64 b)).cell? ⟨ah,b*8+3,none⟩=some (.int .i64 n):=by obtain ⟨_,_,_,n,_⟩:=m.rd.at (show At8 I d.num [_,_,_,_,_,_,_,_] from y ▸ r.at);rw [u] at n;exact n
 have Y:k.heap.size=(k.setCell ⟨c,2,none⟩ (.int .i64 b)).heap.size:=by simp [World.setCell]
 obtain ⟨ab,R⟩:=eqx (k.setCell ⟨c,2,none⟩ (.int .i64 b));rw [R] at m a9 D b4 ad ac af Y;obtain ⟨a4,aQ,a6,s,aa,aR⟩:=hqq6 R Y D v (aB.trans a2.out) aC;have aS:=lhd (λe U=>(aD e U).elim (λt=>.inl (a3.out e t)) λt=>.inr (zAk aA t):∀e,e∈d.blks->Gw l j.heap.size e);obtain ⟨M,a8,a5,aP⟩:=hqq4 T u aq E;have bx:=m.rd.a.lt;clear R Y D a v r aB aC aD b6 aE T u aq E S y;rcases zBa n with ar | ar
 .subst ar;have o:f.er.bits.length=1:=(by have:=a5.out;have:=M.out;rw [show d.len=d.er.bits.length from rfl,s.out] at this;omega);have C:aGZ (some f.er) g=none:=(by unfold aGZ;simp [o]);have az:d.nums= [b]:=by
   have:=a8.out;obtain ⟨N,i⟩:=J.one oM;cases d with
   | lf b5 bp bg=>simpa [LT.nums,LT.num] using this
   | nd b5 bD bE=>
    have:=s.out;rw [i] at this;cases this
  have F:=aa.out;rw [az] at F;have b2:b∉z:=(by have:=F.nodup_iff.2 zDl;rw [zFp,zDe] at this;exact this.1);have au:Bk (ab.alloc (.cells #[(b:Int)] 3)) k.heap.size 3 #[(b:Int)]:=(by rw [aQ.out];exact kd ab _ _);have ao:=m.below (bR.alloc nL (.cells #[(b:Int)] 3));have ax:=a6.alloc (.cells #[(b:Int)] 3);obtain ⟨aK,aI,aN,aJ,a7⟩:=hqq5 au ao ax C F;clear au ao ax C F az o;go_wp2_with fail;rw [a4.out];have b0:z.length<=1000000:=(by have o:=a7.length_eq;have br:=w.out;simp only [zAi,zCi] at o;omega);refine (aMn aI (λN i=>.inr (by rw [sZ0] at i;omega)) b1 b2 aK b0).mono ?_;rintro x bI ⟨rfl,a,v⟩;have bo:=a.rd.a.frozen 2;have bk:=a.rd.c2;have bw:=a.rd.a.lt;have aT:=lhd (a.ao (-1));have aO:=lhd (uU ((aN.out.trans v.keep).setCell (p:=⟨c,2,none⟩) (.inl (.inl V)) (.int .i64 (-1))));clear a v ad ac af ae aV aX;go_wp2_with fail;go_ret2;refine ⟨by rw [L.out];rfl,?_,aO⟩;rw [aJ.out];exact ⟨Q,_,O,q,I,_,z++ [b],_,_,aT,w,.inl ⟨rfl,rfl,(zGb).trans a7⟩⟩
 .have bs:((n:Int)==0)=false:=(by rw [zCb];omega);go_wp2_with fail;rw [a4.out];go_ret2;have bA:=a5.out;have aZ:d.er.bits.length=n:=M;rw [s.out] at aZ;have ay:f.er.bits.length≠1:=oM;have C:aGZ (some f.er) g=some d.er:=(by unfold aGZ;simp only [];rw [zBw ay,s.out]);have b3:d.er.Ok:=(by rw [s.out];exact Tr.drp_ok _ _ aP J ay);have bB:f.er.bits.length<=1100:=a1;refine ⟨by rw [L.out];rfl,?_,uU a6⟩;rw [C];exact ⟨Q,_,O,q,I,b7,z,_,_,m,w,.inr ⟨d,rfl,a9,by rw [a8.out],b3,by rw [M.out];omega,aa,aR,aS⟩⟩
def aJj {b:Option Tr} {a} (d:a < (cH b).length):cH (aGZ b a)=aK (cH b) a:=by
 cases b with
 | none=>exact absurd d (Nat.not_lt_zero _)
 | some c=>
  have e:a < c.bits.length:=d;have g:=cJ e;unfold aGZ;simp only [];split
  .rename_i f
   exact (zBk (by show (aK c.bits a).length=0;omega)).symm
  exact Tr.drp_bits c a e
def aAZ {d e b a c} (f:TreeE c d e a) (j:b < a.length):
 Calls prog 222 #[e,(b:Int)] c λi g=>i=.returned (.tuple #[.bool (a.getD b false),o0])/\TreeE g (Gw d c.heap.size) e (aK a b)/\Keep d c g:=by
 obtain ⟨n,rfl,f⟩:=f;refine (aDE f j).mono ?_;rintro i g ⟨k,l,m⟩;exact ⟨k,⟨_,aJj j,l⟩,m⟩
def bS (a:List Nat) (b:Nat):Nat:=a.getD ((b+a.length - 1)% a.length) 0
def aH (a b:List Nat):List Nat:=b.map (bS a)
def bY (b a):(aH b a).length=a.length:=by simp [aH]
def aKQ {a} (d:∀e∈a,e < 257) (b):bS a b < 257:=by
 unfold bS;rw [zAb];cases c:a[(b+a.length - 1)% a.length]? with
 | none=>simp
 | some f=>simpa using d f (zAd c)
def dR {b rs} (c:∀a∈b,a < 257):∀a∈aH b rs,a < 257:=by
 intro a d;obtain ⟨e,_,rfl⟩:=zAy.1 d;exact aKQ c e
def aII (a:Nat) (i:a<=1000000) (b):(Instr.makeSlice 27 (.int .i64 0) (.int .i64 a)).run prog b=.ok (.slice (some b.heap.size) 0 a) (b.alloc (.cells (madeCells #[o0] a) 3)):=by
 obtain ⟨g,c,d,e,f⟩:=info_parts gI;have:=run_make (P:=prog) b 27 3 g (.int .i64 0) underlying27 c d .i64 .i64 0 a oM oM (by rw [f];omega) oM;rw [this,e];simp only [Value.cells,zBr,zBl];rfl
def aEH {a c k j b l row} (f:Rd a a.heap.size k b j l) (i:a.grownBy c row) (n:∀d,b=some d->row≠some d.block):Rd c c.heap.size k b j l:=by
 refine ⟨f.1,λp=>?_⟩;obtain ⟨e,s,rfl,g,o⟩:=f.2 p;refine ⟨e,s,rfl,zAl g i.size,λr t q=>?_⟩;rw [zDd (w:=a) (i.block e g (λm=>n _ rfl m.symm))];exact o r t q
def Apt (c:Value) (b:Option Addr):Prop:=∀a,b=some a->c.ownBlock≠some a.block
def Apt.next {i e c f} (j:Apt i c) (l:e.ownBlock=i.ownBlock∨e.ownBlock=some f) (k:∀a,c=some a->a.block < f):Apt e c:=by
 intro a g b;rcases l with d | d;exact j a g (d.symm.trans b);rw [d] at b;injection b with b;have:=k a g;omega
def qO {A m} (n) {B t w} (O:Rd w B 1 A m (t.map bv)) (hB:B<=w.heap.size) (aw:m<=895):
 Calls prog 94 #[.slice A m n] w λC a6=>∃g j k,IsSuf (aG t) g/\C=.returned (.slice j (m+1) k)/\Made a6 w.heap.size 3 1 j (m+1) k ((aH (aG t) g).map sv)/\Below w.heap.size w a6:=by
 obtain ⟨aJ,aq,aE,aF,aI⟩:=info_parts gI;have aD:t.length=m:=by simpa using O.1
 go_enter func94,ntmps94;go_wp2_with fail;obtain ⟨a,v⟩:=eqx (m+1);have S:=aA2 (gs:=w.heap.size) (A:=A) (m:=m) (c:=n) (B:=w.heap.size) (t:=t) (w:=(w.alloc (.cells #[.slice A m n] 22))) 0 (kd _ _ _) ((O.mono hB).alloc nL _) zs oM;have R:=λa0 (l:Below w.heap.size w a0)=>qN (A:=A) (m:=m) (B:=w.heap.size) (t:=t) (w:=a0) n ((O.mono hB).below l) l.size aw;simp only [v] at S R;have aU:a<=896:=oM;have aT:1<=a:=oM;have G:(aG t).length=a:=by rw [aO,aD,v]
 refine S.mono ?_;clear S;rintro C w1 ⟨x,aN,rfl,H,a2⟩;have r:=((kg w.heap.size w).alloc nL _).trans (a2.mono zs);have aK:=aII a oM;clear a2;go_wp2_with fail;clear aK;have p:=r.alloc r.size (.cells (madeCells #[o0] a) 3);have I:=H.below (bR.alloc nL (.cells (madeCells #[o0] a) 3));have f:(w1.alloc (.cells (madeCells #[o0] a) 3)).ownsRow w.heap.size 3 1 (.slice (some w1.heap.size) 0 a) 0 []:=zFK _ _ _ r.size zx (by simp [madeCells]);obtain ⟨o,E⟩:=eqx w1.heap.size;have ap:o < (w1.alloc (.cells (madeCells #[o0] a) 3)).heap.size:=by rw [<-E];simp
 have af:Apt (.slice (some o) 0 a) x:=by
  intro b d l;obtain ⟨a8,ad,i,_,D⟩:=aZ H.own;injection i with i;have:=(D b (i.symm.trans d)).2;have ah:o=b.block:=by simpa [Value.ownBlock] using l
  omega
 rw [E] at f⊢;generalize w1.alloc (.cells (madeCells #[o0] a) 3)=W2 at p I f ap⊢;have Z:=f;clear f H r E;refine (R W2 p).mono ?_;rintro C b4 ⟨g,y,aQ,T,rfl,J,s⟩;have ai:=p.trans (s.mono p.size);have az:=aP Z s;have a3:=I.below s;have ag:Apt (.slice (some o) 0 a) y:=by
  intro b d l;obtain ⟨a8,ad,i,_,D⟩:=aZ J.own;injection i with i;have:=(D b (i.symm.trans d)).1;have ah:o=b.block:=by simpa [Value.ownBlock] using l
  omega
 have aa:=J.rd;have a9:=a3.rd;clear J a3 s p Z I R;go_wp2_with fail;go_loopw [4,6,16] (λY _ W wr=>∃e:Nat,e<=a/\W=.int .i64 e/\wr.ownsRow w.heap.size 3 1 Y e ((aH (aG t) (g.take e)).map sv)/\Below w.heap.size w wr/\Apt Y x/\Apt Y y/\Rd wr wr.heap.size 1 x a ((aG t).map sv)/\Rd wr wr.heap.size 1 y a (g.map sv)) (λ_ _ W _=>a -(intOf W).toNat)
 case atStart=>exact ⟨0,by omega,rfl,az,ai,af,ag,a9,aa⟩
 case round=>
  obtain ⟨e,aS,rfl,f,u,L,M,P,Q⟩:=hrel;by_cases av:e < a
  .obtain ⟨ab,aL,b0,rfl,aj,U,am⟩:=Q.get av;rw [zAf] at U;obtain ⟨q,K,rfl⟩:=zEF.1 U;have aV:q < a:=(by have:=T.lt (zAd K);rw [G] at this;exact this);obtain ⟨X,N⟩:=eqx ((q+a - 1)% a);have aB:X < a:=(by rw [<-N];exact zFG _ oM);obtain ⟨ac,aM,b1,rfl,ak,V,an⟩:=P.get aB;rw [zAf] at V;obtain ⟨a7,a5,rfl⟩:=zEF.1 V;have a4:bS (aG t) q=a7:=(by unfold bS;rw [G,N,zAb,a5];rfl);have aC:aH (aG t) (g.take (e+1))=aH (aG t) (g.take e)++ [a7]:=(by rw [zAv,K,aH,zAz,<-a4];rfl);unfold sv at am an;have aA:((q:Int)+a - 1)%(a:Int)=X:=(by rw [<-N,Int.natCast_emod];congr 1;omega);have aW:((q:Int)+a - 1).tmod (a:Int)=(X:Int):=(by rw [zDA oM];exact aA);clear U V a5 a4 K;go_wp2_with (at_builtin;refine bP _ rfl (.tmp 20) (.tmp 32) _ rfl w.heap.size 3 aJ (.int .i64 0) 1 8 underlying27 aq aE aF aI rfl dC _ e _ rfl f rfl rfl (by simp [Value.oneCell']) zx oM u.size ?_;intro b2 b3 ay F aY a1);have al:=aX u f F u.size;have ar:∀b,some (⟨ac,aM,none⟩:Addr)=some b->b.block < _:=λb d=>by injection d with d;subst d;exact ak
   have au:∀b,some (⟨ab,aL,none⟩:Addr)=some b->b.block < _:=λb d=>by injection d with d;subst d;exact aj
   go_roundw
   case rel=>refine ⟨e+1,by omega,by go_num,?_,al,L.next a1 (λb d=>Nat.lt_succ_of_lt (ar b d)),M.next a1 (λb d=>Nat.lt_succ_of_lt (au b d)),aEH P F L,aEH Q F M⟩;rw [aC,zAz];exact ay
   case measure=>exact zr
  .obtain rfl:a=e:=oM;rw [zAg (by rw [T.len,G];omega)] at f;obtain ⟨j,k,rfl,ax⟩:=aR f;clear f L M P Q;go_wp2_with fail;go_ret;have ao:∀z,Made wr w.heap.size 3 1 j a k z->Made wr w.heap.size 3 1 j (m+1) k z:=λz ae=>by rw [v];exact ae
   exact ⟨g,j,k,T,by rw [v];rfl,ao _ ax,u⟩
end Go.Proofs.YtknjfpcdhdmghaaGreatDoor
