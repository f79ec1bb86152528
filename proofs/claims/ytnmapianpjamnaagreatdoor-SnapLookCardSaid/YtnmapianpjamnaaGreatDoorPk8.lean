/- Lemmas of the walk. Conditions: each its own. -/
import Derived.Test.YtnmapianpjamnaaGreatDoorPk6
import Derived.Test.YtnmapianpjamnaaGreatDoorProg
set_option linter.all false
set_option maxRecDepth 100000
set_option maxHeartbeats 4000000
namespace Go.Proofs.YtnmapianpjamnaaGreatDoor
open Tryz
open Go.RowKit
def zU:(prog.info? 220).map (fun a=>(a.zero,a.size,a.bytes))=some (some (.agg #[.int .i64 0,.int .i64 0,.int .i64 0,.int .i64 0,.int .i64 0,.int .i64 0,.int .i64 0,.pointer none]),8,64):=by kernel_rfl
def tR {w:World} {a c:Nat} {d:TypeId} {cs:Array Value} (b:Bk w a d cs) (e:cs.size=c):Rd w w.heap.size c (some ⟨a,0,none⟩) 1 cs.toList:=by
 refine ⟨by rw [Nat.one_mul,<-e];simp,fun _=>⟨a,0,rfl,b.lt,fun g i f=>?_⟩⟩;rw [zBi,b.cell];simpa using f
def Got (n:Nat) (fr:List Nat) (a c:Nat) (b:List Nat):Prop:=(fr=b++ [a]/\c=n/\a < n)∨(fr= []/\b= []/\a=n/\c=n+1)
section
variable (F : Nat -> Prop) (gt ga : Nat) (A : Option Addr) (cap n : Nat) (xs : List Value) (tk : List Bool) (fr : List Nat) (rt v : Int) (a0 a1 a2 a3 a4 a5 a6 : Int) (p : Option Addr) (w : World) (R : Nat -> World -> Prop)
def aBf (d:TX w F gt ga A cap n xs tk [] rt v) (aL:∀a,w.heap.size<=a->F a) (aR:n<=100000)
 (aK:∀k b4 av b9 bp ac bT w1,Got n [] k b4 av->TX w1 F gt ga b9 bp b4 ac bT av rt v->At8 ac k [.int .i64 a0,.int .i64 a1,.int .i64 a2,.int .i64 a3,.int .i64 a4,.int .i64 a5,.int .i64 a6,.pointer p]->But8 k xs ac->LK F [] w w1->Calls prog 235 #[gt,(k:Int)] w1 fun b w'=>b=.returned (.tuple #[])/\R k w'):
 Calls prog 231 #[gt,.agg #[.int .i64 a0,.int .i64 a1,.int .i64 a2,.int .i64 a3,.int .i64 a4,.int .i64 a5,.int .i64 a6,.pointer p]] w fun b w'=>∃k,b=.returned (.int .i64 ((k:Nat):Int))/\R k w':=by
 obtain ⟨bP,bF,bM,bN,bO⟩:=info_parts zU;obtain ⟨Y,Z,ad,au,V,b5,b6,b7,b8⟩:=d.ar.2;have W:=V.alloc (.cells #[.int .i64 a0,.int .i64 a1,.int .i64 a2,.int .i64 a3,.int .i64 a4,.int .i64 a5,.int .i64 a6,.pointer p] 220);have X:=aF b5 (bR.alloc nL (.cells #[.int .i64 a0,.int .i64 a1,.int .i64 a2,.int .i64 a3,.int .i64 a4,.int .i64 a5,.int .i64 a6,.pointer p] 220));rw [d.tkn] at W X;have aZ:=lI 0 ga Y Z ad au n tk _ W X (zAp _) oM;have c1:=d.rd.blk.lt;have bZ:=V.lt;have aH:=d.rd.blk.alloc (.cells #[.int .i64 a0,.int .i64 a1,.int .i64 a2,.int .i64 a3,.int .i64 a4,.int .i64 a5,.int .i64 a6,.pointer p] 220);have aY:=aF d.rd.row (bR.alloc nL (.cells #[.int .i64 a0,.int .i64 a1,.int .i64 a2,.int .i64 a3,.int .i64 a4,.int .i64 a5,.int .i64 a6,.pointer p] 220));have c5:gt≠ga:=Bk.ne d.rd.blk V dC;have b2:=Bk.new w 220 #[.int .i64 a0,.int .i64 a1,.int .i64 a2,.int .i64 a3,.int .i64 a4,.int .i64 a5,.int .i64 a6,.pointer p];have bD:=d.rd.c0;have bm:=lhd (fun a (b:(Value.slice A n cap).ownBlock=some a)=>(d.rd.row.lt a b).2);obtain ⟨ap,ag,ao,aq,am,ae,af,t,bn⟩:=hqq9 aZ aH aY b2 d.own d.fg d.ar.1 d.tkn d.tkv;obtain ⟨bf,ai,bj,an,bl,bi,bh⟩:=hqq7 aK aL (aF b6 (bR.alloc nL (.cells #[.int .i64 a0,.int .i64 a1,.int .i64 a2,.int .i64 a3,.int .i64 a4,.int .i64 a5,.int .i64 a6,.pointer p] 220))) b7 b8 X W;have aM:LK F [] w (w.alloc (.cells #[.int .i64 a0,.int .i64 a1,.int .i64 a2,.int .i64 a3,.int .i64 a4,.int .i64 a5,.int .i64 a6,.pointer p] 220)):=LK.below (bR.alloc nL _);have aj:=lhd aM;clear aZ aH aY b2 aK aL V b5 b6 b7 b8 W X d aM;go_enter func231,ntmps231;go_wp2_with fail;obtain ⟨j,bE⟩:=eqx w.heap.size;refine ap.out.mono ?_;rintro b w1 ⟨rfl,y,c8,az,a9,b1⟩;clear ap;have J:∀a K cs,Bk (w.alloc (.cells #[.int .i64 a0,.int .i64 a1,.int .i64 a2,.int .i64 a3,.int .i64 a4,.int .i64 a5,.int .i64 a6,.pointer p] 220)) a K cs->K≠228->K≠4->¬(a=ga∨(Value.slice Y n Z).ownBlock=some a):=fun a K cs g u T b=>by rcases b with b | b;subst b;exact u (aU g bh.out).1;exact T (jA bi.out b g)
 have P:=y.bk ag.out (J _ _ _ ag.out dC dC);have aa:=aA (w':=w1) ao.out fun a cs _ g=>y.bk g (J _ _ _ g dC dC);have b3:Bk w1 j 220 #[.int .i64 a0,.int .i64 a1,.int .i64 a2,.int .i64 a3,.int .i64 a4,.int .i64 a5,.int .i64 a6,.pointer p]:=by rw [<-bE];exact y.bk aq.out (J _ _ _ aq.out dC dC)
 have aW:=aA (w':=w1) bj.out fun a cs _ g=>y.bk g (J _ _ _ g dC dC);have aw:∀a,a < (w.alloc (.cells #[.int .i64 a0,.int .i64 a1,.int .i64 a2,.int .i64 a3,.int .i64 a4,.int .i64 a5,.int .i64 a6,.pointer p] 220)).heap.size->(a=ga∨(Value.slice Y n Z).ownBlock=some a)->F a:=fun a _ b=>by rcases b with b | b;rw [b];exact af.out;have:=an.out a;rw [t.out] at this;exact this b
 have aN:LK F [] w w1:=aj.out.trans (LK.of y aw fun a cs b g=>J a _ cs g dC dC b);obtain ⟨ba,bq,ab,_,_⟩:=aJ a9;have aB:ArenaE w1 F ga (tk++ [true]) []:=by
  have a8:(tk++ [true]).length=n+1:=by rw [zAi,t.out];rfl
  refine ⟨af.out,ba,bq,ad,au,?_,?_,aW,fun a m=>?_,bl.out⟩;rw [a8,<-ab];exact az;rw [a8,<-ab];exact a9;rw [a8,<-ab] at m;rcases b1 with b |⟨l,b,Q⟩;have:=an.out a;rw [t.out] at this;exact this (b ▸ m);rw [m] at b;injection b with b;subst b;refine ai.out a ?_;rw [World.size_alloc] at Q;omega
 have aS:¬(Value.slice A n cap).ownBlock=some gt:=fun b=>absurd (jA aa b P) dC;have bK:=y.size;rw [World.size_alloc] at bK;have aT:¬(Value.slice A n cap).ownBlock=some j:=fun b=>by
  have:=ao.out.lt j b;have T:=(aj.out).keep.size;have bY:j < w.heap.size:=by rcases bm.out j b with bz;exact bz
  omega
 obtain ⟨ah,M,bo,ak,bd,al,bg⟩:=hqq7 P aa b3 aN aB aS aT;have c6:w1.cell? ⟨gt,1,none⟩=some (.slice A n cap):=(P.cell 1).trans rfl;have c2:=P.lt;clear P aa b3 aN aB aS aT aW aw az a9 b1 y J bD;go_wp2_with fail;refine wp_region_any kR ?_;refine eK 10 [22,23,24,25,26,27,28,29,30,31] (fun a=>(Value.slice A n cap).ownBlock=some a) 7 [7] (fun L=>L.ownsRow 0 220 8 (.slice A n cap) n xs) (fun v L=>L.ownsRow 0 220 8 v (n+1) (xs++ [.int .i64 a0,.int .i64 a1,.int .i64 a2,.int .i64 a3,.int .i64 a4,.int .i64 a5,.int .i64 a6,.pointer p])/\(v.ownBlock=(Value.slice A n cap).ownBlock∨∃l,v.ownBlock=some l/\w1.heap.size<=l)) [is gt,is gt,is gt,is (.pointer (some ⟨gt,1,none⟩)),is (.slice A n cap),is (.agg #[.int .i64 a0,.int .i64 a1,.int .i64 a2,.int .i64 a3,.int .i64 a4,.int .i64 a5,.int .i64 a6,.pointer p]),tV (fun a=>(Value.slice A n cap).ownBlock=some a) 220 #[.int .i64 a0,.int .i64 a1,.int .i64 a2,.int .i64 a3,.int .i64 a4,.int .i64 a5,.int .i64 a6,.pointer p] fun l=>.slice (some ⟨l,0,none⟩) 1 1,dU,is gt,is (.pointer (some ⟨gt,1,none⟩))] _ _ rfl dC kR kR kR M.out (fun L c9 d _ Q=>aF d Q) (fun _ _ _ ⟨u,T⟩ k=>⟨aF u k,T⟩) (by repeat' (first | exact kL _ _ | exact gZ _ | exact nV _ _ _ _ |(refine zAe.2 ⟨?_,?_⟩)|(intro p bH;cases bH))) ?_ ?_
 · refine dG ?_;refine pH3 0 (.pointer (some gt)) ?_;refine pH3 0 (.pointer (some gt)) ?_;refine pV3 1 23 ?_;refine pV3 2 24 ?_;refine pL3 3 25 (fun e c=>have c:Keep (fun a=>(Value.slice A n cap).ownBlock=some a) w1 e:=kD c;(((c.bk ah.out al.out).cell 1).trans rfl:e.cell? ⟨gt,1,none⟩=some (.slice A n cap))) ?_;refine sC3 (fun E e c _ _ _ bG _ _ _ _ x=>?_) ?_
   · replace c:Keep (fun a=>(Value.slice A n cap).ownBlock=some a) w1 e:=kD c;have bW:E (.tmp 3)=.pointer (some ⟨j,0,none⟩):=bG 3 kR;have r:=c.bk bo.out bg.out;have cb:e.cell? ⟨j,0,none⟩=some (.int .i64 a0):=(r.cell 0).trans rfl;have cc:e.cell? ⟨j,1,none⟩=some (.int .i64 a1):=(r.cell 1).trans rfl;have cd:e.cell? ⟨j,2,none⟩=some (.int .i64 a2):=(r.cell 2).trans rfl;have ce:e.cell? ⟨j,3,none⟩=some (.int .i64 a3):=(r.cell 3).trans rfl;have cf:e.cell? ⟨j,4,none⟩=some (.int .i64 a4):=(r.cell 4).trans rfl;have cg:e.cell? ⟨j,5,none⟩=some (.int .i64 a5):=(r.cell 5).trans rfl;have ch:e.cell? ⟨j,6,none⟩=some (.int .i64 a6):=(r.cell 6).trans rfl;have ci:e.cell? ⟨j,7,none⟩=some (.pointer p):=(r.cell 7).trans rfl;go_simp;exact kq x rfl
   refine sC3 (fun _ e c _ _ _ _ q _ _ _ x=>?_) ?_
   · replace c:Keep (fun a=>(Value.slice A n cap).ownBlock=some a) w1 e:=kD c;have bV:_=_:=q 5 27 kR rfl;go_simp;exact x _ _ (aC (bR.alloc nL _)) ⟨_,rfl,Bk.new _ _ _,fun d=>by have:=(M.out.lt _ d).2;have:=c.size;omega⟩
   refine sC3 (fun E e c bA _ _ _ q _ _ bB x=>?_) ?_;replace c:Keep (fun a=>(Value.slice A n cap).ownBlock=some a) w1 e:=kD c;have bI:=bA rfl;have bt:_=_:=q 4 26 kR rfl;have bQ:(tV (fun a=>(Value.slice A n cap).ownBlock=some a) 220 #[.int .i64 a0,.int .i64 a1,.int .i64 a2,.int .i64 a3,.int .i64 a4,.int .i64 a5,.int .i64 a6,.pointer p] fun l=>.slice (some ⟨l,0,none⟩) 1 1) (E (.tmp 28)) e:=q 6 28 kR rfl;obtain ⟨bx,bu,bC,c4⟩:=bQ;subst bB;have bL:=c.size;refine dN e (.tmp 26) (.tmp 28) _ rfl 0 220 bP _ 8 64 underlying203 bF bM bN bO rfl dC (.slice A n cap) n xs bt bI e.heap.size (some ⟨bx,0,none⟩) 1 1 _ bu (tR bC rfl) (by simp [Value.oneCell']) (by unfold maxLen;omega) oM (zAp _) ?_;intro c7 z I S O;refine x _ _ (cK ⟨S.os,S.tape,S.output,S.size,fun k g aR=>S.block k g (fun b=>aR b.symm)⟩) ⟨I,?_⟩;rcases O with a7 | a7;exact .inl a7;exact .inr ⟨_,a7,bL⟩;refine pV3 0 22 ?_;refine pV3 8 30 ?_;exact aP
 intro E z N c q;replace c:Keep (fun a=>(Value.slice A n cap).ownBlock=some a) w1 z:=kD c;have bS:(fun v L=>L.ownsRow 0 220 8 v (n+1) (xs++ [.int .i64 a0,.int .i64 a1,.int .i64 a2,.int .i64 a3,.int .i64 a4,.int .i64 a5,.int .i64 a6,.pointer p])/\(v.ownBlock=(Value.slice A n cap).ownBlock∨∃l,v.ownBlock=some l/\w1.heap.size<=l)) (E (.tmp 29)) z:=q 7 29 dC rfl;have bw:E (.tmp 31)=.pointer (some ⟨gt,1,none⟩):=q 9 31 dC rfl;simp only [zqq];rw [bw];clear q;obtain ⟨I,O⟩:=bS;obtain ⟨B,D,bv,_,_⟩:=aJ I;rw [bv] at I O⊢;have o:=c.bk ah.out al.out;have bU:z.cell? ⟨gt,1,none⟩=some (.slice A n cap):=(o.cell 1).trans rfl;have bX:=o.frozen 1;have c3:=o.lt;obtain ⟨C,H⟩:=eqx (z.setCell ⟨gt,1,none⟩ (.slice B (n+1) D));have aG:Bk C gt 205 #[ga,.slice B (n+1) D,.int .i64 rt,.int .i64 v]:=by rw [<-H];exact o.set 1 _
 have aX:C.ownsRow 0 220 8 (.slice B (n+1) D) (n+1) (xs++ [.int .i64 a0,.int .i64 a1,.int .i64 a2,.int .i64 a3,.int .i64 a4,.int .i64 a5,.int .i64 a6,.pointer p]):=by rw [<-H];exact aA I fun a cs _ m=>m.far (p:=⟨gt,1,none⟩) (Bk.ne m o dC) _
 have aD:=bd.out.keep c fun a K cs U g _ b=>by have bs:=jA M.out b g;subst bs;exact absurd U dC
 have aE:ArenaE C F ga (tk++ [true]) []:=by rw [<-H];refine aD.keep (G:=fun a=>a=gt) (Keep.setCell (F:=fun a=>a=gt) (Keep.refl _ _) (p:=⟨gt,1,none⟩) (.inl rfl) _) fun a K cs U g _ b=>?_;have br:a=gt:=b;subst br;rw [(aU g o).1] at U;exact absurd U dC
 have aO:LK F [] w1 z:=LK.of c (fun a _ b=>am.out a b) fun a cs b g=>absurd (jA M.out b g) dC;have aQ:LK F [] w C:=by rw [<-H];exact (ak.out.trans aO).trans (LK.set o dC ae.out _)
 have aV:OwnF F (.slice B (n+1) D):=fun a m=>by rcases O with b |⟨l,b,Q⟩;exact am.out a (b ▸ m);rw [m] at b;injection b with b;subst b;exact ai.out a (zAk ak.out.keep.size Q)
 have b0:∀s,s < n+1->(tk++ [true])[s]?=some (decide (s∉([]:List Nat))):=fun s bJ=>by
  rcases zBe s n with u | u
  · rw [zAn (by rw [t.out];exact u),bn.out s u]
  obtain rfl:s=n:=oM;rw [zAo (by rw [t.out];omega),t.out,Nat.sub_self];rfl
 have ay:TX C F gt ga B D (n+1) (xs++ [.int .i64 a0,.int .i64 a1,.int .i64 a2,.int .i64 a3,.int .i64 a4,.int .i64 a5,.int .i64 a6,.pointer p]) (tk++ [true]) [] rt v:=⟨ae.out,⟨aG,aX⟩,aV,aE,by rw [zAi,t.out];rfl,b0⟩;have aI:=bf.out n (n+1) [] B D (xs++ [.int .i64 a0,.int .i64 a1,.int .i64 a2,.int .i64 a3,.int .i64 a4,.int .i64 a5,.int .i64 a6,.pointer p]) _ C (.inr ⟨rfl,rfl,rfl,rfl⟩) ay (At8.new M.out.1 rfl) (fun s cs bJ d=>d.app _) aQ;obtain ⟨be,bc⟩:=hqq2 aI H;clear o I O H aG aX aD aE aO aQ aV b0 ay aI;change wpAny prog Region.Mode.any _ _ (1+N) (cE 10 11) _ z;rw [zCo 1 N];refine dI (f:=N) (i:=10) kR ?_;refine eE rfl rfl ?_;generalize x:wpAny prog _ _ _ N _=K5;go_simp;subst x;refine dW kR ?_;rw [bc.out];go_wp2_with fail;refine be.out.mono ?_;rintro b ca ⟨rfl,ax⟩;have bb:=lhd ax;clear ax;go_wp2_with fail;go_ret;exact ⟨n,rfl,bb.out⟩
def aBe (a:Nat) (f:TX w F gt ga A cap n xs tk (fr++ [a]) rt v) (ah:∀c,w.heap.size<=c->F c) (bs:n<=100000) (N:a < n) (ak:(fr++ [a]).Nodup) (aO:fr.length < n)
 (ag:∀B av a8 ax aH P aV w1,Got n (fr++ [a]) B av a8->TX w1 F gt ga ax aH av P aV a8 rt v->At8 P B [.int .i64 a0,.int .i64 a1,.int .i64 a2,.int .i64 a3,.int .i64 a4,.int .i64 a5,.int .i64 a6,.pointer p]->But8 B xs P->LK F [] w w1->Calls prog 235 #[gt,(B:Int)] w1 fun b w'=>b=.returned (.tuple #[])/\R B w'):
 Calls prog 231 #[gt,.agg #[.int .i64 a0,.int .i64 a1,.int .i64 a2,.int .i64 a3,.int .i64 a4,.int .i64 a5,.int .i64 a6,.pointer p]] w fun b w'=>∃a,b=.returned (.int .i64 ((a:Nat):Int))/\R a w':=by
 obtain ⟨e,b9,rfl,L⟩:=f.rd.ex oM;obtain ⟨t,aK,a9,J,ac⟩:=f.ar.own;have ai:Keep t w (w.alloc (.cells #[.int .i64 a0,.int .i64 a1,.int .i64 a2,.int .i64 a3,.int .i64 a4,.int .i64 a5,.int .i64 a6,.pointer p] 220)):=Keep.of_below (bR.alloc nL _);have x:=ac.keep (G:=fun _=>False) (Keep.of_below ((Below.refl w.heap.size w).alloc nL (.cells #[.int .i64 a0,.int .i64 a1,.int .i64 a2,.int .i64 a3,.int .i64 a4,.int .i64 a5,.int .i64 a6,.pointer p] 220))) (fun _ _ _ _ _ _ u=>u);have an:=uW t ga a tk fr _ x (by rw [f.tkn];exact N) (by rw [f.tkn];omega) (by rw [f.tkn];exact aO);have aw:∀c s cs,Bk w c s cs->s≠228->s≠4->s≠3->¬t c:=fun c s cs q D aI aJ aN=>by rcases a9 c s cs aN q with b | b | b;exact D b;exact aI b;exact aJ b
 have bn:=f.rd.blk.lt;have bi:=L.lt;have aM:=f.rd.c0;have aq:=Bk.new w 220 #[.int .i64 a0,.int .i64 a1,.int .i64 a2,.int .i64 a3,.int .i64 a4,.int .i64 a5,.int .i64 a6,.pointer p];have aR:¬t w.heap.size:=fun u=>by have:=J _ u;omega
 have bq:((a:Int)==(n:Int))=false:=by rw [zCa];omega
 have br:(a:Int) < (n:Int):=oM;have ao:tk.length=n:=f.tkn;obtain ⟨m,V,C,aC,aE,T,aB,b8,aD⟩:=hqq9 f an aw ai aq L ag ah ak;obtain ⟨Q,aL,W⟩:=hqq3 aK J ao;clear an aw ai aq ag ah ak a9 J ac x f L ao;go_enter func231,ntmps231;go_wp2_with fail;obtain ⟨k,aQ⟩:=eqx w.heap.size;refine V.out.mono ?_;rintro b w1 ⟨rfl,x,M⟩;clear V;have y:Keep t w w1:=aC.out.trans M;have H:=y.bk m.out.rd.blk (C.out _ _ _ m.out.rd.blk dC dC dC);have am:=aA (w':=w1) m.out.rd.row fun c cs _ q=>y.bk q (C.out _ _ _ q dC dC dC);have g:Bk w1 k 220 #[.int .i64 a0,.int .i64 a1,.int .i64 a2,.int .i64 a3,.int .i64 a4,.int .i64 a5,.int .i64 a6,.pointer p]:=by rw [<-aQ];exact M.bk aE.out aR
 have d:=y.bk T.out (C.out _ _ _ T.out dC dC dC);have z:LK F [] w w1:=LK.of y (fun c _ b=>Q.out c b) fun c cs b q=>by rcases zBe c w.heap.size with K | K;exact C.out c _ cs q dC dC dC b;exact absurd (aL.out c b) oM
 have ap:∀r,r < n->(tk.set a true)[r]?=some (decide (r∉fr)):=fun r al=>by
  have aS:a∉fr:=by have D:=aD.out;rw [List.nodup_append] at D;exact fun aU=>D.2.2 a aU a (by simp) rfl
  by_cases b:r=a
  · subst b;rw [List.getElem?_set_self (by rw [W.out];exact al)];simp [aS]
  · rw [List.getElem?_set_ne (fun aX=>b aX.symm),m.out.tkv r al];simp [b]
 have o:TX w1 F gt ga (some ⟨e,0,none⟩) cap n xs (tk.set a true) fr rt v:=⟨m.out.fg,⟨H,am⟩,m.out.own,x.mono fun c _ u=>Q.out c u,by rw [zAt];exact W.out,ap⟩;have aT:w1.cell? ⟨gt,1,none⟩=some (.slice (some e) n cap):=(H.cell 1).trans rfl;have bo:=H.lt;have bj:=d.lt;have bp:=g.lt;have aY:w1.cell? ⟨k,0,none⟩=some (.int .i64 a0):=(g.cell 0).trans rfl;have aZ:w1.cell? ⟨k,1,none⟩=some (.int .i64 a1):=(g.cell 1).trans rfl;have b0:w1.cell? ⟨k,2,none⟩=some (.int .i64 a2):=(g.cell 2).trans rfl;have b3:w1.cell? ⟨k,3,none⟩=some (.int .i64 a3):=(g.cell 3).trans rfl;have b4:w1.cell? ⟨k,4,none⟩=some (.int .i64 a4):=(g.cell 4).trans rfl;have b5:w1.cell? ⟨k,5,none⟩=some (.int .i64 a5):=(g.cell 5).trans rfl;have b6:w1.cell? ⟨k,6,none⟩=some (.int .i64 a6):=(g.cell 6).trans rfl;have b7:w1.cell? ⟨k,7,none⟩=some (.pointer p):=(g.cell 7).trans rfl;obtain ⟨S,I,U⟩:=hqq3 o d z;clear o d z H am g y M x ap aM;go_wp2_with fail
 go_still_tail 7,kR
 change wpList _ _ _ _ _ w1.drew;have E:Below w1.heap.size w1 w1.drew:=bR.drew;have o:=S.out.below E;have d:=I.out.below E I.out.lt;have z:=U.out.trans (LK.below (F:=F) (bl:= []) E);clear S I U E aT aY aZ b0 b3 b4 b5 b6 b7;generalize w1.drew=w2 at*
 have bm:=d.lt;obtain ⟨bt,bu,bv,bw,bx,bz,bA,bB,O⟩:=At8.ex o.rd.len N;obtain ⟨bD,bE,bF,bG,bH,bI,bJ,bK⟩:=o.rd.at O;have ba:=d.frozen (a*8);have bb:=d.frozen (a*8+1);have bc:=d.frozen (a*8+2);have bd:=d.frozen (a*8+3);have be:=d.frozen (a*8+4);have bf:=d.frozen (a*8+5);have bg:=d.frozen (a*8+6);have bh:=d.frozen (a*8+7);have ab:=(((((((o.put (a*8) (.int .i64 a0)).put (a*8+1) (.int .i64 a1)).put (a*8+2) (.int .i64 a2)).put (a*8+3) (.int .i64 a3)).put (a*8+4) (.int .i64 a4)).put (a*8+5) (.int .i64 a5)).put (a*8+6) (.int .i64 a6)).put (a*8+7) (.pointer p);have ad:=(((((((O.set (j:=0) oM (.int .i64 a0)).set (j:=1) oM (.int .i64 a1)).set (j:=2) oM (.int .i64 a2)).set (j:=3) oM (.int .i64 a3)).set (j:=4) oM (.int .i64 a4)).set (j:=5) oM (.int .i64 a5)).set (j:=6) oM (.int .i64 a6)).set (j:=7) oM (.pointer p);have ae:=(((((((But8.set a xs (j:=0) oM (.int .i64 a0)).trans (But8.set a _ (j:=1) oM (.int .i64 a1))).trans (But8.set a _ (j:=2) oM (.int .i64 a2))).trans (But8.set a _ (j:=3) oM (.int .i64 a3))).trans (But8.set a _ (j:=4) oM (.int .i64 a4))).trans (But8.set a _ (j:=5) oM (.int .i64 a5))).trans (But8.set a _ (j:=6) oM (.int .i64 a6))).trans (But8.set a _ (j:=7) oM (.pointer p));have aj:LK F [] w ((((((((w2.setCell ⟨e,a*8,none⟩ (.int .i64 a0)).setCell ⟨e,a*8+1,none⟩ (.int .i64 a1)).setCell ⟨e,a*8+2,none⟩ (.int .i64 a2)).setCell ⟨e,a*8+3,none⟩ (.int .i64 a3)).setCell ⟨e,a*8+4,none⟩ (.int .i64 a4)).setCell ⟨e,a*8+5,none⟩ (.int .i64 a5)).setCell ⟨e,a*8+6,none⟩ (.int .i64 a6)).setCell ⟨e,a*8+7,none⟩ (.pointer p)):=by have aP:F e:=OwnF.at m.out.own;have l:=fun (aF:World) (cs:Array Value) (au:Nat) (aW:Value) (K:Bk aF e 220 cs)=>LK.set (F:=F) (bl:= []) (i:=au) K dC aP aW;have b1:=d.set (a*8) (.int .i64 a0);have b2:=b1.set (a*8+1) (.int .i64 a1);have X:=b2.set (a*8+2) (.int .i64 a2);have Y:=X.set (a*8+3) (.int .i64 a3);have Z:=Y.set (a*8+4) (.int .i64 a4);have a7:=Z.set (a*8+5) (.int .i64 a5);have aG:=a7.set (a*8+6) (.int .i64 a6);exact (((((((z.trans (l _ _ _ _ d)).trans (l _ _ _ _ b1)).trans (l _ _ _ _ b2)).trans (l _ _ _ _ X)).trans (l _ _ _ _ Y)).trans (l _ _ _ _ Z)).trans (l _ _ _ _ a7)).trans (l _ _ _ _ aG)
 have af:=aB.out a n fr _ _ _ _ _ (.inl ⟨rfl,rfl,N⟩) ab ad ae aj;have az:=lhd af;clear af o ab ad ae aj z d O;go_wp2_with fail;refine az.out.mono ?_;rintro b bC ⟨rfl,aa⟩;have ay:=lhd aa;clear aa;go_wp2_with fail;go_ret;exact ⟨a,rfl,ay.out⟩
end
def TS (w:World) (F:Nat->Prop) (gt n:Nat) (xs:List Value) (fr:List Nat) (rt v:Int):Prop:=∃ga A cap tk,TX w F gt ga A cap n xs tk fr rt v
section
variable {w w' : World} {F G : Nat -> Prop} {gt ga cap n : Nat} {A : Option Addr} {xs ys : List Value} {tk : List Bool} {fr : List Nat} {rt v : Int}
def TX.row_new {b:Nat} (a:TX w F gt ga (some ⟨b,0,none⟩) cap n xs tk fr rt v) (f:Keep (fun c=>c=b) w w') (k:w'.ownsRow 0 220 8 (.slice (some b) n cap) n ys):TX w' F gt ga (some ⟨b,0,none⟩) cap n ys tk fr rt v:=by
 obtain ⟨l,d⟩:=iC a.rd.row;refine ⟨a.fg,⟨f.bk a.rd.blk (Bk.ne a.rd.blk d dC),k⟩,a.own,a.ar.keep f fun c m cs e j _ g=>?_,a.tkn,a.tkv⟩;have i:c=b:=g;subst i;rw [(aU j d).1] at e;exact absurd e dC
def TX.lk {c:Nat} (d:TX w F gt ga (some ⟨c,0,none⟩) cap n xs tk fr rt v) (i:Keep (fun a=>a=c) w w'):LK F [] w w':=by
 obtain ⟨j,f⟩:=iC d.rd.row;refine LK.of i (fun a _ b=>by rw [b];exact OwnF.at d.own) fun a cs b g=>?_;have e:a=c:=b;subst e;exact absurd (aU g f).1 dC
def TS.below (a:TS w F gt n xs fr rt v) (b:Below w.heap.size w w'):TS w' F gt n xs fr rt v:=by
 obtain ⟨ga,A,cap,tk,a⟩:=a;exact ⟨ga,A,cap,tk,a.below b⟩
def TS.len (a:TS w F gt n xs fr rt v):xs.length=n*8:=by
 obtain ⟨ga,A,cap,tk,a⟩:=a;exact a.rd.len
def TS.lt (a:TS w F gt n xs fr rt v):gt < w.heap.size:=by
 obtain ⟨ga,A,cap,tk,a⟩:=a;exact a.rd.blk.lt
def TS.blk {b:Nat} {cs:Array Value} (c:TS w F gt n xs fr rt v) (g:Bk w b 240 cs) (j:Keep (fun a=>a=b) w w'):TS w' F gt n xs fr rt v:=by
 obtain ⟨ga,A,cap,tk,c⟩:=c;refine ⟨ga,A,cap,tk,c.keep j fun a l k d i _ e=>?_⟩;have f:a=b:=e;subst f;rw [(aU i g).1] at d;exact absurd d dC
end
def KT (gt:Nat) (w w':World):Prop:=∀cs,Bk w gt 205 cs->Bk w' gt 205 cs
def KT.trans {gt:Nat} {w w1 w':World} (a:KT gt w w1) (c:KT gt w1 w'):KT gt w w':=fun cs b=>c cs (a cs b)
def KT.below {gt:Nat} {w w':World} (b:Below w.heap.size w w'):KT gt w w':=fun cs a=>a.below b a.lt
def KT.keep {gt a:Nat} {w w':World} {d:Array Value} (f:Keep (fun c=>c=a) w w') (e:Bk w a 220 d):KT gt w w':=fun cs b=>f.bk b (Bk.ne b e dC)
def aDj (F:Nat->Prop) (gt n b:Nat) (xs:List Value) (fr:List Nat) (rt v:Int) (cs:List Value) (w w':World):Prop:=∃a,TS w' F gt n a fr rt v/\At8 a b cs/\But8 b xs a/\LK F [] w w'/\KT gt w w'
def aBX (F:Nat->Prop) (gt n d c:Nat) (xs:List Value) (fr:List Nat) (rt v:Int) (b:List Bool) (w:World) (a:TS w F gt n xs fr rt v) {r s:Int} (g:At8 xs d (lA r s c)) (j:Bk w c 240 (gQ b)) (l:b.length<=128):
 Calls prog 235 #[gt,(d:Int)] w fun f w'=>f=.returned (.tuple #[])/\aDj F gt n d xs fr rt v (lA (b.length:Int) ((b.count true:Nat):Int) c) w w':=by
 obtain ⟨ga,A,cap,tk,a⟩:=a;obtain ⟨i,t,rfl,k⟩:=a.rd.ex (by have:=g.lt a.rd.len;omega);refine (aBq gt ga i cap n d c xs rt v b w a.rd g j l).mono ?_;rintro f w' ⟨rfl,e,ys,m,o,q⟩;exact ⟨rfl,ys,⟨ga,_,cap,tk,a.row_new e m⟩,o,q,a.lk e,KT.keep e k⟩
def aBW (F:Nat->Prop) (gt n f g k d e b i c j:Nat) (xs:List Value) (fr:List Nat) (rt v:Int) (w:World) (a:TS w F gt n xs fr rt v) {E K L I J:Int} (o:At8 xs f (ndL g k E K L I J))
 {a0 a1 a5 a6 y z B C:Int} {M N:Option Addr} (q:At8 xs g (uJ a0 a1 d b c a5 a6 M)) (r:At8 xs k (uJ y z e i j B C N))
 (b1:d<=1000000) (b2:e<=1000000) (s:b<=1000000) (t:i<=1000000) (u:c<=1000000) (x:j<=1000000):
 Calls prog 235 #[gt,(f:Int)] w fun m w'=>m=.returned (.tuple #[])/\aDj F gt n f xs fr rt v (ndL g k ((max d e+1:Nat):Int) ((b+i:Nat):Int) ((c+j:Nat):Int) b c) w w':=by
 obtain ⟨ga,A,cap,tk,a⟩:=a;obtain ⟨D,S,rfl,H⟩:=a.rd.ex (by have:=o.lt a.rd.len;omega);refine (aBp gt ga D cap n f g k d e b i c j xs rt v w a.rd o q r b1 b2 s t u x).mono ?_;rintro m w' ⟨rfl,l,ys,O,P,Q⟩;exact ⟨rfl,ys,⟨ga,_,cap,tk,a.row_new l O⟩,P,Q,a.lk l,KT.keep l H⟩
def aBV (n:Nat) (fr:List Nat):Prop:=fr.Nodup/\(∀a,a∈fr->a < n)/\(fr≠ []->fr.length<=n)
def xT (F:Nat->Prop) (gt n:Nat) (xs:List Value) (fr:List Nat) (rt v:Int) (cs:List Value) (w:World) (a:Nat) (w':World):Prop:=∃d b c,Got n fr a d c/\TS w' F gt d b c rt v/\At8 b a cs/\But8 a xs b/\LK F [] w w'
section
variable (F : Nat -> Prop) (gt n : Nat) (xs : List Value) (fr : List Nat) (rt v : Int) (a0 a1 a2 a3 a4 a5 a6 : Int) (p : Option Addr) (w : World) (cs : List Value)
def vF (f:TS w F gt n xs fr rt v) (s:∀l,w.heap.size<=l->F l) (u:n<=100000) (j:aBV n fr)
 (z:∀a e c d w1,Got n fr a e c->TS w1 F gt e d c rt v->At8 d a [.int .i64 a0,.int .i64 a1,.int .i64 a2,.int .i64 a3,.int .i64 a4,.int .i64 a5,.int .i64 a6,.pointer p]->But8 a xs d->LK F [] w w1->
  Calls prog 235 #[gt,(a:Int)] w1 fun b w'=>b=.returned (.tuple #[])/\aDj F gt e a d c rt v cs w1 w'):
 Calls prog 231 #[gt,.agg #[.int .i64 a0,.int .i64 a1,.int .i64 a2,.int .i64 a3,.int .i64 a4,.int .i64 a5,.int .i64 a6,.pointer p]] w fun b w'=>∃a,b=.returned (.int .i64 ((a:Nat):Int))/\xT F gt n xs fr rt v cs w a w':=by
 obtain ⟨ga,A,cap,tk,f⟩:=f
 have r:∀a e c g i d k w1,Got n fr a e c->TX w1 F gt ga g i e d k c rt v->At8 d a [.int .i64 a0,.int .i64 a1,.int .i64 a2,.int .i64 a3,.int .i64 a4,.int .i64 a5,.int .i64 a6,.pointer p]->But8 a xs d->LK F [] w w1->
  Calls prog 235 #[gt,(a:Int)] w1 fun b w'=>b=.returned (.tuple #[])/\xT F gt n xs fr rt v cs w a w':=fun a e c g i d k w1 m x y o q=>by
  refine (z a e c d w1 m ⟨ga,g,i,k,x⟩ y o q).mono ?_;rintro b w' ⟨rfl,ys,B,C,D,E,_⟩;exact ⟨rfl,e,ys,c,m,B,C,o.trans D,q.trans E⟩
 rcases List.eq_nil_or_concat fr with b |⟨c,a,b⟩;subst b;exact aBf F gt ga A cap n xs tk rt v a0 a1 a2 a3 a4 a5 a6 p w _ f s u r;rw [List.concat_eq_append] at b;subst b;have t:=j.2.2 (by simp);rw [zAi] at t;exact aBe F gt ga A cap n xs tk c rt v a0 a1 a2 a3 a4 a5 a6 p w _ a f s u (j.2.1 a (by simp)) j.1 (by simp only [zCe,List.length_nil] at t;omega) r
end
def aBR (F:Nat->Prop) (gt n a:Nat) (xs:List Value) (fr:List Nat) (rt v:Int) (c:List Bool) (w:World) (k:TS w F gt n xs fr rt v) (m:∀d,w.heap.size<=d->F d) (q:n<=100000) (r:aBV n fr) (l:Bk w a 240 (gQ c)) (o:c.length<=128):
 Calls prog 192 #[gt,a] w fun e w'=>∃b,e=.returned (.int .i64 ((b:Nat):Int))/\xT F gt n xs fr rt v (lA (c.length:Int) ((c.count true:Nat):Int) a) w b w':=by
 go_enter func192,ntmps192;go_wp2_with fail;refine (vF F gt n xs fr rt v (-1) (-1) 0 0 0 0 0 (some ⟨a,0,none⟩) w _ k m q r fun b t f u w1 x g i y j=>aBX F gt t b a u f rt v c w1 g i (j.blk a _ (by simp) l) o).mono ?_;rintro e w1 ⟨b,rfl,s⟩;go_wp2_with fail;go_ret;exact ⟨b,rfl,s⟩
def aBP (F:Nat->Prop) (gt n b c j k d m e o:Nat) (xs:List Value) (fr:List Nat) (rt v:Int) (w:World) (y:TS w F gt n xs fr rt v) (P:∀t,w.heap.size<=t->F t) (S:n<=100000) (T:aBV n fr) (Q:b∉fr) (V:c∉fr)
 {a0 a1 a5 a6 J K L M:Int} {X Y:Option Addr} (r:At8 xs b (uJ a0 a1 j d e a5 a6 X)) (s:At8 xs c (uJ J K k m o L M Y))
 (b1:j<=1000000) (b2:k<=1000000) (D:d<=1000000) (E:m<=1000000) (H:e<=1000000) (I:o<=1000000):
 Calls prog 221 #[gt,(b:Int),(c:Int)] w fun f w'=>∃a,f=.returned (.int .i64 ((a:Nat):Int))/\xT F gt n xs fr rt v (ndL b c ((max j k+1:Nat):Int) ((d+m:Nat):Int) ((e+o:Nat):Int) d e) w a w':=by
 have W:=y.len;have B:∀a l g q cs,Got n fr a l g->q∉fr->At8 xs q cs->q≠a:=fun a l g q cs N z C f=>by rcases N with ⟨i,_,_⟩|⟨_,_,u,_⟩;rw [i] at z;exact z (by simp [f]);have:=C.lt W;omega
 go_enter func221,ntmps221;go_wp2_with fail;refine (vF F gt n xs fr rt v b c 0 0 0 0 0 none w _ y P S T fun a l g Z w1 i O u x a7=>aBW F gt l a b c j k d m e o Z g rt v w1 O u (x _ _ (B _ _ _ _ _ i Q r) r) (x _ _ (B _ _ _ _ _ i V s) s) b1 b2 D E H I).mono ?_;rintro f w1 ⟨a,rfl,U⟩;go_wp2_with fail;go_ret;exact ⟨a,rfl,U⟩
def aAm (b:Nat) (c:List Bool):Value->World->Prop:=fun v w=>∃a,v=.tuple #[.pointer (some ⟨a,0,none⟩),.int .i64 0]/\Bk w a 240 (gQ c)/\b<=a
def aBL (b:Nat) (c:List Bool):Value->World->Prop:=fun v w=>∃a,v=.pointer (some ⟨a,0,none⟩)/\Bk w a 240 (gQ c)/\b<=a
def zC (a:Nat) (b:List Bool):uX (fun _=>False) (aAm a b):=fun _ _ _ ⟨c,e,f,g⟩ i=>⟨c,e,i.bk f (fun d=>d),g⟩
def zD (a:Nat) (b:List Bool):uX (fun _=>False) (aBL a b):=fun _ _ _ ⟨c,e,f,g⟩ i=>⟨c,e,i.bk f (fun d=>d),g⟩
def zG:∀w,(sizeOf 4).run prog w=.ok 1 w:=fun w=>by kernel_rfl
def aCE {a b c:Nat} (e:a*b=c) (f:c<=4000000):IntKind.i64.wrap ((a:Int)*(b:Int))=((c:Nat):Int):=by
 have d:(a:Int)*(b:Int)=((c:Nat):Int):=by rw [<-e];exact (Int.natCast_mul a b).symm
 rw [d,IntKind.wrap_i64];omega
def aCF {a b c:Nat} (e:a / b=c) (f:c<=4000000):IntKind.i64.wrap ((a:Int)/(b:Int))=((c:Nat):Int):=by
 have d:(a:Int)/(b:Int)=((c:Nat):Int):=by rw [<-e];exact (Int.natCast_ediv a b).symm
 rw [d,IntKind.wrap_i64];omega
def aCU {w:World} {d n c a b:Nat} {A:Option Addr} {f:List Bool} (g:Rd w d 1 A n (f.map Value.bool)) (i:a<=b) (j:b<=n) (k:n<=c):Rd w d 1 (cS A c a 1) (b - a) (((f.take b).drop a).map Value.bool):=by
 have e:=(g.cut_hi j).cut (cap:=c) i oM;rw [zBl,zBl,<-List.map_take,<-List.map_drop] at e;exact e
def xI (F:Nat->Prop) (gt n:Nat) (xs:List Value) (fr:List Nat) (rt v:Int) (A:Option Addr) (d e N f o m g l B C:Nat) (Q c:List Bool) (w:World) (r:TS w F gt n xs fr rt v) (X:∀x,w.heap.size<=x->F x) (aA:n<=100000) (a7:aBV n fr)
 (a8:Rd w N 1 A d (Q.map Value.bool)) (ap:N<=w.heap.size) (az:d<=e) (Z:d<=2000) (b4:0 < f) (b6:f<=1000) (ht:m=o+1) (aE:m<=f) (t:d*o=B) (s:d*m=C) (L:B / f=g) (y:C / f=l) (ay:l - g<=128) (W:(Q.take l).drop g=c) (av:c.length<=128):
 Calls prog 170 #[gt,.slice A d e,(o:Int),(m:Int),(f:Int)] w fun D w'=>∃z H,D=.returned (.int .i64 ((z:Nat):Int))/\xT F gt n xs fr rt v (lA (c.length:Int) ((c.count true:Nat):Int) H) w z w'/\Bk w' H 240 (gQ c)/\w.heap.size<=H:=by
 have aa:g<=l:=by rw [<-L,<-y,<-t,<-s];exact Nat.div_le_div_right (Nat.mul_le_mul_left _ oM)
 have aF:l<=d:=by rw [<-y,<-s];exact Nat.div_le_of_le_mul (by rw [Nat.mul_comm];exact Nat.mul_le_mul_right _ aE)
 have b8:B<=2000*1000:=by rw [<-t];exact Nat.mul_le_mul Z oM
 have b9:C<=2000*1000:=by rw [<-s];exact Nat.mul_le_mul Z oM
 have au:¬(f:Int)=0:=oM;have b7:¬f=0:=oM;have b5:((f:Int)==0)=false:=zCa.2 au;have ba:(m:Int) -(o:Int)=1:=oM;have hcut:=kO (P:=prog) 138 4 1 underlying138 zG A d e g l aa oM;replace t:=lhd t;replace s:=lhd s;obtain ⟨aj,al,ak,am,af,ad,ai,ag,ah⟩:=hqq9 L y aa aF W r (a8.mono ap) X a7;have aR:=lhd ht;clear r a8 X a7 L y W ht;go_enter func170,ntmps170;go_wp2_with fail;refine wp_region_any kR ?_;refine dF [20,21,22,23,24,25,26,27,28,29,30,31,32,33,34,19,35,36,11,12] (fun _=>False) 19 [] (fun _=>True) (dU) [is (.slice A d e),is (.slice A d e),is (d:Int),is (o:Int),is (.int .i64 ((B:Nat):Int)),is (f:Int),is (g:Int),is (.slice A d e),is (d:Int),is (m:Int),is (.int .i64 ((C:Nat):Int)),is (f:Int),is (l:Int),is (.slice (cS A e g 1) (l - g) (e - g)),aAm w.heap.size c,aAm w.heap.size c,aBL w.heap.size c,is (.int .i64 0),aBL w.heap.size c,dU] _ _ rfl kR kR (trivial) (fun _ _ _ _ _=>trivial) (fun _ _ _ _ _=>trivial) (by repeat' (first | exact kL _ _ | exact gZ _ | exact zC _ _ | exact zD _ _ |(refine zAe.2 ⟨?_,?_⟩)|(intro p K;cases K))) ?_ ?_
 · refine bN ?_;refine pH3 1 (.slice A d e) ?_;refine pH3 1 (.slice A d e) ?_;refine pV3 1 21 ?_;refine pH3 2 (.int .i64 (o:Int)) ?_;refine sC3 (fun _ _ _ _ _ _ _ a _ _ _ b=>?_) ?_
   · have aT:_=_:=a 2 22 kR rfl;have aU:_=_:=a 3 23 kR rfl;go_simp;exact b _ _ (aC bR) (dH (aCE t.out oM))
   refine pH3 4 (.int .i64 (f:Int)) ?_;refine sC3 (fun _ _ _ _ _ _ _ a _ _ _ b=>?_) ?_
   · have aV:_=_:=a 4 24 kR rfl;have aW:_=_:=a 5 25 kR rfl;go_simp;exact b _ _ (aC bR) (dH (aCF aj.out oM))
   refine pH3 1 (.slice A d e) ?_;refine pV3 7 27 ?_;refine pH3 3 (.int .i64 (m:Int)) ?_;refine sC3 (fun _ _ _ _ _ _ _ a _ _ _ b=>?_) ?_
   · have aY:_=_:=a 8 28 kR rfl;have aZ:_=_:=a 9 29 kR rfl;go_simp;exact b _ _ (aC bR) (dH (aCE s.out oM))
   refine pH3 4 (.int .i64 (f:Int)) ?_;refine sC3 (fun _ _ _ _ _ _ _ a _ _ _ b=>?_) ?_
   · have b0:_=_:=a 10 30 kR rfl;have b1:_=_:=a 11 31 kR rfl;go_simp;exact b _ _ (aC bR) (dH (aCF al.out oM))
   refine sC3 (fun _ _ _ _ _ _ _ a _ _ _ b=>?_) ?_
   · have aS:_=_:=a 0 20 kR rfl;have aX:_=_:=a 6 26 kR rfl;have b2:_=_:=a 12 32 kR rfl;go_simp;exact kq b rfl
   refine sC3 (fun _ k i _ _ _ _ a _ _ _ b=>?_) ?_
   · replace i:Keep (fun _=>False) w k:=kD i;have b3:_=_:=a 13 33 kR rfl;go_simp;have aB:=i.rd ai.out nL (fun _ _ r=>r);have a9:=aCU aB ak.out am.out az;rw [af.out] at a9;refine (sJ (cS A e g 1) (l - g) (e - g) w.heap.size c k a9 i.size ay).mono ?_;rintro D be ⟨rfl,ar,ax⟩;exact b _ _ (aC ax) ⟨_,rfl,ar,i.size⟩
   refine sC3 (fun j k _ _ _ _ _ a _ _ _ b=>?_) ?_
   · have aI:(aAm w.heap.size c) (j (.tmp 34)) k:=a 14 34 kR rfl;go_simp;exact b _ _ (aC bR) aI
   refine sC3 (fun j k _ _ _ _ _ a _ _ I b=>?_) ?_
   · have M:(aAm w.heap.size c) (j (.tmp 19)) k:=a 15 19 kR rfl;go_simp;obtain ⟨q,E,V,Y⟩:=M;subst I;rw [E];go_simp;exact b _ _ (aC bR) ⟨q,rfl,V,Y⟩
   refine sC3 (fun j k _ _ _ _ _ a _ _ I b=>?_) ?_
   · have M:(aAm w.heap.size c) (j (.tmp 19)) k:=a 15 19 kR rfl;go_simp;obtain ⟨q,E,V,Y⟩:=M;subst I;rw [E];go_simp;exact kq b rfl
   refine sC3 (fun j k _ _ _ _ _ a _ _ _ b=>?_) ?_
   · have aJ:(aBL w.heap.size c) (j (.tmp 35)) k:=a 16 35 kR rfl;go_simp;exact b _ _ (aC bR) aJ
   refine sC3 (fun _ _ _ _ _ _ _ a _ _ _ b=>?_) ?_
   · have S:_=_:=a 17 36 kR rfl;go_simp;exact b _ _ (aC bR) trivial
   exact aP
 · intro j u i a T;replace i:Keep (fun _=>False) w u:=kD i;have aH:(aBL w.heap.size c) (j (.tmp 11)) u:=a 18 11 rfl;have S:j (.tmp 36)=.int .i64 0:=a 17 36 rfl;obtain ⟨bc,bb⟩:∃aO,(dU) aO u:=T 19 dC;simp only [zqq];rw [S];clear a T;obtain ⟨q,an,U,aw⟩:=aH;rw [an];have J:Below w.heap.size w u:=i.to_below nL (fun _ _ r=>r);have aD:=i.size;obtain ⟨ac,ae,O⟩:=hqq3 J (ad.out.below J) U;clear i J U;go_wp2_with fail;refine (aBR F gt n q xs fr rt v c u ae.out (fun x aq=>ag.out x (zAk aD aq)) aA ah.out O.out av).mono ?_;rintro D bd ⟨z,rfl,K⟩;go_wp2_with fail;go_ret;obtain ⟨aG,aQ,ao,aK,aL,aM,aN,ab⟩:=K;exact ⟨z,q,rfl,⟨aG,aQ,ao,aK,aL,aM,aN,(LK.below ac.out).trans ab⟩,ab.blk q _ (by simp) O.out,aw⟩
end Go.Proofs.YtnmapianpjamnaaGreatDoor
