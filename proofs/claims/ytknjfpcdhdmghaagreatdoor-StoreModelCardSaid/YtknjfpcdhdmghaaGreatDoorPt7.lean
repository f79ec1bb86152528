/- Lemmas of the walk. Conditions: each its own. -/
import Derived.Test.YtknjfpcdhdmghaaGreatDoorPt3
import Derived.Test.YtknjfpcdhdmghaaGreatDoorPt4
import Derived.Test.YtknjfpcdhdmghaaGreatDoorPt5
set_option linter.all false
set_option maxRecDepth 100000
set_option maxHeartbeats 4000000
namespace Go.Proofs.YtknjfpcdhdmghaaGreatDoor
open Tryz
open Go.RowKit
def aIT:(prog.info? 236).map (λa=>(a.zero,a.size,a.bytes))=some (some (.agg #[o0,o0,o0,o0,o0,o0,o0,.pointer none]),8,64):=by kernel_rfl
def aAf {w a c d cs} (b:Bk w a d cs) (e:cs.size=c):Rd w w.heap.size c (some ⟨a,0,none⟩) 1 cs.toList:=by
 refine ⟨by rw [Nat.one_mul,<-e];simp,λ_=>⟨a,0,rfl,b.lt,λg i f=>?_⟩⟩;rw [zBi,b.cell];simpa using f
def Got (n:Nat) (fr:List Nat) (a c:Nat) (b:List Nat):Prop:=(fr=b++ [a]/\c=n/\a < n)∨(fr= []/\b= []/\a=n/\c=n+1)
section
variable (F : Nat -> Prop) (gt ga : Nat) (A : Option Addr) (cap n : Nat) (xs : List Value) (tk : List Bool) (fr : List Nat) (rt v : Int) (a0 a1 a2 a3 a4 a5 a6 : Int) (p : Option Addr) (w : World) (R : Nat -> World -> Prop)
def aK4 (d:TX w F gt ga A cap n xs tk [] rt v) (aL:∀a,w.heap.size<=a->F a) (aR:n<=100000)
 (aK:∀k b7 aw bc bt ab c1 w1,Got n [] k b7 aw->TX w1 F gt ga bc bt b7 ab c1 aw rt v->At8 ab k [.int .i64 a0,.int .i64 a1,.int .i64 a2,.int .i64 a3,.int .i64 a4,.int .i64 a5,.int .i64 a6,.pointer p]->But8 k xs ab->LK F [] w w1->Calls prog 256 #[gt,(k:Int)] w1 λb w'=>b=.returned (.tuple #[])/\R k w'):
 Calls prog 259 #[gt,.agg #[(a0:Int),(a1:Int),(a2:Int),(a3:Int),(a4:Int),(a5:Int),(a6:Int),.pointer p]] w λb w'=>∃k,b=.returned (.int .i64 (k:Nat))/\R k w':=by
 obtain ⟨bX,bM,bU,bV,bW⟩:=info_parts aIT;obtain ⟨ad,av,ac,au,V,b8,b9,ba,bb⟩:=d.V.2;have W:=V.alloc (.cells #[(a0:Int),(a1:Int),(a2:Int),(a3:Int),(a4:Int),(a5:Int),(a6:Int),.pointer p] 236);have X:=aP b8 (bR.alloc nL (.cells #[(a0:Int),(a1:Int),(a2:Int),(a3:Int),(a4:Int),(a5:Int),(a6:Int),.pointer p] 236));rw [d.Y] at W X;have b2:=oP 0 ga ac au tk _ W X (zAp _) oM;have c8:=d.rd.a.lt;have c7:=V.lt;have aI:=d.rd.a.alloc (.cells #[(a0:Int),(a1:Int),(a2:Int),(a3:Int),(a4:Int),(a5:Int),(a6:Int),.pointer p] 236);have b1:=aP d.rd.row (bR.alloc nL (.cells #[(a0:Int),(a1:Int),(a2:Int),(a3:Int),(a4:Int),(a5:Int),(a6:Int),.pointer p] 236));have cc:gt≠ga:=Bk.ne d.rd.a V dC;have b5:=kd w 236 #[(a0:Int),(a1:Int),(a2:Int),(a3:Int),(a4:Int),(a5:Int),(a6:Int),.pointer p];have bK:=d.rd.c0;have bp:=lhd (λa (b:(Value.slice A n cap).ownBlock=some a)=>(d.rd.row.lt a b).2);obtain ⟨ap,ag,ao,aq,am,ae,af,u,bq⟩:=hqq9 b2 aI b1 b5 d.own d.W d.V.1 d.Y d.au;obtain ⟨bi,ai,bn,an,bo,bm,bl⟩:=hqq7 aK aL (aP b9 (bR.alloc nL (.cells #[(a0:Int),(a1:Int),(a2:Int),(a3:Int),(a4:Int),(a5:Int),(a6:Int),.pointer p] 236))) ba bb X W;have aM:LK F [] w (w.alloc (.cells #[(a0:Int),(a1:Int),(a2:Int),(a3:Int),(a4:Int),(a5:Int),(a6:Int),.pointer p] 236)):=LK.below (bR.alloc nL _);have aj:=lhd aM;clear b2 aI b1 b5 aK aL V b8 b9 ba bb W X d aM;go_enter func259,ntmps259;go_wp2_with fail;obtain ⟨j,bL⟩:=eqx w.heap.size;refine ap.mono ?_;rintro b w1 ⟨rfl,z,cf,aA,a8,b4⟩;clear ap;have K:∀a L cs,Bk (w.alloc (.cells #[(a0:Int),(a1:Int),(a2:Int),(a3:Int),(a4:Int),(a5:Int),(a6:Int),.pointer p] 236)) a L cs->L≠183->L≠4->¬(a=ga∨(Value.slice ad n av).ownBlock=some a):=λa L cs g x T b=>by rcases b with b | b;subst b;exact x (aU g bl).1;exact T (nZ bm b g)
 have P:=z.d ag (K _ _ _ ag dC dC);have a9:=aC (w':=w1) ao λa cs _ g=>z.d g (K _ _ _ g dC dC);have b6:Bk w1 j 236 #[(a0:Int),(a1:Int),(a2:Int),(a3:Int),(a4:Int),(a5:Int),(a6:Int),.pointer p]:=by rw [<-bL];exact z.d aq (K _ _ _ aq dC dC)
 have aX:=aC (w':=w1) bn λa cs _ g=>z.d g (K _ _ _ g dC dC);have ax:∀a,a < (w.alloc (.cells #[(a0:Int),(a1:Int),(a2:Int),(a3:Int),(a4:Int),(a5:Int),(a6:Int),.pointer p] 236)).heap.size->(a=ga∨(Value.slice ad n av).ownBlock=some a)->F a:=λa _ b=>by rcases b with b | b;rw [b];exact af;have:=an a;rw [u.out] at this;exact this b
 have aN:LK F [] w w1:=aj.trans (LK.of z ax λa cs b g=>K a _ cs g dC dC b);obtain ⟨bd,bu,aa,_,_⟩:=aZ a8;have aD:ArenaE w1 F ga (tk++ [true]) []:=by
  have a7:(tk++ [true]).length=n+1:=by rw [zAi,u.out];rfl
  refine ⟨af,bd,bu,ac,au,?_,?_,aX,λa m=>?_,bo⟩;rw [a7,<-aa];exact aA;rw [a7,<-aa];exact a8;rw [a7,<-aa] at m;rcases b4 with b |⟨l,b,Q⟩;have:=an a;rw [u.out] at this;exact this (b ▸ m);rw [m] at b;injection b with b;subst b;refine ai a ?_;rw [sZ0] at Q;omega
 have aS:¬(Value.slice A n cap).ownBlock=some gt:=λb=>absurd (nZ a9 b P) dC;have bQ:=z.size;rw [sZ0] at bQ;have aT:¬(Value.slice A n cap).ownBlock=some j:=λb=>by
  have:=ao.lt j b;have T:=(aj).keep.size;have c6:j < w.heap.size:=by rcases bp j b with bE;exact bE
  omega
 obtain ⟨ah,M,br,ak,bg,al,bj⟩:=hqq7 P a9 b6 aN aD aS aT;have cd:w1.cell? ⟨gt,1,none⟩=some (.slice A n cap):=(P.cell 1).trans rfl;have c9:=P.lt;clear P a9 b6 aN aD aS aT aX ax aA a8 b4 z K bK;go_wp2_with fail;refine wp_region_any kR<|cQ 10 [22,23,24,25,26,27,28,29,30,31] (λa=>(Value.slice A n cap).ownBlock=some a) 7 [7] (λv Y=>Y.ownsRow 0 236 8 v (n+1) (xs++ [.int .i64 a0,.int .i64 a1,.int .i64 a2,.int .i64 a3,.int .i64 a4,.int .i64 a5,.int .i64 a6,.pointer p])/\(v.ownBlock=(Value.slice A n cap).ownBlock∨∃l,v.ownBlock=some l/\w1.heap.size<=l)) [is gt,is gt,is gt,is (.pointer (some ⟨gt,1,none⟩)),is (.slice A n cap),is (.agg #[(a0:Int),(a1:Int),(a2:Int),(a3:Int),(a4:Int),(a5:Int),(a6:Int),.pointer p]),pT (λa=>(Value.slice A n cap).ownBlock=some a) 236 #[(a0:Int),(a1:Int),(a2:Int),(a3:Int),(a4:Int),(a5:Int),(a6:Int),.pointer p] λl=>.slice (some ⟨l,0,none⟩) 1 1,cO,is gt,is (.pointer (some ⟨gt,1,none⟩))] _ rfl dC kR kR kR M (λY cg d _ Q=>aP d Q) (λ_ _ _ ⟨x,T⟩ k=>⟨aP x k,T⟩) tA3 ?_ ?_
 .refine bB<|pH3 0 (.pointer (some gt))<|pH3 0 (.pointer (some gt))<|pV3 1 23<|pV3 2 24<|pL3 3 25 (λe c=>have c:Keep (λa=>(Value.slice A n cap).ownBlock=some a) w1 e:=kD c;(((c.d ah al).cell 1).trans rfl:e.cell? ⟨gt,1,none⟩=some (.slice A n cap))) ?_;refine sC3 (λH e c _ _ _ bN _ _ _ _ y=>?_) ?_
  .replace c:Keep (λa=>(Value.slice A n cap).ownBlock=some a) w1 e:=kD c;have c4:H (.tmp 3)=.pointer (some ⟨j,0,none⟩):=bN 3 kR;have s:=c.d br bj;have ci:e.cell? ⟨j,0,none⟩=some (.int .i64 a0):=(s.cell 0).trans rfl;have cj:e.cell? ⟨j,1,none⟩=some (.int .i64 a1):=(s.cell 1).trans rfl;have ck:e.cell? ⟨j,2,none⟩=some (.int .i64 a2):=(s.cell 2).trans rfl;have cl:e.cell? ⟨j,3,none⟩=some (.int .i64 a3):=(s.cell 3).trans rfl;have cm:e.cell? ⟨j,4,none⟩=some (.int .i64 a4):=(s.cell 4).trans rfl;have cn:e.cell? ⟨j,5,none⟩=some (.int .i64 a5):=(s.cell 5).trans rfl;have co:e.cell? ⟨j,6,none⟩=some (.int .i64 a6):=(s.cell 6).trans rfl;have cp:e.cell? ⟨j,7,none⟩=some (.pointer p):=(s.cell 7).trans rfl;go_simp;exact kq y rfl
  refine sC3 (λ_ e c _ _ _ _ r _ _ _ y=>?_) ?_
  .replace c:Keep (λa=>(Value.slice A n cap).ownBlock=some a) w1 e:=kD c;have c3:_=_:=r 5 27 kR rfl;go_simp;exact y _ _ (aE (bR.alloc nL _)) ⟨_,rfl,kd _ _ _,λd=>by have:=(M.lt _ d).2;have:=c.size;omega⟩
  refine sC3 (λH e c bF _ _ _ r _ _ bH y=>?_) ?_;replace c:Keep (λa=>(Value.slice A n cap).ownBlock=some a) w1 e:=kD c;have bO:=bF rfl;have bx:_=_:=r 4 26 kR rfl;have bY:(pT (λa=>(Value.slice A n cap).ownBlock=some a) 236 #[(a0:Int),(a1:Int),(a2:Int),(a3:Int),(a4:Int),(a5:Int),(a6:Int),.pointer p] λl=>.slice (some ⟨l,0,none⟩) 1 1) (H (.tmp 28)) e:=r 6 28 kR rfl;obtain ⟨bD,bz,bI,cb⟩:=bY;subst bH;have bS:=c.size;refine fK e (.tmp 26) (.tmp 28) _ rfl 0 236 bX _ 8 64 underlying231 bM bU bV bW rfl dC (.slice A n cap) n xs bx bO e.heap.size (some ⟨bD,0,none⟩) 1 1 _ bz (aAf bI rfl) (by simp [Value.oneCell']) zx oM (zAp _) ?_;intro ce B J S O;refine y _ _ (aW ⟨S.os,S.tape,S.output,S.size,λk g aR=>S.block k g (λb=>aR b.symm)⟩) ⟨J,?_⟩;rcases O with Z | Z;exact .inl Z;exact .inr ⟨_,Z,bS⟩;refine pV3 0 22<|pV3 8 30 ?_;exact aB
 intro H B N c r;replace c:Keep (λa=>(Value.slice A n cap).ownBlock=some a) w1 B:=kD c;have bZ:(λv Y=>Y.ownsRow 0 236 8 v (n+1) (xs++ [.int .i64 a0,.int .i64 a1,.int .i64 a2,.int .i64 a3,.int .i64 a4,.int .i64 a5,.int .i64 a6,.pointer p])/\(v.ownBlock=(Value.slice A n cap).ownBlock∨∃l,v.ownBlock=some l/\w1.heap.size<=l)) (H (.tmp 29)) B:=r 7 29 dC rfl;have bC:H (.tmp 31)=.pointer (some ⟨gt,1,none⟩):=r 9 31 dC rfl;simp only [zqq];rw [bC];clear r;obtain ⟨J,O⟩:=bZ;obtain ⟨C,E,bA,_,_⟩:=aZ J;rw [bA] at J O⊢;have q:=c.d ah al;have c2:B.cell? ⟨gt,1,none⟩=some (.slice A n cap):=(q.cell 1).trans rfl;have c5:=q.frozen 1;have ca:=q.lt;obtain ⟨D,I⟩:=eqx (B.setCell ⟨gt,1,none⟩ (.slice C (n+1) E));have aH:Bk D gt 233 #[ga,.slice C (n+1) E,(rt:Int),(v:Int)]:=by rw [<-I];exact q.set 1 _
 have b0:D.ownsRow 0 236 8 (.slice C (n+1) E) (n+1) (xs++ [.int .i64 a0,.int .i64 a1,.int .i64 a2,.int .i64 a3,.int .i64 a4,.int .i64 a5,.int .i64 a6,.pointer p]):=by rw [<-I];exact aC J λa cs _ m=>m.m (p:=⟨gt,1,none⟩) (Bk.ne m q dC) _
 have aF:=bg.keep c λa L cs U g _ b=>by have bw:=nZ M b g;subst bw;exact absurd U dC
 have aG:ArenaE D F ga (tk++ [true]) []:=by rw [<-I];refine aF.keep (G:=λa=>a=gt) (ka (F:=λa=>a=gt) (ke _ _) (p:=⟨gt,1,none⟩) (.inl rfl) _) λa L cs U g _ b=>?_;have bv:a=gt:=b;subst bv;rw [(aU g q).1] at U;exact absurd U dC
 have aO:LK F [] w1 B:=LK.of c (λa _ b=>am a b) λa cs b g=>absurd (nZ M b g) dC;have aQ:LK F [] w D:=by rw [<-I];exact (ak.trans aO).trans (LK.set q dC ae _)
 have aV:OwnF F (.slice C (n+1) E):=λa m=>by rcases O with b |⟨l,b,Q⟩;exact am a (b ▸ m);rw [m] at b;injection b with b;subst b;exact ai a (zAk ak.keep.size Q)
 have b3:∀t,t < n+1->(tk++ [true])[t]?=some (decide (t∉([]:List Nat))):=λt bP=>by
  rcases zBe t n with x | x
  .rw [zAn (by rw [u.out];exact x),bq t x]
  obtain rfl:t=n:=oM;rw [zAo (by rw [u.out];omega),u.out,zDK];rfl
 have az:TX D F gt ga C E (n+1) (xs++ [.int .i64 a0,.int .i64 a1,.int .i64 a2,.int .i64 a3,.int .i64 a4,.int .i64 a5,.int .i64 a6,.pointer p]) (tk++ [true]) [] rt v:=⟨ae,⟨aH,b0⟩,aV,aG,by rw [zAi,u.out];rfl,b3⟩;have aJ:=bi n (n+1) [] C E (xs++ [.int .i64 a0,.int .i64 a1,.int .i64 a2,.int .i64 a3,.int .i64 a4,.int .i64 a5,.int .i64 a6,.pointer p]) _ D (.inr ⟨rfl,rfl,rfl,rfl⟩) az (At8.new M.1 rfl) (λt cs bP d=>d.dp _) aQ;obtain ⟨bh,bf⟩:=hqq2 aJ I;clear q J O I aH b0 aF aG aO aQ aV b3 az aJ;change wpAny prog Region.Mode.any _ _ (1+N) (bT 10 11) _ B;rw [zCt 1 N];refine aY (f:=N) (i:=10) kR ?_;refine bJ rfl rfl ?_;generalize y:wpAny prog _ _ _ N _=K5;go_simp;subst y;refine bG kR ?_;rw [bf.out];go_wp2_with fail;refine bh.mono ?_;rintro b ch ⟨rfl,ay⟩;have be:=lhd ay;clear ay;go_wp2_with fail;go_ret;exact ⟨n,rfl,be⟩
def aK3 (a) (e:TX w F gt ga A cap n xs tk (fr++ [a]) rt v) (b5:∀c,w.heap.size<=c->F c) (be:n<=100000) (M:a < n) (aF:(fr++ [a]).Nodup) (ay:fr.length < n) (ax:∀z ai X aj am O aJ w1,Got n (fr++ [a]) z ai X->TX w1 F gt ga aj am ai O aJ X rt v->At8 O z [.int .i64 a0,.int .i64 a1,.int .i64 a2,.int .i64 a3,.int .i64 a4,.int .i64 a5,.int .i64 a6,.pointer p]->But8 z xs O->LK F [] w w1->Calls prog 256 #[gt,(z:Int)] w1 λb w'=>b=.returned (.tuple #[])/\R z w'):
 Calls prog 259 #[gt,.agg #[(a0:Int),(a1:Int),(a2:Int),(a3:Int),(a4:Int),(a5:Int),(a6:Int),.pointer p]] w λb w'=>∃a,b=.returned (.int .i64 (a:Nat))/\R a w':=by
 obtain ⟨f,aU,rfl,K⟩:=e.rd.ex oM;obtain ⟨B,ap,Z,Y,a8⟩:=e.V.own;have aD:Keep B w (w.alloc (.cells #[(a0:Int),(a1:Int),(a2:Int),(a3:Int),(a4:Int),(a5:Int),(a6:Int),.pointer p] 236)):=kF (bR.alloc nL _);have u:=a8.keep (G:=λ_=>False) (kF ((kg w.heap.size w).alloc nL (.cells #[(a0:Int),(a1:Int),(a2:Int),(a3:Int),(a4:Int),(a5:Int),(a6:Int),.pointer p] 236))) (λ_ _ _ _ _ _ t=>t);have ae:=yF u (by rw [e.Y];exact M) (by rw [e.Y];omega) (by rw [e.Y];exact ay);have H:∀c s cs,Bk w c s cs->s≠183->s≠4->s≠3->¬B c:=λc s cs q C an ao aw=>by rcases Z c s cs aw q with b | b | b;exact C b;exact an b;exact ao b
 have b9:=e.rd.a.lt;have b6:=K.lt;have au:=e.rd.c0;have aG:=kd w 236 #[(a0:Int),(a1:Int),(a2:Int),(a3:Int),(a4:Int),(a5:Int),(a6:Int),.pointer p];have aB:¬B w.heap.size:=λt=>by have:=Y _ t;omega
 have bc:((a:Int)==n)=false:=by rw [zCb];omega
 have bd:(a:Int) < n:=oM;have af:tk.length=n:=e.Y;have P:=ap;clear Z a8 u;go_enter func259,ntmps259;go_wp2_with fail;obtain ⟨k,aA⟩:=eqx w.heap.size;refine ae.mono ?_;rintro b w1 ⟨rfl,u,L⟩;clear ae;have x:Keep B w w1:=aD.trans L;have E:=x.d e.rd.a (H _ _ _ e.rd.a dC dC dC);have ad:=aC (w':=w1) e.rd.row λc cs _ q=>x.d q (H _ _ _ q dC dC dC);have g:Bk w1 k 236 #[(a0:Int),(a1:Int),(a2:Int),(a3:Int),(a4:Int),(a5:Int),(a6:Int),.pointer p]:=by rw [<-aA];exact L.d aG aB
 have d:=x.d K (H _ _ _ K dC dC dC);have y:LK F [] w w1:=LK.of x (λc _ b=>P c b) λc cs b q=>by rcases zBe c w.heap.size with J | J;exact H c _ cs q dC dC dC b;exact absurd (Y c b) oM
 have ag:∀r,r < n->(tk.set a true)[r]?=some (decide (r∉fr)):=λr ac=>by
  have aE:a∉fr:=by have C:=aF;rw [zDb] at C;exact λaI=>C.2.2 a aI a zs rfl
  by_cases b:r=a
  .subst b;rw [zDq (by rw [af];exact ac)];simp [aE]
  .rw [zDr (λaL=>b aL.symm),e.au r ac];simp [b]
 have m:TX w1 F gt ga (some ⟨f,0,none⟩) cap n xs (tk.set a true) fr rt v:=⟨e.W,⟨E,ad⟩,e.own,u.mono λc _ t=>P c t,by rw [zAt];exact af,ag⟩;have aH:w1.cell? ⟨gt,1,none⟩=some (.slice (some f) n cap):=(E.cell 1).trans rfl;have ba:=E.lt;have b7:=d.lt;have bb:=g.lt;have aM:w1.cell? ⟨k,0,none⟩=some (.int .i64 a0):=(g.cell 0).trans rfl;have aN:w1.cell? ⟨k,1,none⟩=some (.int .i64 a1):=(g.cell 1).trans rfl;have aO:w1.cell? ⟨k,2,none⟩=some (.int .i64 a2):=(g.cell 2).trans rfl;have aP:w1.cell? ⟨k,3,none⟩=some (.int .i64 a3):=(g.cell 3).trans rfl;have aQ:w1.cell? ⟨k,4,none⟩=some (.int .i64 a4):=(g.cell 4).trans rfl;have aR:w1.cell? ⟨k,5,none⟩=some (.int .i64 a5):=(g.cell 5).trans rfl;have aS:w1.cell? ⟨k,6,none⟩=some (.int .i64 a6):=(g.cell 6).trans rfl;have aT:w1.cell? ⟨k,7,none⟩=some (.pointer p):=(g.cell 7).trans rfl;have Q:=m;have I:=d;have S:=y;clear m d y E ad g x L u ag au;go_wp2_with fail
 go_still_tail 7,kR
 change wpList _ _ _ _ _ w1.drew;have D:Below w1.heap.size w1 w1.drew:=bR.drew;have m:=Q.below D;have d:=I.below D I.lt;have y:=S.trans (LK.below (F:=F) (bl:= []) D);clear Q I S D aH aM aN aO aP aQ aR aS aT;generalize w1.drew=w2 at*
 have b8:=d.lt;obtain ⟨bf,bg,bh,bi,bj,bm,bn,bo,N⟩:=At8.ex m.rd.len M;obtain ⟨bq,br,bt,bu,bv,bw,bx,bz⟩:=m.rd.at N;have aV:=d.frozen (a*8);have aW:=d.frozen (a*8+1);have aX:=d.frozen (a*8+2);have aY:=d.frozen (a*8+3);have aZ:=d.frozen (a*8+4);have b0:=d.frozen (a*8+5);have b3:=d.frozen (a*8+6);have b4:=d.frozen (a*8+7);have a7:=(((((((m.put (a*8) (.int .i64 a0)).put (a*8+1) (.int .i64 a1)).put (a*8+2) (.int .i64 a2)).put (a*8+3) (.int .i64 a3)).put (a*8+4) (.int .i64 a4)).put (a*8+5) (.int .i64 a5)).put (a*8+6) (.int .i64 a6)).put (a*8+7) (.pointer p);have a9:=(((((((N.set (j:=0) oM (.int .i64 a0)).set (j:=1) oM (.int .i64 a1)).set (j:=2) oM (.int .i64 a2)).set (j:=3) oM (.int .i64 a3)).set (j:=4) oM (.int .i64 a4)).set (j:=5) oM (.int .i64 a5)).set (j:=6) oM (.int .i64 a6)).set (j:=7) oM (.pointer p);have aa:=(((((((But8.set a xs (j:=0) oM (.int .i64 a0)).trans (But8.set a _ (j:=1) oM (.int .i64 a1))).trans (But8.set a _ (j:=2) oM (.int .i64 a2))).trans (But8.set a _ (j:=3) oM (.int .i64 a3))).trans (But8.set a _ (j:=4) oM (.int .i64 a4))).trans (But8.set a _ (j:=5) oM (.int .i64 a5))).trans (But8.set a _ (j:=6) oM (.int .i64 a6))).trans (But8.set a _ (j:=7) oM (.pointer p));have ab:LK F [] w ((((((((w2.setCell ⟨f,a*8,none⟩ (.int .i64 a0)).setCell ⟨f,a*8+1,none⟩ (.int .i64 a1)).setCell ⟨f,a*8+2,none⟩ (.int .i64 a2)).setCell ⟨f,a*8+3,none⟩ (.int .i64 a3)).setCell ⟨f,a*8+4,none⟩ (.int .i64 a4)).setCell ⟨f,a*8+5,none⟩ (.int .i64 a5)).setCell ⟨f,a*8+6,none⟩ (.int .i64 a6)).setCell ⟨f,a*8+7,none⟩ (.pointer p)):=by have az:F f:=OwnF.at e.own;have l:=λ(ak:World) (cs:Array Value) (ah:Nat) (aK:Value) (J:Bk ak f 236 cs)=>LK.set (F:=F) (bl:= []) (i:=ah) J dC az aK;have b1:=d.set (a*8) (.int .i64 a0);have b2:=b1.set (a*8+1) (.int .i64 a1);have T:=b2.set (a*8+2) (.int .i64 a2);have U:=T.set (a*8+3) (.int .i64 a3);have V:=U.set (a*8+4) (.int .i64 a4);have W:=V.set (a*8+5) (.int .i64 a5);have al:=W.set (a*8+6) (.int .i64 a6);exact (((((((y.trans (l _ _ _ _ d)).trans (l _ _ _ _ b1)).trans (l _ _ _ _ b2)).trans (l _ _ _ _ T)).trans (l _ _ _ _ U)).trans (l _ _ _ _ V)).trans (l _ _ _ _ W)).trans (l _ _ _ _ al)
 have av:=ax a n fr _ _ _ _ _ (.inl ⟨rfl,rfl,M⟩) a7 a9 aa ab;clear m a7 a9 aa ab y d N;go_wp2_with fail;refine av.mono ?_;rintro b bp ⟨rfl,aq⟩;go_wp2_with fail;go_ret;exact ⟨a,rfl,aq⟩
end
def TS (w:World) (F:Nat->Prop) (gt n:Nat) (xs:List Value) (fr:List Nat) (rt v:Int):Prop:=∃ga A cap tk,TX w F gt ga A cap n xs tk fr rt v
section
variable {w w' : World} {F G : Nat -> Prop} {gt ga cap n : Nat} {A : Option Addr} {xs ys : List Value} {tk : List Bool} {fr : List Nat} {rt v : Int}
def TX.av {b} (a:TX w F gt ga (some ⟨b,0,none⟩) cap n xs tk fr rt v) (f:Keep (λc=>c=b) w w') (k:w'.ownsRow 0 236 8 (.slice (some b) n cap) n ys):TX w' F gt ga (some ⟨b,0,none⟩) cap n ys tk fr rt v:=by
 obtain ⟨l,d⟩:=fE a.rd.row;refine ⟨a.W,⟨f.d a.rd.a (Bk.ne a.rd.a d dC),k⟩,a.own,a.V.keep f λc m cs e j _ g=>?_,a.Y,a.au⟩;have i:c=b:=g;subst i;rw [(aU j d).1] at e;exact absurd e dC
def TX.lk {c} (d:TX w F gt ga (some ⟨c,0,none⟩) cap n xs tk fr rt v) (i:Keep (λa=>a=c) w w'):LK F [] w w':=by
 obtain ⟨j,f⟩:=fE d.rd.row;refine LK.of i (λa _ b=>by rw [b];exact OwnF.at d.own) λa cs b g=>?_;have e:a=c:=b;subst e;exact absurd (aU g f).1 dC
def TS.ab (a:TS w F gt n xs fr rt v) (b):TS (w.setCell ⟨gt,3,none⟩ (.int .i64 b)) F gt n xs fr rt b:=by
 obtain ⟨ga,A,cap,tk,a⟩:=a;exact ⟨ga,A,cap,tk,a.ab b⟩
def TS.b4 (a:TS w F gt n xs fr rt v) (c b):LK F [] w (w.setCell ⟨gt,c,none⟩ b):=by
 obtain ⟨ga,A,cap,tk,a⟩:=a;exact LK.set a.rd.a dC a.W b
def TS.below (a:TS w F gt n xs fr rt v) (b:Below w.heap.size w w'):TS w' F gt n xs fr rt v:=by
 obtain ⟨ga,A,cap,tk,a⟩:=a;exact ⟨ga,A,cap,tk,a.below b⟩
def TS.len (a:TS w F gt n xs fr rt v):xs.length=n*8:=by
 obtain ⟨ga,A,cap,tk,a⟩:=a;exact a.rd.len
def TS.lt (a:TS w F gt n xs fr rt v):gt < w.heap.size:=by
 obtain ⟨ga,A,cap,tk,a⟩:=a;exact a.rd.a.lt
def TS.a {b cs} (c:TS w F gt n xs fr rt v) (g:Bk w b 250 cs) (j:Keep (λa=>a=b) w w'):TS w' F gt n xs fr rt v:=by
 obtain ⟨ga,A,cap,tk,c⟩:=c;refine ⟨ga,A,cap,tk,c.keep j λa l k d i _ e=>?_⟩;have f:a=b:=e;subst f;rw [(aU i g).1] at d;exact absurd d dC
def TS.dd {e f cs i} (d:TS w F gt n xs fr rt v) (j:Bk w e 250 cs) (k:Bk w f 250 i) (l:Keep (λc=>c=e∨c=f) w w'):TS w' F gt n xs fr rt v:=by
 obtain ⟨ga,A,cap,tk,d⟩:=d;refine ⟨ga,A,cap,tk,d.keep l λc q m b g _ a=>?_⟩;rcases a with a | a;subst a;rw [(aU g j).1] at b;exact absurd b dC;subst a;rw [(aU g k).1] at b;exact absurd b dC
end
def KT (gt:Nat) (w w':World):Prop:=∀cs,Bk w gt 233 cs->Bk w' gt 233 cs
def KT.trans {gt w w1 w'} (a:KT gt w w1) (c:KT gt w1 w'):KT gt w w':=λcs b=>c cs (a cs b)
def KT.below {gt w w'} (b:Below w.heap.size w w'):KT gt w w':=λcs a=>a.below b a.lt
def KT.keep {gt a w w' d} (f:Keep (λc=>c=a) w w') (e:Bk w a 236 d):KT gt w w':=λcs b=>f.d b (Bk.ne b e dC)
def aO3 (F:Nat->Prop) (gt n b:Nat) (xs:List Value) (fr:List Nat) (rt v:Int) (cs:List Value) (w w':World):Prop:=∃a,TS w' F gt n a fr rt v/\At8 a b cs/\But8 b xs a/\LK F [] w w'/\KT gt w w'
def lU {F gt n k gb xs fr rt v bs w} (a:TS w F gt n xs fr rt v) {x0 y0} (d:At8 xs k (lH x0 y0 gb)) (e:Bk w gb 250 (dL bs)) (g:bs.length<=128):
 Calls prog 256 #[gt,(k:Int)] w λc w'=>c=.returned (.tuple #[])/\aO3 F gt n k xs fr rt v (lH (bs.length:Int) ((bs.count true:Nat):Int) gb) w w':=by
 obtain ⟨ga,A,cap,tk,a⟩:=a;obtain ⟨q,m,rfl,f⟩:=a.rd.ex (zj (d.lt a.rd.len));refine (aLC a.rd d e g).mono ?_;rintro c w' ⟨rfl,b,ys,i,j,l⟩;exact ⟨rfl,ys,⟨ga,_,cap,tk,a.av b i⟩,j,l,a.lk b,KT.keep b f⟩
def kG {F} {gt n k l r hl hr nl nr ol or_:Nat} {xs fr} {rt v:Int} {w} (a:TS w F gt n xs fr rt v) {x C D z B:Int} (d:At8 xs k (ndL l r x C D z B)) {a0 a1 a5 a6 q s t u:Int} {E H} (e:At8 xs l (xA a0 a1 hl nl ol a5 a6 E)) (f:At8 xs r (xA q s hr nr or_ t u H)) (b1:hl<=1000000) (b2:hr<=1000000) (g:nl<=1000000) (i:nr<=1000000) (j:ol<=1000000) (m:or_<=1000000):
 Calls prog 256 #[gt,(k:Int)] w λc w'=>c=.returned (.tuple #[])/\aO3 F gt n k xs fr rt v (ndL l r ((max hl hr+1:Nat):Int) ((nl+nr:Nat):Int) ((ol+or_:Nat):Int) nl ol) w w':=by
 obtain ⟨ga,A,cap,tk,a⟩:=a;obtain ⟨M,L,rfl,y⟩:=a.rd.ex (zj (d.lt a.rd.len));refine (aLB a.rd d e f b1 b2 g i j m).mono ?_;rintro c w' ⟨rfl,b,ys,I,J,K⟩;exact ⟨rfl,ys,⟨ga,_,cap,tk,a.av b I⟩,J,K,a.lk b,KT.keep b y⟩
def aD3 (n:Nat) (fr:List Nat):Prop:=fr.Nodup/\(∀a,a∈fr->a < n)/\(fr≠ []->fr.length<=n)
def aHy (F:Nat->Prop) (gt n:Nat) (xs:List Value) (fr:List Nat) (rt v:Int) (cs:List Value) (w:World) (a:Nat) (w':World):Prop:=∃d b c,Got n fr a d c/\TS w' F gt d b c rt v/\At8 b a cs/\But8 a xs b/\LK F [] w w'
section
variable (F : Nat -> Prop) (gt n : Nat) (xs : List Value) (fr : List Nat) (rt v : Int) (a0 a1 a2 a3 a4 a5 a6 : Int) (p : Option Addr) (w : World) (cs : List Value)
def aFF (f:TS w F gt n xs fr rt v) (t:∀l,w.heap.size<=l->F l) (x:n<=100000) (j:aD3 n fr)
 (B:∀a e c d w1,Got n fr a e c->TS w1 F gt e d c rt v->At8 d a [.int .i64 a0,.int .i64 a1,.int .i64 a2,.int .i64 a3,.int .i64 a4,.int .i64 a5,.int .i64 a6,.pointer p]->But8 a xs d->LK F [] w w1->
  Calls prog 256 #[gt,(a:Int)] w1 λb w'=>b=.returned (.tuple #[])/\aO3 F gt e a d c rt v cs w1 w'):
 Calls prog 259 #[gt,.agg #[(a0:Int),(a1:Int),(a2:Int),(a3:Int),(a4:Int),(a5:Int),(a6:Int),.pointer p]] w λb w'=>∃a,b=.returned (.int .i64 (a:Nat))/\aHy F gt n xs fr rt v cs w a w':=by
 obtain ⟨ga,A,cap,tk,f⟩:=f
 have s:∀a e c g i d k w1,Got n fr a e c->TX w1 F gt ga g i e d k c rt v->At8 d a [.int .i64 a0,.int .i64 a1,.int .i64 a2,.int .i64 a3,.int .i64 a4,.int .i64 a5,.int .i64 a6,.pointer p]->But8 a xs d->LK F [] w w1->
  Calls prog 256 #[gt,(a:Int)] w1 λb w'=>b=.returned (.tuple #[])/\aHy F gt n xs fr rt v cs w a w':=λa e c g i d k w1 m y z q r=>by
  refine (B a e c d w1 m ⟨ga,g,i,k,y⟩ z q r).mono ?_;rintro b w' ⟨rfl,ys,C,D,E,H,_⟩;exact ⟨rfl,e,ys,c,m,C,D,q.trans E,r.trans H⟩
 rcases zDL fr with b |⟨c,a,b⟩;subst b;exact aK4 F gt ga A cap n xs tk rt v a0 a1 a2 a3 a4 a5 a6 p w _ f t x s;rw [zDW] at b;subst b;have u:=j.2.2 zs;rw [zAi] at u;exact aK3 F gt ga A cap n xs tk c rt v a0 a1 a2 a3 a4 a5 a6 p w _ a f t x (j.2.1 a zs) j.1 (by simp only [zCg,zDM] at u;omega) s
end
def aBl {F gt n gb xs fr rt v bs w} (g:TS w F gt n xs fr rt v) (j:∀b,w.heap.size<=b->F b) (l:n<=100000) (m:aD3 n fr) (i:Bk w gb 250 (dL bs)) (k:bs.length<=128):
 Calls prog 247 #[gt,gb] w λc w'=>∃a,c=.returned (.int .i64 (a:Nat))/\aHy F gt n xs fr rt v (lH (bs.length:Int) ((bs.count true:Nat):Int) gb) w a w':=by
 go_enter func247,ntmps247;go_wp2_with fail;refine (aFF F gt n xs fr rt v (-1) (-1) 0 0 0 0 0 (some ⟨gb,0,none⟩) w _ g j l m λa u r x w1 s d e t f=>lU d e (f.a gb _ zs i) k).mono ?_;rintro c w1 ⟨a,rfl,q⟩;go_wp2_with fail;go_ret;exact ⟨a,rfl,q⟩
def aFE {F gt n l r hl hr nl nr ol or_ xs fr rt v w} (q:TS w F gt n xs fr rt v) (K:∀j,w.heap.size<=j->F j) (M:n<=100000) (N:aD3 n fr) (L:l∉fr) (P:r∉fr) {a0 a1 a5 a6 C D E H S T} (g:At8 xs l (xA a0 a1 hl nl ol a5 a6 S)) (i:At8 xs r (xA C D hr nr or_ E H T)) (b1:hl<=1000000) (b2:hr<=1000000) (x:nl<=1000000) (y:nr<=1000000) (z:ol<=1000000) (B:or_<=1000000):
 Calls prog 252 #[gt,(l:Int),(r:Int)] w λb w'=>∃a,b=.returned (.int .i64 (a:Nat))/\aHy F gt n xs fr rt v (ndL l r ((max hl hr+1:Nat):Int) ((nl+nr:Nat):Int) ((ol+or_:Nat):Int) nl ol) w a w':=by
 have Q:=q.len;have t:∀a f e d cs,Got n fr a f e->d∉fr->At8 xs d cs->d≠a:=λa f e d cs I s u b=>by rcases I with ⟨c,_,_⟩|⟨_,_,k,_⟩;rw [c] at s;exact s (by simp [b]);have:=u.lt Q;omega
 go_enter func252,ntmps252;go_wp2_with fail;refine (aFF F gt n xs fr rt v l r 0 0 0 0 0 none w _ q K M N λa f e V w1 c J k m U=>kG J k (m _ _ (t _ _ _ _ _ c L g) g) (m _ _ (t _ _ _ _ _ c P i) i) b1 b2 x y z B).mono ?_;rintro b w1 ⟨a,rfl,O⟩;go_wp2_with fail;go_ret;exact ⟨a,rfl,O⟩
namespace Tr
def full_lv:∀ {b:Tr},b.Full->b.lv*32<=b.bits.length
 | lf c,a=>by have:=a.1;simp only [lv,bits];omega
 | nd f g,a=>by have d:=full_lv a.1;have e:=full_lv a.2;simp only [lv,bits,zAi];omega
def Ok.a4 {a:Tr} (b:a.Ok):a.ht<=a.bits.length:=by
 cases a with
 | lf e=>simp [ht]
 | nd c d=>
  have f:=full_lv b.2;have g:=ht_lv (nd c d);omega
def Ok.pos {a:Tr} (b:a.Ok):0 < a.bits.length:=by
 cases a with
 | lf e=>exact b.1
 | nd c d=>
  have f:=full_lv b.2;have g:=ht_lv (nd c d);omega
end Tr
def cH:Option Tr->List Bool
 | none=> []
 | some a=>a.bits
def TreeO (w:World) (gt:Nat) (o:Option Tr):Prop:=
 ∃(ga:Nat) (A:Option Addr) (cap n:Nat) (xs:List Value) (rt v:Int),TR w gt ga A cap n xs rt v/\((o=none/\rt=-1)∨∃a:LT,o=some a.er/\a.In w xs/\rt=(a.num:Int)/\a.er.Ok/\a.len<=1100)
def TreeAt (w:World) (gt:Nat) (bs:List Bool):Prop:=∃o,cH o=bs/\TreeO w gt o
section
variable {w w' : World} {gt : Nat} {bs : List Bool} {o : Option Tr}
def TreeO.b (d:TreeO w gt o) (b:Vis w w'):TreeO w' gt o:=by
 obtain ⟨ga,A,cap,n,xs,rt,v,e,a⟩:=d;obtain ⟨k,f⟩:=e.b b;refine ⟨ga,A,cap,n,xs,rt,k,f,?_⟩;rcases a with a |⟨j,c,i,g⟩;exact .inl a;exact .inr ⟨j,c,i.b b,g⟩
def TreeO.same (g:TreeO w gt o) (d:∀b a cs,a∈ [233,183,236,250,4]->Bk w b a cs->Bk w' b a cs):TreeO w' gt o:=by
 obtain ⟨ga,A,cap,n,xs,rt,v,i,c⟩:=g;refine ⟨ga,A,cap,n,xs,rt,v,i.same λb a cs ht=>d b a cs (by simp at ht;rcases ht with rfl | rfl <;> decide),?_⟩;rcases c with c |⟨a,f,l,j⟩;exact .inl c;exact .inr ⟨a,f,l.keep (λ_ _ _ e=>e) (λm _ cs k=>d _ _ _ dC k),j⟩
def TreeO.lt (a:TreeO w gt o):gt < w.heap.size:=by
 obtain ⟨ga,A,cap,n,xs,rt,v,b,c⟩:=a;exact b.a.lt
def TreeO.le (a:TreeO w gt o):(cH o).length<=1100:=by
 obtain ⟨ga,A,cap,n,xs,rt,v,d,⟨rfl,_⟩|⟨g,rfl,f,c,e,b⟩⟩:=a;exact zAp _;exact b
def TreeAt.b (a:TreeAt w gt bs) (c:Vis w w'):TreeAt w' gt bs:=by
 obtain ⟨o,b,a⟩:=a;exact ⟨o,b,a.b c⟩
def TreeAt.same (a:TreeAt w gt bs) (e:∀c b cs,b∈ [233,183,236,250,4]->Bk w c b cs->Bk w' c b cs):TreeAt w' gt bs:=by
 obtain ⟨o,d,a⟩:=a;exact ⟨o,d,a.same e⟩
def TreeAt.below (b:TreeAt w gt bs) (c:Below w.heap.size w w'):TreeAt w' gt bs:=b.same λd e cs _ a=>a.below c a.lt
def TreeAt.lt (a:TreeAt w gt bs):gt < w.heap.size:=by
 obtain ⟨o,b,a⟩:=a;exact a.lt
def TreeAt.le (a:TreeAt w gt bs):bs.length<=1100:=by
 obtain ⟨o,rfl,a⟩:=a;exact a.le
def TreeO.a3 (a:TreeO w gt o):∃v,w.cell? ⟨gt,3,none⟩=some (.int .i64 v):=by
 obtain ⟨ga,A,cap,n,xs,rt,v,b,c⟩:=a;exact ⟨v,b.c3⟩
def TreeAt.a3 (a:TreeAt w gt bs):∃v,w.cell? ⟨gt,3,none⟩=some (.int .i64 v):=by
 obtain ⟨o,b,a⟩:=a;exact a.a3
def TreeO.a (a:TreeO w gt o):∃cs,Bk w gt 233 cs/\3 < cs.size:=by
 obtain ⟨ga,A,cap,n,xs,rt,v,b,c⟩:=a;exact ⟨_,b.a,by simp⟩
end
def jL {gt} {o:Option Tr} {w} (g:TreeO w gt o):
 Calls prog 203 #[gt] w λd w'=>d=.returned (.int .i64 ((cH o).length:Int))/\Below w.heap.size w w':=by
 obtain ⟨ga,A,cap,n,xs,rt,v,a,⟨rfl,rfl⟩|⟨b,rfl,c,rfl,i,j⟩⟩:=g
 .have f:=a.c2;clear a;go_enter func203,ntmps203;go_wp2;go_ret;exact ⟨rfl,kg _ _⟩
 .obtain ⟨t,r,rfl,k⟩:=a.ex (zj (c.at.lt a.len));obtain ⟨a0,a1,a5,a6,p,e⟩:=b.R;obtain ⟨_,_,_,s,_⟩:=a.at (show At8 xs b.num [_,_,_,_,_,_,_,_] from e ▸ c.at);have q:=a.c1;have f:=a.c2;have u:(b.num:Int) < n:=(zj (c.at.lt a.len));have l:(b.num:Int)≠-1:=oM;have x:((b.num:Int)==-1)=false:=zCb.2 l;generalize b.num=tn at*
  show Calls _ _ _ w λd w'=>d=.returned (.int .i64 b.len)/\_;generalize b.len=m at*
  clear c a e k i j;go_enter func203,ntmps203;go_wp2;go_quiet (fail);go_wp2;go_ret;exact ⟨rfl,km bR _⟩
def aHi {gt} {o:Option Tr} {w} (g:TreeO w gt o):
 Calls prog 228 #[gt] w λd w'=>d=.returned (.int .i64 ((cH o).count true:Nat))/\Below w.heap.size w w':=by
 obtain ⟨ga,A,cap,n,xs,rt,v,a,⟨rfl,rfl⟩|⟨b,rfl,c,rfl,i,j⟩⟩:=g
 .have f:=a.c2;clear a;go_enter func228,ntmps228;go_wp2;go_ret;exact ⟨rfl,kg _ _⟩
 .obtain ⟨t,r,rfl,k⟩:=a.ex (zj (c.at.lt a.len));obtain ⟨a0,a1,a5,a6,p,e⟩:=b.R;obtain ⟨_,_,_,_,s,_⟩:=a.at (show At8 xs b.num [_,_,_,_,_,_,_,_] from e ▸ c.at);have q:=a.c1;have f:=a.c2;have u:(b.num:Int) < n:=(zj (c.at.lt a.len));have l:(b.num:Int)≠-1:=oM;have x:((b.num:Int)==-1)=false:=zCb.2 l;generalize b.num=tn at*
  show Calls _ _ _ w λd w'=>d=.returned (.int .i64 b.on)/\_;generalize b.on=m at*
  clear c a e k i j;go_enter func228,ntmps228;go_wp2;go_quiet (fail);go_wp2;go_ret;exact ⟨rfl,km bR _⟩
def aAX {gt:Nat} {v:Int} {w} (b:w.cell? ⟨gt,3,none⟩=some (.int .i64 v)):
 Calls prog 216 #[gt] w λa w'=>a=.returned (.int .i64 v)/\Below w.heap.size w w':=by
 go_enter func216,ntmps216;go_wp2;go_ret;exact ⟨rfl,kg _ _⟩
def pY {n o:Nat} (a w) (c:n<=100000) (d:o<=n):
 Calls prog 227 #[(n:Int),(o:Int),.bool a] w λb w'=>b=.returned (.int .i64 (if a then o else n - o:Nat))/\Below w.heap.size w w':=by
 cases a
 .go_enter func227,ntmps227;go_wp2;go_ret;exact ⟨fM oM,kg _ _⟩
 .go_enter func227,ntmps227;go_wp2;go_ret;exact ⟨fM zs,kg _ _⟩
def tL (a:List Bool):a.count true+a.count false=a.length:=by
 induction a with
 | nil=>rfl
 | cons b a c=>cases b <;> simp <;> omega
def tE (a:List Bool) (b:Bool):(if b then a.count true else a.length - a.count true)=a.count b:=by
 have:=tL a;cases b;simp;omega
 .simp
def Nd (xs:List Value) (b c f:Nat):Prop:=∃a n o d e:Int,At8 xs b (ndL c f a n o d e)
def LT.L (a:LT):Prop:=a.ht<=100000/\a.len<=100000
def LT.In.nd {w xs a} {b c:LT} (d:(LT.nd a b c).In w xs):Nd xs a b.num c.num:=⟨_,_,_,_,_,d.1⟩
def LT.In.R {w xs} {a:LT} (c:a.In w xs):∃a0 a1 a5 a6 p,At8 xs a.num (xA a0 a1 a.ht a.len a.on a5 a6 p):=by
 obtain ⟨a0,a1,a5,a6,p,b⟩:=a.R;exact ⟨a0,a1,a5,a6,p,by rw [<-b];exact c.at⟩
def LT.In.mk {w xs c} {a b:LT} (d:At8 xs c (ndL a.num b.num ((max a.ht b.ht+1:Nat):Int) ((a.len+b.len:Nat):Int) ((a.on+b.on:Nat):Int) (a.len:Int) (a.on:Int))) (e:a.In w xs) (f:b.In w xs):(LT.nd c a b).In w xs:=⟨d,e,f⟩
def nP {F gt n k hk xs fr rt v w} (a:TS w F gt n xs fr rt v) {a0 a1 a5 a6 l o p} (b:At8 xs k (xA a0 a1 hk l o a5 a6 p)):
 Calls prog 270 #[gt,(k:Int)] w λf w'=>f=.returned (.int .i64 hk)/\TS w' F gt n xs fr rt (wrap64 (v+1))/\LK F [] w w'/\VisK (λe=>e=gt) w w':=by
 have j:=a.ab (wrap64 (v+1));have i:=a.b4 3 (.int .i64 (wrap64 (v+1)));obtain ⟨ga,A,cap,tk,a⟩:=a;obtain ⟨g,r,rfl,c⟩:=a.rd.ex (zj (b.lt a.rd.len));have m:=a.rd.c1;have q:=a.rd.c3;have t:=a.rd.a.frozen 3;have x:=a.rd.a.lt;have u:=c.lt;have z:gt≠g:=Bk.ne a.rd.a c dC;have y:(k:Int) < n:=zj (b.lt a.rd.len)
 obtain ⟨_,_,s,_⟩:=a.rd.at b;have d:=(VisK.E a.rd.a (wrap64 (v+1)));clear a b c;go_enter func270,ntmps270;go_wp2_with fail;go_ret;exact ⟨rfl,j,i,d⟩
def aPe {d e:Nat} {A i j} (k:(d::e::(A++(i++j))).Nodup):d≠e/\(∀a,a∈A->a∉ [d,e])/\(∀a,a∈i->a∉ [d,e])/\∀a,a∈j->a∉ [d,e]:=by
 rw [zDe,zDe] at k;obtain ⟨c,g,_⟩:=k;simp only [zDf,zCp,not_or] at c g;refine ⟨c.1,λa b f=>?_,λa b f=>?_,λa b f=>?_⟩<;> simp only [zDf,zDh,or_false] at f <;> rcases f with rfl | rfl;exact c.2.1 b;exact g.1 b;exact c.2.2.1 b;exact g.2.1 b;exact c.2.2.2 b;exact g.2.2 b
def TurnP (F:Nat->Prop) (gt n b c:Nat) (xs:List Value) (fr:List Nat) (rt v:Int) (d:LT) (w w':World):Prop:=∃a,TS w' F gt n a fr rt v/\d.In w' a/\ButL [b,c] xs a/\LK F [] w w'/\KT gt w w'
def TurnP.from {F gt n a b xs fr rt v} {c:LT} {w0 w w'} (d:TurnP F gt n a b xs fr rt v c w w') (k0:LK F [] w0 w) (k:KT gt w0 w):TurnP F gt n a b xs fr rt v c w0 w':=by
 obtain ⟨l,e,f,g,i,j⟩:=d;exact ⟨l,e,f,g,k0.trans i,k.trans j⟩
def TurnP.below {F gt n a b xs fr rt v} {c:LT} {w w1 w'} (d:TurnP F gt n a b xs fr rt v c w w1) (k0:Below w1.heap.size w1 w'):TurnP F gt n a b xs fr rt v c w w':=by
 obtain ⟨k,e,f,g,i,j⟩:=d;exact ⟨k,e.below k0,f.below k0,g,i.trans (LK.below k0),j.trans (KT.below k0)⟩
def xD {F gt n k kl xs fr rt v} {a b c:LT} {w} (d:TS w F gt n xs fr rt v) (m:Nd xs k kl c.num) (q:Nd xs kl a.num b.num) (X:a.In w xs) (Y:b.In w xs) (Z:c.In w xs) (av:(k::kl::(a.nums++(b.nums++c.nums))).Nodup) (aN:a.L) (aO:b.L) (aP:c.L):
 Calls prog 272 #[gt,(k:Int)] w λg w'=>g=.returned (.int .i64 kl)/\TurnP F gt n k kl xs fr rt v (.nd kl a (.nd k b c)) w w':=by
 obtain ⟨ar,aJ,aL,aE,aG,m⟩:=m;obtain ⟨au,aK,aM,aF,aH,q⟩:=q;obtain ⟨ga,A,cap,tk,d⟩:=d;obtain ⟨f,b0,rfl,i⟩:=d.rd.ex (zj (m.lt d.rd.len));obtain ⟨z,E,T,U⟩:=aPe av;have Q:=d.rd.c1;have ax:=d.rd.a.lt;have aw:=i.lt;have aA:gt≠f:=Bk.ne d.rd.a i dC;have b2:(k:Int) < n:=zj (m.lt d.rd.len)
 have b3:(kl:Int) < n:=zj (q.lt d.rd.len)
 obtain ⟨aR,ai,_⟩:=d.rd.at m;obtain ⟨aj,ak,_⟩:=d.rd.at q;have aq:=λaB=>i.frozen aB;obtain ⟨an,s⟩:=eqx a.num;obtain ⟨e,H⟩:=eqx b.num;obtain ⟨S,y⟩:=eqx c.num;have a8:=(d.put (k*8) (.int .i64 e)).put (kl*8+1) (.int .i64 k);have af:LK F [] w ((w.setCell ⟨f,k*8,none⟩ (.int .i64 e)).setCell ⟨f,kl*8+1,none⟩ (.int .i64 k)):=(LK.set i dC (OwnF.at d.own) _).trans (LK.set (i.set (k*8) _) dC (OwnF.at d.own) _);have ay:At8 ((xs.set (k*8) (.int .i64 e)).set (kl*8+1) (.int .i64 k)) k (ndL e S ar aJ aL aE aG):=by rw [<-y];exact (m.set (j:=0) oM (.int .i64 e)).ac z (j:=1) oM _
 have az:At8 ((xs.set (k*8) (.int .i64 e)).set (kl*8+1) (.int .i64 k)) kl (ndL an k au aK aM aF aH):=by rw [<-s];exact (q.ac (j:=0) (λg=>z g.symm) oM (.int .i64 e)).set (j:=1) oM (.int .i64 k)
 have x:ButL [k,kl] xs ((xs.set (k*8) (.int .i64 e)).set (kl*8+1) (.int .i64 k)):=((But8.set k xs (j:=0) oM _).l zs).trans ((But8.set kl _ (j:=1) oM _).l zs);rw [H] at ak;rw [s] at aj;rw [y] at ai;have P:=(show KT gt w ((w.setCell ⟨f,k*8,none⟩ (.int .i64 e)).setCell ⟨f,kl*8+1,none⟩ (.int .i64 k)) from KT.keep (ka (F:=λb=>b=f) (ka (F:=λb=>b=f) (ke _ _) (p:=⟨f,k*8,none⟩) (.inl rfl) _) (p:=⟨f,kl*8+1,none⟩) (.inl rfl) _) i);have O:=(show TS _ F gt n _ fr rt v from ⟨ga,_,cap,tk,a8⟩);clear d m q a8 i;go_enter func272,ntmps272;go_wp2_with fail
 go_region
 obtain ⟨aT,W⟩:=eqx (((w.setCell ⟨f,k*8,none⟩ (.int .i64 e)).setCell ⟨f,kl*8+1,none⟩ (.int .i64 k)).drew);have V:=O.below (bR.drew);have ag:=af.trans (LK.below (F:=F) (bl:= []) (bR.drew));have ac:=P.trans (KT.below (gt:=gt) (bR.drew));rw [W] at V ag ac⊢;clear P W Q aR ai aj ak aq aA ax aw O af;go_wp2_with fail;obtain ⟨aU,b1,aV,aW,b8,M⟩:=Y.R;obtain ⟨aX,Q,aY,aZ,b9,N⟩:=Z.R;obtain ⟨a0,a1,a5,a6,b7,L⟩:=X.R;have C:=x _ _ (T _ b.num_mem) M;have D:=x _ _ (U _ c.num_mem) N;have B:=x _ _ (E _ a.num_mem) L;rw [H] at C;rw [y] at D;rw [s] at B;obtain ⟨ba,bb⟩:=aN;obtain ⟨bc,bd⟩:=aO;obtain ⟨be,bf⟩:=aP;have b4:=a.on_le;have b5:=b.on_le;have b6:=c.on_le;refine (kG V ay C D oM oM oM oM oM oM).mono ?_;rintro g bg ⟨rfl,aS,aQ,a9,I,aD,aI⟩;have al:=I _ _ (λg=>E _ a.num_mem (by rw [s,g];simp)) B;have aC:=I _ _ (λg=>z g.symm) az;clear M N L C D B;go_wp2_with fail;refine (kG aQ aC al (show At8 aS k (xA e S (max b.ht c.ht+1) (b.len+c.len) (b.on+c.on) b.len b.on none) from a9) oM oM oM oM oM oM).mono ?_;rintro g K ⟨rfl,u,ah,aa,J,ad,ae⟩;have r:ButL [k,kl] xs u:=x.trans ((I.l zs).trans (J.l zs));have t:LK F [] w K:=ag.trans (aD.trans ad);have ab:=J _ _ z a9;have a7:(LT.nd kl a (.nd k b c)).In K u:=by refine ⟨?_,X.but r t E zs,?_,Y.but r t T zs,Z.but r t U zs⟩;have ao:=LT.len_nd k b c;have ap:=LT.on_nd k b c;show At8 u kl (ndL (a.num:Int) (k:Int) ((max a.ht (max b.ht c.ht+1)+1:Nat):Int) ((a.len+(LT.nd k b c).len:Nat):Int) ((a.on+(LT.nd k b c).on:Nat):Int) (a.len:Int) (a.on:Int));rw [ao,ap,s];exact aa;show At8 u k (ndL (b.num:Int) (c.num:Int) ((max b.ht c.ht+1:Nat):Int) ((b.len+c.len:Nat):Int) ((b.on+c.on:Nat):Int) (b.len:Int) (b.on:Int));rw [H,y];exact ab
 have am:=(show TurnP F gt n k kl xs fr rt v (.nd kl a (.nd k b c)) w K from ⟨u,ah,a7,r,t,ac.trans (aI.trans ae)⟩);clear ae ah aa J ad r t ab a7;go_wp2_with fail;go_ret;exact ⟨rfl,am⟩
def xE {F gt n k kl xs fr rt v} {a b c:LT} {w} (d:TS w F gt n xs fr rt v) (m:Nd xs k a.num kl) (q:Nd xs kl b.num c.num) (X:a.In w xs) (Y:b.In w xs) (Z:c.In w xs) (av:(k::kl::(a.nums++(b.nums++c.nums))).Nodup) (aN:a.L) (aO:b.L) (aP:c.L):
 Calls prog 271 #[gt,(k:Int)] w λg w'=>g=.returned (.int .i64 kl)/\TurnP F gt n k kl xs fr rt v (.nd kl (.nd k a b) c) w w':=by
 obtain ⟨ar,aJ,aL,aE,aG,m⟩:=m;obtain ⟨au,aK,aM,aF,aH,q⟩:=q;obtain ⟨ga,A,cap,tk,d⟩:=d;obtain ⟨f,b0,rfl,i⟩:=d.rd.ex (zj (m.lt d.rd.len));obtain ⟨z,T,U,E⟩:=aPe av;have S:=d.rd.c1;have ax:=d.rd.a.lt;have aw:=i.lt;have aA:gt≠f:=Bk.ne d.rd.a i dC;have b2:(k:Int) < n:=zj (m.lt d.rd.len)
 have b3:(kl:Int) < n:=zj (q.lt d.rd.len)
 obtain ⟨ai,aR,_⟩:=d.rd.at m;obtain ⟨aj,ak,_⟩:=d.rd.at q;have aq:=λaB=>i.frozen aB;obtain ⟨Q,x⟩:=eqx a.num;obtain ⟨e,H⟩:=eqx b.num;obtain ⟨an,s⟩:=eqx c.num;have a8:=(d.put (k*8+1) (.int .i64 e)).put (kl*8) (.int .i64 k);have af:LK F [] w ((w.setCell ⟨f,k*8+1,none⟩ (.int .i64 e)).setCell ⟨f,kl*8,none⟩ (.int .i64 k)):=(LK.set i dC (OwnF.at d.own) _).trans (LK.set (i.set (k*8+1) _) dC (OwnF.at d.own) _);have ay:At8 ((xs.set (k*8+1) (.int .i64 e)).set (kl*8) (.int .i64 k)) k (ndL Q e ar aJ aL aE aG):=by rw [<-x];exact (m.set (j:=1) oM (.int .i64 e)).ac z (j:=0) oM _
 have az:At8 ((xs.set (k*8+1) (.int .i64 e)).set (kl*8) (.int .i64 k)) kl (ndL k an au aK aM aF aH):=by rw [<-s];exact (q.ac (j:=1) (λg=>z g.symm) oM (.int .i64 e)).set (j:=0) oM (.int .i64 k)
 have y:ButL [k,kl] xs ((xs.set (k*8+1) (.int .i64 e)).set (kl*8) (.int .i64 k)):=((But8.set k xs (j:=1) oM _).l zs).trans ((But8.set kl _ (j:=0) oM _).l zs);rw [H] at aj;rw [s] at ak;rw [x] at ai;have P:=(show KT gt w ((w.setCell ⟨f,k*8+1,none⟩ (.int .i64 e)).setCell ⟨f,kl*8,none⟩ (.int .i64 k)) from KT.keep (ka (F:=λb=>b=f) (ka (F:=λb=>b=f) (ke _ _) (p:=⟨f,k*8+1,none⟩) (.inl rfl) _) (p:=⟨f,kl*8,none⟩) (.inl rfl) _) i);have O:=(show TS _ F gt n _ fr rt v from ⟨ga,_,cap,tk,a8⟩);clear d m q a8 i;go_enter func271,ntmps271;go_wp2_with fail
 go_region
 obtain ⟨aT,W⟩:=eqx (((w.setCell ⟨f,k*8+1,none⟩ (.int .i64 e)).setCell ⟨f,kl*8,none⟩ (.int .i64 k)).drew);have V:=O.below (bR.drew);have ag:=af.trans (LK.below (F:=F) (bl:= []) (bR.drew));have ac:=P.trans (KT.below (gt:=gt) (bR.drew));rw [W] at V ag ac⊢;clear P W S ai aR aj ak aq aA ax aw O af;go_wp2_with fail;obtain ⟨aU,b1,aV,aW,b8,M⟩:=Y.R;obtain ⟨aX,S,aY,aZ,b9,N⟩:=Z.R;obtain ⟨a0,a1,a5,a6,b7,L⟩:=X.R;have C:=y _ _ (U _ b.num_mem) M;have D:=y _ _ (E _ c.num_mem) N;have B:=y _ _ (T _ a.num_mem) L;rw [H] at C;rw [s] at D;rw [x] at B;obtain ⟨ba,bb⟩:=aN;obtain ⟨bc,bd⟩:=aO;obtain ⟨be,bf⟩:=aP;have b4:=a.on_le;have b5:=b.on_le;have b6:=c.on_le;refine (kG V ay B C oM oM oM oM oM oM).mono ?_;rintro g bg ⟨rfl,aS,aQ,a9,I,aD,aI⟩;have al:=I _ _ (λg=>E _ c.num_mem (by rw [s,g];simp)) D;have aC:=I _ _ (λg=>z g.symm) az;clear M N L C D B;go_wp2_with fail;refine (kG aQ aC (show At8 aS k (xA Q e (max a.ht b.ht+1) (a.len+b.len) (a.on+b.on) a.len a.on none) from a9) al oM oM oM oM oM oM).mono ?_;rintro g K ⟨rfl,u,ah,aa,J,ad,ae⟩;have r:ButL [k,kl] xs u:=y.trans ((I.l zs).trans (J.l zs));have t:LK F [] w K:=ag.trans (aD.trans ad);have ab:=J _ _ z a9;have a7:(LT.nd kl (.nd k a b) c).In K u:=by refine ⟨?_,⟨?_,X.but r t T zs,Y.but r t U zs⟩,Z.but r t E zs⟩;have ao:=LT.len_nd k a b;have ap:=LT.on_nd k a b;show At8 u kl (ndL (k:Int) (c.num:Int) ((max (max a.ht b.ht+1) c.ht+1:Nat):Int) (((LT.nd k a b).len+c.len:Nat):Int) (((LT.nd k a b).on+c.on:Nat):Int) ((LT.nd k a b).len:Int) ((LT.nd k a b).on:Int));rw [ao,ap,s];exact aa;show At8 u k (ndL (a.num:Int) (b.num:Int) ((max a.ht b.ht+1:Nat):Int) ((a.len+b.len:Nat):Int) ((a.on+b.on:Nat):Int) (a.len:Int) (a.on:Int));rw [x,H];exact ab
 have am:=(show TurnP F gt n k kl xs fr rt v (.nd kl (.nd k a b) c) w K from ⟨u,ah,a7,r,t,ac.trans (aI.trans ae)⟩);clear ae ah aa J ad r t ab a7;go_wp2_with fail;go_ret;exact ⟨rfl,am⟩
end Go.Proofs.YtknjfpcdhdmghaaGreatDoor
