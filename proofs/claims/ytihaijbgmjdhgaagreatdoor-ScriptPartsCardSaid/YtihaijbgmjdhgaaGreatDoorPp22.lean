/- Lemmas of the walk. Conditions: each its own. -/
import Derived.Test.YtihaijbgmjdhgaaGreatDoorPp21
import Derived.Test.YtihaijbgmjdhgaaGreatDoorProg
import Derived.Test.YtihaijbgmjdhgaaGreatDoorShl
import Derived.Test.YtihaijbgmjdhgaaGreatDoorShi
import Derived.Test.YtihaijbgmjdhgaaGreatDoorSht
import Derived.Test.YtihaijbgmjdhgaaGreatDoorShs
set_option linter.all false
set_option maxRecDepth 100000
set_option maxHeartbeats 8000000
open Go.Proofs.Tryz
namespace Go.Proofs.YtihaijbgmjdhgaaGreatDoor
section
open Go.RowKit Go.Shelf
section
variable {w0 wr : World} {B : Nat} {sK own : Nat -> Nat} {gl gk gp rate : Nat} {mv : Int} {S T : List Nat} {N j : Nat} {R : List Nat} {pr0 pr : List (Nat × Nat)}
end
theorem Grew.after {w b e:World} {own d:Nat->Nat} (k:∀a,own a≠0->a < w.heap.size) (c:Keep (fun a=>own a=2∨16<=own a) w b) (g:Grew b e own d):Grew w e own d:=by
 have l:=c.size;refine ⟨fun a r=>g.old a oM,fun a p i=>?_,c.trans g.keep⟩;by_cases f:a < b.heap.size;have m:=g.old a f;have o:=k a oM;omega;exact g.new a oM i
end
section
open Go.RowKit
theorem Made.lf {w w':World} {m B:Nat} {own own':Nat->Nat} {a:TypeId} {e n d:Nat} {c:Option Addr} {f:List Value} (b:Made w B a e c n d f) (x:LF m w w' own own') (s:a≠288) (t:a≠229) (u:∀i,B<=i->own i=0):Made w' B a e c n d f:=by
 have k:w'.ownsRow B a e (.slice c n d) n f:=by refine ⟨b.own.1,?_⟩;rcases b.own.2 with q |⟨g,o,p,y,l,z,A⟩;exact .inl q;exact .inr ⟨g,o,p,y,l,x.vis.bk z s t (fun r=>r (u g l)),A⟩
 exact ⟨k,Rd.of_own k,b.cap,b.max⟩
section
variable {w w' : World} {B gs g gp n rate q : Nat} {own own' : Nat -> Nat} {v : Value} {R : Nat -> Told} {most : Int}
end
theorem rV (most:Nat) (b:List Sp):∀a,(txM (most:Int) b a).length<=most
 | 0=>zAp _
 | a+1=>by have c:=rV most b a;unfold txM;split;exact aB8 _ _ most _ _ _ c;exact c
theorem yC (most:Int) (a:List Sp) (b:Nat):(anM most a b).places.length<=(txM most a b).length+1:=by
 unfold anM;split;exact xU _ _ _ _ _ _;exact zAp _
theorem aDv {a:Stp} {w:World} (e:a.good w) (f:a.n<=60):SpB (uA a):=by
 obtain ⟨_,b,c,d,_⟩:=e;have i:a.D.length=a.n:=by simpa using d.1
 exact ⟨b,c,by show a.D.length<=_;omega⟩
theorem mQ (y:Option Addr) (d o:Nat) (a2:List Stp) (ci:Int) (w:World) (b5:Rd w w.heap.size 4 y d (aR a2)) (bB:a2.length=d) (ay:∀t∈a2,t.good w) (bD:d<=o) (bu:o<=maxLen):
 Calls prog 4 #[.slice y d o,.int .i64 ci] w fun r w'=>r=.returned (.bool true)/\Below w.heap.size w w':=by
 obtain ⟨d5,d7,cD,d1,d2,d3,d4⟩:=mG;obtain ⟨B,aY⟩:=eqx w.heap.size;rw [aY] at b5;have cA:∀t∈a2,Rd w B 1 t.A t.n (t.D.map bv):=fun t s=>by have:=(ay t s).2.2.2.1;rwa [aY] at this
 have cz:=aCx y d o B 30 a2 w b5 bB (zAk bD bu) (fun t s=>zAk (ay t s).2.2.2.2.1 (ay t s).2.2.2.2.2);obtain ⟨c5,cd,aU,df,bf⟩:=hqq5 aY b5 bB ay cA;have dL:d<=maxLen:=zAk bD bu;simp only [maxLen] at dL;clear aY b5 bB ay cA bu;go_enter func4,ntmps4;go_wp2_with fail;refine cz.mono ?_;clear cz;rintro r w0 ⟨rfl,rfl⟩;cases J:vB a2 d 30 with
 | false=>
   go_wp2_with fail;refine (pD w).mono ?_;rintro r a3 ⟨rfl,cu⟩;have dc:=lhd cu;clear cu;go_wp2_with fail;go_ret;exact ⟨rfl,dc.out⟩
 | true=>
 obtain ⟨eB,cm⟩:=aAB J;obtain ⟨c,dJ,eA⟩:=aCA ci ((d:Int)+1) oM;have dr:IntKind.i64.wrap ((d:Int)+1)=(d:Int)+1:=by rw [IntKind.wrap_i64];omega
 have ds:IntKind.u64.wrap ((d:Int)+1)=(d:Int)+1:=by rw [IntKind.wrap_u64];omega
 have ee:IntKind.i64.wrap (c:Int)=(c:Int):=by rw [IntKind.wrap_i64];omega
 have bi:¬((d:Int)+1=0):=oM;have bz:c<=d:=oM;obtain ⟨p,b1⟩:=eqx (a2.map uA);have cq:p.length=d:=by rw [<-b1];simpa using aU.out
 have cU:∀t∈p,SpB t:=by rw [<-b1];intro t s;obtain ⟨d6,cZ,rfl⟩:=zAx.1 s;exact aDv (df.out d6 cZ) (cm d6 cZ)
 have cr:∀j,(txM (100:Int) p j).length<=549755813888:=fun j=>by have:=rV 100 p j;rw [show ((100:Nat):Int)=100 from rfl] at this;omega
 have cn:∀j,(anM (100:Int) p j).places.length<=1099511627776:=fun j=>by have a5:=yC (100:Int) p j;have a1:=rV 100 p j;rw [show ((100:Nat):Int)=100 from rfl] at a1;omega
 obtain ⟨am,eb,bh,aS,da⟩:=hqq5 b1 cq cU cr cn;clear cm b1 cq cU cr cn J;go_wp2_with fail;clear bi dr ds dJ;refine (yP 100 w oM oM).mono ?_;rintro r w1 ⟨ac,ad,rfl,bs,dF,cB,dN,aB,cQ⟩;have cM:MdAt w1 ac ad 100 []:=⟨aB,⟨_,_,cQ,⟨rfl,fun E=>absurd E (by simp)⟩,zAp _,fun E=>absurd E (by simp)⟩,by omega,by omega⟩;rw [c5.out] at bs cB;obtain ⟨aV,cb⟩:=hqq2 cM bs;clear cM bs dF dN aB cQ;go_wp2_with fail;refine (yP 100 w1 oM oM).mono ?_;rintro r aj ⟨u,gp,rfl,b2,dH,ey,dO,aD,af⟩;have cJ:MdAt aj u gp 100 []:=⟨aD,⟨_,_,af,⟨rfl,fun E=>absurd E (by simp)⟩,zAp _,fun E=>absurd E (by simp)⟩,by omega,by omega⟩;have cN:=aV.out.below b2;have ez:ad < gp:=by have:=aV.out.lt;omega
 have co:B<=w1.heap.size:=by have:=aV.out.lt;omega
 have ct:=cb.out.trans (b2.mono co);have cp:B<=aj.heap.size:=zAk co b2.size;have bo:B<=gp:=oM;obtain ⟨cc,bg,aT⟩:=hqq3 cJ cN ct;clear cJ cN ct b2 dH dO aD af aV cb;go_wp2_with fail;have cV:StpM aj B y d p:=by rw [<-am.out];exact rX (cd.out.below aT.out) aU.out (fun t s=>(bf.out t s).below aT.out) cp
 refine (gJ B ac ad 100 (txM (100:Int) p) (anM (100:Int) p) y d o p aj bg.out cB cV oM bh.out aS.out fun j t s=>aBk s).mono ?_;clear cV;rintro r a3 ⟨eG,eH,rfl,bF,cS,bE,bA,cF⟩;obtain ⟨_,_,cP,_⟩:=bg.out.pl;have bL:=(AnsAt.of_plain bF cS).mono (zAp _);have b4:=cc.out.keepX cF oM cP;have av:=aT.out.trans bA.low;have dx:B<=a3.heap.size:=zAk cp bA.sz;obtain ⟨bc,aq,rfl,eC,ex⟩:=bL.slice;obtain ⟨I,bp⟩:=eqx a3.heap.size;have dT:∀a0,(Value.slice bc d aq).ownBlock=some a0->a0 < I:=fun a0 G=>by have:=(bF.lt a0 G).2;omega
 obtain ⟨ao,bq⟩:=eqx (txM (100:Int) p c);obtain ⟨z,br⟩:=eqx (txM (100:Int) p d);rw [br] at bE;have bI:=cd.out.below av;have au:∀a,MdAt a u gp 100 []->Below B a3 a->B<=a.heap.size->Calls prog 14 #[u,.slice (cC y o 0 4) c o] a (nG a B u gp 100 (txM (100:Int) p) (anM (100:Int) p) c):=fun a bn ap bP=>by
  have aJ:=(bI.below ap).cut_hi0 (cap:=o) bz;rw [pU] at aJ;have bJ:=rX aJ (by rw [zAj,aU.out];omega) (fun t s=>((bf.out t (List.mem_of_mem_take s)).below av).below ap) bP;exact gJ B u gp 100 (txM (100:Int) p) (anM (100:Int) p) _ c o ((a2.take c).map uA) a bn bo bJ oM (fun t s=>bh.out t (by rw [<-am.out];rw [List.map_take] at s;exact List.mem_of_mem_take s)) aS.out fun j t s=>by
   refine aBk ?_;rw [List.map_take,am.out,zBq] at s;split at s;exact s
   · cases s
 have cs:∀a,MdAt a u gp 100 ao->Below B a3 a->B<=a.heap.size->Calls prog 14 #[u,.slice (cC y o c 4) (d - c) (o - c)] a (nG a B u gp 100 (fun j=>txM (100:Int) p (c+j)) (fun j=>anM (100:Int) p (c+j)) (d - c)):=fun a bn ap bP=>by have aJ:=(bI.below ap).cut (cap:=o) bz bD;rw [pX] at aJ;have bJ:=rX aJ (by rw [zAv,aU.out]) (fun t s=>((bf.out t (List.mem_of_mem_drop s)).below av).below ap) bP;exact gJ B u gp 100 (fun j=>txM (100:Int) p (c+j)) (fun j=>anM (100:Int) p (c+j)) _ (d - c) (o - c) ((a2.drop c).map uA) a (by show MdAt a u gp 100 (txM (100:Int) p (c+0));rw [zBo,bq];exact bn) bo bJ oM (fun t s=>bh.out t (by rw [<-am.out];rw [List.map_drop] at s;exact List.mem_of_mem_drop s)) (fun j=>aS.out (c+j)) fun j t s=>by rw [List.map_drop,am.out,zBr] at s;exact aBk s
 have c6:Hid (PtC a3 B I gp ac ad 100 z (.slice bc d aq) d (anM (100:Int) p) a3):=lhd ⟨Below.refl _ _,dx,Nat.le_of_eq bp.symm,by obtain ⟨_,_,E,_⟩:=b4.pl;exact ⟨_,E⟩,bL,bE⟩;have bd:Hid (∀H,PtU u gp 100 ao false H a3):=lhd fun H=>⟨fun _=>b4,fun _=>b4⟩;obtain ⟨al,c8,ca⟩:=hqq3 au cs av;have Z:=lhd (And.intro cD (And.intro d1 (And.intro d2 (And.intro d3 d4))));obtain ⟨db,c7,ec⟩:=hqq3 bq br bp;have dy:B<=I:=oM;have dM:ad≠gp:=oM;clear bF cS bE bA cF cP bL b4 av bI au cs bq br bp cD d1 d2 d3 d4 cc bg aT;have ev:∀w,(Instr.sliceAt 31 (.slice y d o) none (some (.int .i64 (c:Int))) none).run prog w=.ok (.slice (cC y o 0 4) c o) w:=hQ 31 44 4 underlying31 (fun w=>by kernel_rfl) y d o c oM;have ew:∀w,(Instr.sliceAt 31 (.slice y d o) (some (.int .i64 (c:Int))) none none).run prog w=.ok (.slice (cC y o c 4) (d - c) (o - c)) w:=eO 31 44 4 underlying31 (fun w=>by kernel_rfl) y d o c bz;go_wp2_with fail;refine wp_region_any kR ?_;refine tT 12 5 [42,43,44,45,46,47,48,49,50,51,52,53] (fun _=>PtC a3 B I gp ac ad 100 z (.slice bc d aq) d (anM (100:Int) p)) (fun _=>PtS gp 100 u ao z) (PtU u gp 100 ao) (Vs [aAC I,is u,is (.slice y d o),is (c:Int),is (.slice (cC y o 0 4) c o),fun v w=>AnsAt w I v c (anM (100:Int) p),fun v w=>AnsAt w I v c (anM (100:Int) p),is u,is (.slice y d o),is (c:Int),is (.slice (cC y o c 4) (d - c) (o - c)),PtV u gp 100 z I (d - c) (fun j=>anM (100:Int) p (c+j))]) _ _ rfl dC kR kR c6.out.drew (fun H=>⟨fun r=>((bd.out H).1 r).below (kY _ _),fun r=>((bd.out H).2 r).below (kY _ _)⟩) (fun _ j w1 aj _ _ E c=>E.step c bo dM) ?_ ?_ ?_ ?_
 · intro aX H j w1 aj _ b3 _ ag dS b0 c;refine dS.step c b3 fun r ar=>?_;subst r;subst ar;rw [show upB _ _ _ _ _=true from by kernel_rfl] at ag;cases ag
 · intro aX H j v w1 aj _ b3 _ eu ag A b0 c;rcases H with _ | _ | _ | _ | _ | _ | _ | _ | _ | _ | _ | _ | H;obtain ⟨ch,a6⟩:=b0.2.2.2.1;by_cases L:j=5;exact rC A a6 (c.1 L).1;by_cases a4:j=11;exact rC A a6 (c.2.1 a4).1;exact xS A (c.2.2 L a4);exact A;exact A;exact A;exact A;obtain ⟨ch,a6⟩:=b0.2.2.2.1;by_cases L:j=5;exact (fun q=>AnsAt.keep A q a6 dC dC dC) (c.1 L).1;by_cases a4:j=11;exact (fun q=>AnsAt.keep A q a6 dC dC dC) (c.2.1 a4).1;exact AnsAt.below A (c.2.2 L a4);obtain ⟨ch,a6⟩:=b0.2.2.2.1;by_cases L:j=5;exact (fun q=>AnsAt.keep A q a6 dC dC dC) (c.1 L).1;by_cases a4:j=11;exact (fun q=>AnsAt.keep A q a6 dC dC dC) (c.2.1 a4).1;exact AnsAt.below A (c.2.2 L a4);exact A;exact A;exact A;exact A
   · by_cases L:j=5
     · subst L;rw [show upB _ _ _ _ _=true from by kernel_rfl] at ag;cases ag
     exact ⟨AnsAt.below A.1 (c.2.2 L (fun r=>b3 r.symm)),A.2.below (c.2.2 L (fun r=>b3 r.symm))⟩
   exact trivial
 · intro aX j eE dI l et ag;rcases j with _ | _ | _ | _ | _ | _ | _ | _ | _ | _ | _ | _ | j
   · injection l with l;subst l;refine bT rfl rfl ?_;intro k a b x X J C e V U M f;have an:=lhd b.2.2.1;clear x b;go_simp;exact f _ _ (gK dC dC (bR.alloc nL _)) ⟨_,rfl,an.out,Bk.new _ _ _⟩
   · injection l with l;subst l;refine bT rfl rfl ?_;intro k a b x X J C e V U M f;have bl:k (.tmp 8)=.pointer (some u):=C 8 kR;clear x b;go_simp;exact f _ _ (gK dC dC bR) rfl
   · injection l with l;subst l;refine bT rfl rfl ?_;intro k a b x X J C e V U M f;have bi:k (.tmp 0)=.slice y d o:=C 0 kR;clear x b;go_simp;exact f _ _ (gK dC dC bR) rfl
   · injection l with l;subst l;refine bT rfl rfl ?_;intro k a b x X J C e V U M f;have bk:k (.tmp 5)=.int .i64 (c:Int):=C 5 kR;clear x b;go_simp;exact f _ _ (gK dC dC bR) rfl
   · injection l with l;subst l;refine bT rfl rfl ?_;intro k a b x X J C e V U M f;have eg:k (.tmp 44)=.slice y d o:=e 2 44 kR rfl;have eh:k (.tmp 45)=.int .i64 (c:Int):=e 3 45 kR rfl;clear x b;go_simp;exact f _ _ (gK dC dC bR) rfl
   · injection l with l;subst l;refine bT rfl rfl ?_;intro k a b x X J C e V U M f;have ef:k (.tmp 43)=.pointer (some u):=e 1 43 kR rfl;have ei:k (.tmp 46)=.slice (cC y o 0 4) c o:=e 4 46 kR rfl;have bw:=al.out a (x.1 rfl) b.1 b.2.1;have an:=lhd b.2.2.1;clear x b;go_simp;refine bw.mono ?_;intro r Q ax;cases r with
     | returned v=>
       obtain ⟨a5,a1⟩:=aDx (T2:=z) an.out ax db.out;exact f _ _ a1 a5
     | _=>obtain ⟨_,_,bx,_⟩:=ax;cases bx
   injection l with l;subst l;refine bT rfl rfl ?_;intro k a b x X J C e V U M f;have e2:(aAC I) (k (.tmp 42)) a:=e 0 42 kR rfl;have bN:(fun v w=>AnsAt w I v c (anM (100:Int) p)) (k (.tmp 47)) a:=e 5 47 kR rfl;obtain ⟨dw,dt,dE,dB⟩:=e2;obtain ⟨d8,dp,cj,_,_⟩:=AnsAt.slice bN;rw [cj] at bN;obtain ⟨bb,aE,aH⟩:=bN;subst M;have dz:=b.2.2.1;refine nW a (.tmp 42) (.tmp 47) _ rfl I 41 d5 d7 4 64 underlying33 Z.out.1 Z.out.2.1 Z.out.2.2.1 Z.out.2.2.2.1 Z.out.2.2.2.2 dC dw 0 #[] dt dB rfl dE oM a.heap.size d8 c dp bb cj (Rd.of_own aE) (by simp only [maxLen];omega) oM dz ?_;intro e7 Q aF K _;rw [zBh] at aF;exact f _ _ (gK dC dC K) ⟨bb,aF,fun j cE=>(aH j cE).same fun g aM aW _ _ E=>E.below K E.lt⟩
   · injection l with l;subst l;refine bT rfl rfl ?_;intro k a b x X J C e V U M f;have bl:k (.tmp 8)=.pointer (some u):=C 8 kR;clear x b;go_simp;exact f _ _ (gK dC dC bR) rfl
   · injection l with l;subst l;refine bT rfl rfl ?_;intro k a b x X J C e V U M f;have bi:k (.tmp 0)=.slice y d o:=C 0 kR;clear x b;go_simp;exact f _ _ (gK dC dC bR) rfl
   · injection l with l;subst l;refine bT rfl rfl ?_;intro k a b x X J C e V U M f;have bk:k (.tmp 5)=.int .i64 (c:Int):=C 5 kR;clear x b;go_simp;exact f _ _ (gK dC dC bR) rfl
   · injection l with l;subst l;refine bT rfl rfl ?_;intro k a b x X J C e V U M f;have ek:k (.tmp 50)=.slice y d o:=e 8 50 kR rfl;have el:k (.tmp 51)=.int .i64 (c:Int):=e 9 51 kR rfl;clear x b;go_simp;exact f _ _ (gK dC dC bR) rfl
   · injection l with l;subst l;refine bT rfl rfl ?_;intro k a b x X J C e V U M f;have ej:k (.tmp 49)=.pointer (some u):=e 7 49 kR rfl;have em:k (.tmp 52)=.slice (cC y o c 4) (d - c) (o - c):=e 10 52 kR rfl;have dD:aX=true:=ag kR;subst dD;have bw:=c8.out a (x.2 rfl) b.1 b.2.1;have an:=lhd b.2.2.1;clear x b;go_simp;refine bw.mono ?_;intro r Q ax;cases r with
     | returned v=>
       obtain ⟨a5,a1⟩:=aCP (T1:=ao) an.out ax (by show txM (100:Int) p (c+(d - c))=z;rw [show c+(d - c)=d by omega];exact c7.out);exact f _ _ a1 a5
     | _=>obtain ⟨_,_,bx,_⟩:=ax;cases bx
   exact absurd dI oM
 · intro aX k Y ar _ ae e;have bO:(fun v w=>AnsAt w I v c (anM (100:Int) p)) (k (.tmp 48)) Y:=e 6 48 dC rfl;have e3:(PtV u gp 100 z I (d - c) (fun j=>anM (100:Int) p (c+j))) (k (.tmp 53)) Y:=e 11 53 dC rfl;simp only [zqq];clear e;obtain ⟨bM,cK⟩:=e3;obtain ⟨d9,dq,cl,_,_⟩:=bM.slice;rw [cl] at bM;obtain ⟨e9,ed,ck,_,_⟩:=AnsAt.slice bO;rw [ck] at bO;rw [ck,cl];obtain ⟨bb,ak,cR⟩:=bO;obtain ⟨e8,aE,aH⟩:=bM;change wpAny prog Region.Mode.any _ _ (2+ar) (bG 12 14) _ Y;rw [show 2+ar=ar+1+1 by omega];refine dW (i:=12) kR ?_;refine eT rfl rfl ?_;refine dG Y (.tmp 48) (.tmp 53) _ rfl I 41 d5 d7 4 64 underlying33 Z.out.1 Z.out.2.1 Z.out.2.2.1 Z.out.2.2.2.1 Z.out.2.2.2.2 dC _ c bb rfl ak Y.heap.size d9 (d - c) dq e8 rfl (Rd.of_own aE) (aCK aE.1 aH) (by simp only [maxLen];omega) oM ae.2.2.1 ?_;intro e7 Q aF a7 _;have b6:=(AnsAt.app ak cR aH aF a7).mono (zAp _);rw [show c+(d - c)=d by omega] at b6;have bt:∀a0 aM aW,aM≠41->Bk Y a0 aM aW->Bk Q a0 aM aW:=fun a0 aM aW dR G=>(a7.block a0 G.lt (aK ak G (fun r=>dR r.symm))).trans G;have cL:=cK.keep a7.size bt;have cI:=ae.2.2.2.2.2.keep a7.size bt;have cv:Below B Y Q:=aL bR (aZ ak dy) a7 ae.2.1;have K:=ca.out.trans (ae.1.trans cv);have d0:=AnsAt.sep ae.2.2.2.2.1 dT ak a7;obtain ⟨dm,dn,dg,dh,dd,ce⟩:=hqq6 d0 b6 cI cL K (show B<=Q.heap.size from zAk ae.2.1 a7.size);obtain ⟨ea,cg,dv,_,_⟩:=b6.slice;clear cK ak cR aE aH aF a7 b6 bt cL cI cv K d0 ae c6 bd al c8 ca;simp only [Act.put,List.setIfInBounds_toArray,List.set_cons_zero,List.set_cons_succ];refine dW (i:=13) kR ?_;refine eT rfl rfl ?_;generalize f:wpAny prog _ _ _ _ _=K5;go_simp;subst f;refine fK kR ?_;subst dv;go_wp2_with fail;go_loopw [12] (fun H wr=>∃j:Nat,j<=d/\H=.int .i64 (j:Int)/\Below Q.heap.size Q wr) (fun H _=>d -(intOf H).toNat)
   case atStart=>exact ⟨0,zAp _,rfl,Below.refl _ _⟩
   case round=>
    obtain ⟨j,cE,rfl,G⟩:=hrel;by_cases cG:j < d
    · obtain ⟨aa,ah,bj,az,cx⟩:=(dm.out.below G).get oM;obtain ⟨ab,ai,bk,aA,cy⟩:=(dn.out.below G).get oM;subst bj;subst bk;obtain ⟨m,dQ⟩:=eqx (anM (100:Int) p j);obtain ⟨aN,b9,aO,ba,bQ,bS,bU,bV,bW,bX⟩:=cx j cG;obtain ⟨aP,b7,aQ,b8,bY,bZ,c0,c1,c2,c3⟩:=cy j cG;have af:=da.out j;rw [dQ] at bQ bS bU bV bW bX bY bZ c0 c1 c2 c3 af
      have au:∀a,Grow wr a->a.cell? ⟨aa,ah+j*4,none⟩=some (.int .i64 m.code)/\a.cell? ⟨aa,ah+j*4+1,none⟩=some (.int .i64 m.num)/\a.cell? ⟨aa,ah+j*4+2,none⟩=some (.slice aN m.data.length b9)/\a.cell? ⟨aa,ah+j*4+3,none⟩=some (.slice aO m.places.length ba)/\a.cell? ⟨ab,ai+j*4,none⟩=some (.int .i64 m.code)/\a.cell? ⟨ab,ai+j*4+1,none⟩=some (.int .i64 m.num)/\a.cell? ⟨ab,ai+j*4+2,none⟩=some (.slice aP m.data.length b7)/\a.cell? ⟨ab,ai+j*4+3,none⟩=some (.slice aQ m.places.length b8):=fun a b=>
         ⟨(b.cell az).trans bQ,(b.cell az).trans bS,(b.cell az).trans bU,(b.cell az).trans bV,(b.cell aA).trans bY,(b.cell aA).trans bZ,(b.cell aA).trans c0,(b.cell aA).trans c1⟩
      have cT:∀a,Grow wr a->Calls prog 16 #[.agg #[.int .i64 m.code,.int .i64 m.num,.slice aN m.data.length b9,.slice aO m.places.length ba],.agg #[.int .i64 m.code,.int .i64 m.num,.slice aP m.data.length b7,.slice aQ m.places.length b8]] a fun r w'=>r=.returned (.bool true)/\Below a.heap.size a w':=fun a b=>
         (aCp m.code m.code m.num m.num aN aP aO aQ m.data.length b9 m.data.length b7 m.places.length ba m.places.length b8 _ _ _ _ m.data m.data m.places m.places a (bW.rd.below b) (c2.rd.below b) (bX.rd.below b) (c3.rd.below b) b.size b.size b.size b.size af af).mono (by rintro r w' ⟨rfl,E⟩;exact ⟨by simp,E⟩)
      obtain ⟨al,di,c9⟩:=hqq3 au cT G;have eD:(j:Int) < (d:Int):=oM;clear au cT G cx cy bQ bS bU bV bW bX bY bZ c0 c1 c2 c3 af az aA;go_wp2_with fail;refine wp_region_any kR ?_;refine aI [73,74,75,76,77,78,79,80,81,82] (Grow) (Vs [is (.slice (some ⟨aa,ah,none⟩) d aq),is (j:Int),is (.pointer (some ⟨aa,ah+j*4,none⟩)),is (.agg #[.int .i64 m.code,.int .i64 m.num,.slice aN m.data.length b9,.slice aO m.places.length ba]),is (.slice (some ⟨ab,ai,none⟩) d cg),is (j:Int),is (.pointer (some ⟨ab,ai+j*4,none⟩)),is (.agg #[.int .i64 m.code,.int .i64 m.num,.slice aP m.data.length b7,.slice aQ m.places.length b8]),is (.bool true),is (.bool false)]) _ _ rfl kR bR (fun _ _=>Grow.trans) (fS tA2) ?_ ?_
      · refine aG ?_;refine pH 10 (.slice (some ⟨aa,ah,none⟩) d aq) ?_;refine pH 12 (.int .i64 (j:Int)) ?_;refine pW 0 73 1 74 ?_;refine sC (fun _ a b _ _ _ e _ _ _ f=>?_) ?_
        · have en:_=_:=e 2 75 kR rfl;replace b:(Grow) wr a:=gD b;obtain ⟨k0,dU,dV,dX,dY,dZ,e0,e1⟩:=al.out a b;go_simp;exact f _ _ bR rfl
        refine pH 11 (.slice (some ⟨ab,ai,none⟩) d cg) ?_;refine pH 12 (.int .i64 (j:Int)) ?_;refine pW 4 77 5 78 ?_;refine sC (fun _ a b _ _ _ e _ _ _ f=>?_) ?_
        · have ep:_=_:=e 6 79 kR rfl;replace b:(Grow) wr a:=gD b;obtain ⟨k0,dU,dV,dX,dY,dZ,e0,e1⟩:=al.out a b;go_simp;exact f _ _ bR rfl
        refine sC (fun _ a b _ _ _ e _ _ _ f=>?_) ?_
        · have eo:_=_:=e 3 76 kR rfl;have eq:_=_:=e 7 80 kR rfl;replace b:(Grow) wr a:=gD b;go_simp;refine (di.out a b).mono ?_;rintro r Q ⟨rfl,K⟩;exact f _ _ K rfl
        refine pV 8 81 ?_;exact aC
      · intro k Y b e;replace b:(Grow) wr Y:=gD b;have du:k (.tmp 82)=.bool false:=e 9 82 rfl;simp only [zqq];rw [du];clear e;have aw:=c9.out.trans (b.mono c9.out.size);have be:=lhd aw;clear aw b;go_wp2_with fail;go_roundw
        case rel=>exact ⟨j+1,by omega,by go_num,be.out⟩
        case measure=>simp [intOf];omega
    · have dK:j=d:=oM;subst dK;have aB:=dg.out.below G;have aD:=dh.out.below G;have cw:=dd.out.trans (G.mono ce.out);have cW:B<=wr.heap.size:=zAk ce.out G.size;have dA:z.length<=549755813888:=(by rw [<-c7.out];exact aS.out _);obtain ⟨O,cO⟩:=eqx z.length;have bK:∀(g bm:Nat) a,MdAt wr g bm 100 z->Grow wr a->Calls prog 19 #[.pointer (some ⟨g,0,none⟩)] a fun r w'=>∃c4 cf,r=.returned (.slice c4 O cf)/\Made w' a.heap.size 5 1 c4 O cf (z.map bv)/\Below a.heap.size a w':=fun g bm a cH b=>by obtain ⟨F,W,a5,a1,_,_⟩:=(cH.below b).pl;have:=aAp g bm F z.length W _ z 100 a (cH.below b).mod a5 a1 nL oM;rw [cO] at this;exact this
      have cX:=fun a b=>bK ac ad a aB b;have cY:=fun a b=>bK u gp a aD b;obtain ⟨dk,dl,de,dj⟩:=hqq4 cX cY cw cW;clear aB aD cw cW bK cX cY G dA cO;go_wp2_with fail;refine wp_region_any kR ?_;refine aI [83,84,85,86,87,88,89,90,91,92,4] (Grow) (Vs [is (.bool true),is (.bool true),is ac,fun v w=>∃F W,v=.slice F O W/\Rd w w.heap.size 1 F O (z.map bv),is (.string ⟨z.toArray⟩),is u,fun v w=>∃F W,v=.slice F O W/\Rd w w.heap.size 1 F O (z.map bv),is (.string ⟨z.toArray⟩),is (.bool true),is (.bool true),is (.bool true)]) _ _ rfl kR bR (fun _ _=>Grow.trans) (fS (by repeat' (first | exact nO _ _ | exact oE _ | exact (fun _ _ _ ⟨F,W,a5,a1⟩ c=>⟨F,W,a5,(a1.below c).mono c.size⟩)|(refine zAe.2 ⟨?_,?_⟩)|(intro eF dP;cases dP)))) ?_ ?_
      · refine aG ?_;refine sC (fun _ a _ _ _ _ _ _ _ _ f=>?_) ?_
        · go_simp;refine (pD a).mono ?_;rintro r Q ⟨rfl,K⟩;exact f _ _ K rfl
        refine pV 0 83 ?_;refine gH 84 true 6 (.pointer (some ac)) ?_;refine sG 84 true (fun _ a b _ _ _ e _ _ _ f=>?_) ?_
        · have er:_=_:=e 2 85 kR rfl;replace b:(Grow) wr a:=gD b;go_simp;refine (dk.out a b).mono ?_;rintro r Q ⟨a8,a9,rfl,bC,K⟩;exact f _ _ K ⟨a8,a9,rfl,bC.rd⟩
        refine sG 84 true (fun k a _ _ _ _ e _ _ _ f=>?_) ?_
        · have e4:(fun v w=>∃F W,v=.slice F O W/\Rd w w.heap.size 1 F O (z.map bv)) (k (.tmp 86)) a:=e 3 86 kR rfl;obtain ⟨a8,a9,bl,bH⟩:=e4;have e6:(convert 22 9 (.slice a8 O a9)).run prog a=.ok (.string ⟨z.toArray⟩) a:=eN (P:=prog) 22 9 5 underlying22 underlying5 underlying9 bH;go_simp;exact f _ _ bR rfl
        refine gH 84 true 8 (.pointer (some u)) ?_;refine sG 84 true (fun _ a b _ _ _ e _ _ _ f=>?_) ?_
        · have es:_=_:=e 5 88 kR rfl;replace b:(Grow) wr a:=gD b;go_simp;refine (dl.out a b).mono ?_;rintro r Q ⟨a8,a9,rfl,bC,K⟩;exact f _ _ K ⟨a8,a9,rfl,bC.rd⟩
        refine sG 84 true (fun k a _ _ _ _ e _ _ _ f=>?_) ?_
        · have e5:(fun v w=>∃F W,v=.slice F O W/\Rd w w.heap.size 1 F O (z.map bv)) (k (.tmp 89)) a:=e 6 89 kR rfl;obtain ⟨a8,a9,bl,bH⟩:=e5;have e6:(convert 22 9 (.slice a8 O a9)).run prog a=.ok (.string ⟨z.toArray⟩) a:=eN (P:=prog) 22 9 5 underlying22 underlying5 underlying9 bH;go_simp;exact f _ _ bR rfl
        refine gW 84 true 4 87 7 90 ?_;refine pW 1 84 8 91 ?_;refine pV 9 92 ?_;exact aC
      · intro k Y b e;replace b:(Grow) wr Y:=gD b;have bj:k (.tmp 4)=.bool true:=e 10 4 rfl;simp only [zqq];rw [bj];clear e;have aw:=de.out.trans (b.mono dj.out);have be:=lhd aw;clear aw b;go_wp2_with fail;go_ret;exact ⟨rfl,by rw [c5.out];exact be.out⟩
end
end Go.Proofs.YtihaijbgmjdhgaaGreatDoor
