/- Lemmas of the walk. Conditions: each its own. -/
import Derived.Test.YtlghmcogeipojaaGreatDoorPm11
set_option linter.all false
set_option maxRecDepth 100000
set_option maxHeartbeats 4000000
open Go.Proofs.Tryz
namespace Go.Proofs.YtlghmcogeipojaaGreatDoor
open Go.RowKit
def shT (a:Tr):Shp:=⟨(a.bits.length:Int),(a.ht:Int),(a.lv:Int),2*(a.lv:Int) - 1⟩
def shE:Option Tr->List Shp
 | none=> []
 | some a=> [shT a]
def shL (a:Nat->Option Tr):Nat->List Shp
 | 0=> []
 | p+1=>shL a p++shE (a p)
def shA (a:Nat->Nat->Option Tr):Nat->List Shp
 | 0=> []
 | lv+1=>shA a lv++shL (a lv) (2 ^ lv)
def aMb (d:List Nat) (c:Nat->Nat->Option Tr):Prop:=∀lv a,lv < 9->a < 2 ^ lv->cH (c lv a)=aM d lv a/\∀b,c lv a=some b->b.Ok/\b.bits.length<=1100
def aMD {e:Nat->Option Tr} {b} {g:Shp} (a:g∈shL e b):∃d c,d < b/\e d=some c/\g=shT c:=by
 induction b with
 | zero=>cases a
 | succ b j=>
  unfold shL at a;rcases zCp.1 a with a | a;obtain ⟨d,c,k,i⟩:=j a;exact ⟨d,c,by omega,i⟩
  .cases f:e b with
   | none=>
    rw [f] at a;cases a
   | some c=>
    rw [f] at a;exact ⟨b,c,by omega,f,zDa.1 a⟩
def aME {f:Nat->Nat->Option Tr} {d} {i:Shp} (a:i∈shA f d):∃lv b c,lv < d/\b < 2 ^ lv/\f lv b=some c/\i=shT c:=by
 induction d with
 | zero=>cases a
 | succ d j=>
  unfold shA at a;rcases zCp.1 a with a | a;obtain ⟨lv,b,c,g,e⟩:=j a;exact ⟨lv,b,c,by omega,e⟩;obtain ⟨b,c,g,e⟩:=aMD a;exact ⟨d,b,c,by omega,g,e⟩
def aCQ (b:Nat->Option Tr) (a):(shL b a).length<=a:=by
 induction a with
 | zero=>exact zAs _
 | succ a c=>
  unfold shL;rw [zAi];cases b a with
  | none=>show _+0<=_;omega
  | some d=>show _+1<=_;omega
def aMF (b:Nat->Nat->Option Tr):(shA b 9).length<=511:=by
 have a:=λlv=>aCQ (b lv) (2 ^ lv);have:=a 0;have:=a 1;have:=a 2;have:=a 3;have:=a 4;have:=a 5;have:=a 6;have:=a 7;have:=a 8;simp only [shA,zAi,zDM];omega
def aJp {b} (c:∀a∈b,a < 257):(aM b 0 0).length=b.length:=by
 rw [iX,zDJ];intro a d;have e:=c a d;have:bF a 0=0:=by unfold bF;omega
 rw [this];rfl
def aKp {e} {a:Nat->Nat->Option Tr} (o:aMb e a) (n:∀q∈e,q < 257) (k:e≠ []):∃d b,shA a 9=shT d::b/\d.bits.length=e.length:=by
 have j:=aJp n;have f:=(o 0 0 dC dC).1;cases g:a 0 0 with
 | none=>
  rw [g] at f;rw [<-f] at j;exact absurd (List.length_eq_zero_iff.1 j.symm) k
 | some d=>
  rw [g] at f;have l:shA a 1= [shT d]:=(by show []++([]++shE (a 0 0))=_;rw [g];rfl);have m:∀c,∃b,shA a (1+c)=shT d::b:=λc=>by
   induction c with
   | zero=>exact ⟨[],l⟩
   | succ c p=>
    obtain ⟨b,i⟩:=p;refine ⟨b++shL (a (1+c)) (2 ^(1+c)),?_⟩;show shA a (1+c)++_=_;rw [i];rfl
  obtain ⟨b,i⟩:=m 8;exact ⟨d,b,i,by rw [<-j,<-f];rfl⟩
def aF9 (a):∀b:Shp,(a.foldl Shp.add b).nodes=b.nodes+(eF a).nodes:=by
 have c:∀(a:List Shp) (b:Shp),(a.foldl Shp.add b).nodes=b.nodes+(a.map Shp.nodes).sum:=by
  intro a
  induction a with
  | nil=>intro b;simp
  | cons e a d=>
   intro b;rw [zCq,d];unfold Shp.add;simp only [zEJ,List.sum_cons];omega
 intro b;rw [c a b];unfold eF;rw [c a Shp.zero];show _=_+((0:Int)+_);omega
def mR (a b):(eF (a++b)).nodes=(eF a).nodes+(eF b).nodes:=by
 show ((a++b).foldl Shp.add Shp.zero).nodes=_;rw [zFt,aF9];rfl
def Tr.Ok.nodes {a:Tr} (b:a.Ok):16*(2*a.lv)<=a.bits.length+32:=by
 cases a with
 | lf c=>simp only [Tr.lv];omega
 | nd d e=>have:=Tr.full_lv b.2;omega
def aB8 {b:List Nat} {d:Nat->Nat->Option Tr} (i:aMb b d) {lv:Nat} (p:lv < 9):∀a,a<=2 ^ lv->16*(eF (shL (d lv) a)).nodes<=((b.countP λc=>decide (bF c lv < a):Nat):Int)+16*a
 | 0,_=>by show 16*(0:Int)<=_;omega
 | a+1,hp=>by
  have j:=aB8 i p a oM;obtain ⟨m,n⟩:=i lv a p oM;have o:(b.countP λc=>decide (bF c lv < a+1))=(b.countP λc=>decide (bF c lv < a))+(b.countP λc=>bF c lv==a):=by
   clear m n j i
   induction b with
   | nil=>rfl
   | cons e b j=>
    simp only [zBn,j];by_cases l:bF e lv < a;have f:¬bF e lv=a:=oM;have g:bF e lv < a+1:=oM;simp [l,f,g];omega
    .by_cases f:bF e lv=a;simp [f];omega
     .have g:¬bF e lv < a+1:=oM;simp [l,f,g]
  rw [<-iX,<-m] at o;have q:(eF (shL (d lv) (a+1))).nodes=(eF (shL (d lv) a)).nodes+(eF (shE (d lv a))).nodes:=mR _ _;rw [q,o];cases ht:d lv a with
  | none=>
   show 16*(_+(0:Int))<=_;omega
  | some k=>
   have r:=(n k ht).1.nodes;show 16*(_+((0:Int)+(2*(k.lv:Int) - 1)))<=(((_+k.bits.length:Nat)):Int)+_;omega
def aIB {b} {c:Nat->Nat->Option Tr} (n:aMb b c):16*(eF (shA c 9)).nodes<=9*(b.length:Int)+8176:=by
 have p:∀a,a<=9->16*(eF (shA c a)).nodes<=(a:Int)*b.length+16*(2 ^ a - 1:Nat):=λa=>by
  induction a with
  | zero=>
   intro _;show 16*(0:Int)<=_;omega
  | succ a o=>
   intro q;have e:=o oM;have f:=aB8 n (show a < 9 by omega) (2 ^ a) nL;have g:(b.countP λd=>decide (bF d a < 2 ^ a))<=b.length:=zBh;have i:(eF (shA c (a+1))).nodes=(eF (shA c a)).nodes+(eF (shL (c a) (2 ^ a))).nodes:=mR _ _;rw [i];have k:(2:Nat)^(a+1)=2*2 ^ a:=(by rw [zEM];omega);have l:=zFn a;have m:((a+1:Nat):Int)*b.length=a*b.length+b.length:=(by rw [Int.natCast_add,Int.add_mul];simp);rw [m];generalize (a:Int)*(b.length:Int)=z at e⊢;rw [k];generalize (2:Nat)^ a=u at e f g l⊢;generalize (b.countP λd=>decide (bF d a < u))=v at f g;omega
 have:=p 9 oM;have j:(2:Nat)^ 9=512:=dC;rw [j] at this;omega
def aCO (a b):cF (a++b)=cF a++cF b:=by simp [cF]
def aDB {l} {j e:Nat} {b c n o p a} (ht:Bk a j 223 #[e,n,o,p]) (k:ArenaE a l e b c) (r:b.length<=1048576) (q:c.length<=b.length):
 Calls prog 222 #[j] a λd i=>d=.returned (.int .i64 (b.length - c.length:Nat))/\Below a.heap.size a i:=by
 have u:=ht.cell 0;have f:Calls prog 143 #[e] a λd i=>d=.returned (.int .i64 (b.length - c.length:Nat))/\Below a.heap.size a i:=by obtain ⟨_,t,w,s,v,g,_⟩:=k;exact mO g r q
 generalize b.length - c.length=m at f⊢;clear ht k;go_enter func222,ntmps222;go_wp2_with fail;refine f.mono ?_;rintro d w1 ⟨rfl,g⟩;clear f;go_wp2_with fail;go_ret;exact ⟨rfl,g⟩
def aFj {ai c} {a2:Tr} {m} (E:TreeEo m ai c (some a2)):
 Calls prog 189 #[c] m λy a0=>y=.returned (shT a2).val/\Below m.heap.size m a0:=by
 have aA:=E;obtain ⟨bb,aS,a5,L,aQ,aP,aw,bq,br,l,ax,⟨z,_⟩|⟨r,z,I,rfl,ay,az,a7,_⟩⟩:=E
 .cases z
 injection z with z;subst z;obtain ⟨x,aZ,rfl,a9⟩:=l.rd.ex (zj (I.at.lt l.rd.len));obtain ⟨aT,aU,aV,aX,A,a6⟩:=r.R;obtain ⟨n,Q⟩:=eqx r.ht;obtain ⟨lv,ac⟩:=eqx r.er.lv;obtain ⟨q,ag⟩:=eqx r.num;have bo:q < L:=zj (I.at.lt l.rd.len)
 have bp:((q:Nat):Int) < L:=oM;have aL:=uK r;have ae:=a7.length_eq;rw [zAi,zCi] at ae;obtain ⟨g,ad⟩:=eqx (aP.length - aw.length);have bi:g+1=2*lv:=zj l.Y
 have bd:g<=200:=oM;obtain ⟨u,bc⟩:∃aR:Int,(g:Int)+1=aR:=⟨_,rfl⟩;have be:wrap64 (g+1)=u:=by unfold wrap64;omega
 have aK:u.tdiv 2=(lv:Int):=by rw [zEG oM];omega
 have bf:u / 2=(lv:Int):=oM;have bl:IntKind.i64.wrap u=u:=zu
 have bj:IntKind.i64.wrap lv=(lv:Int):=zu
 have bg:wrap64 (u / 2)=(lv:Int):=by unfold wrap64;omega
 have bh:wrap64 (u.tdiv 2)=(lv:Int):=by rw [aK];unfold wrap64;omega
 obtain ⟨a3,F⟩:=eqx (m.alloc (.cells #[o0,o0,o0,o0] 79));obtain ⟨e,v⟩:=eqx m.heap.size;obtain ⟨o,T⟩:=eqx r.er.bits.length;have O:Below e m a3:=by rw [<-F,<-v];exact bR.alloc nL _
 have ab:Bk a3 e 79 #[o0,o0,o0,o0]:=by rw [<-F,<-v];exact kd _ _ _
 have K:=ab.lt;have J:c < e:=by rw [<-v];exact l.rd.a.lt
 have aH:x < e:=by rw [<-v];exact a9.lt
 have S:=aDB (l.rd.a.below O J) (l.V.b (kb (by rw [v];exact O))) (zj l.Y) (zj l.Y);rw [ad] at S;obtain ⟨_,_,Z,_⟩:=l.rd.at (show At8 aQ r.num [_,_,_,_,_,_,_,_] from a6 ▸ I.at);have aO:=l.rd.c1;have Y:=l.rd.c2;rw [ag] at Y Z;rw [Q] at Z;have ah:(shT r.er).val=.agg #[(o:Int),(n:Int),(lv:Int),(g:Int)]:=by have aD:r.er.ht=n:=Q;have aJ:2*(lv:Int) - 1=g:=oM;unfold shT Shp.val;rw [T,aD,ac,aJ];rfl
 obtain ⟨aj,D,Hn,ak⟩:=hqq4 F v T ah;clear l ax ay az a7 I a9 a6 F v ah T Q ac ag aL ae ad;rw [ak.out,D.out];go_enter func189,ntmps189;have M:m.cell? ⟨c,2,none⟩=some (.int .i64 q):=Y;have bm:((q:Int)==-1)=false:=zCb.2 oM;have bn:¬(q:Int)=-1:=oM;have aI:c < m.heap.size:=by rw [D.out];exact J
 go_wp2_with fail;rw [aj.out]
 try rw [D.out]
 refine S.mono ?_;clear S M aI;rintro y s ⟨rfl,G⟩;have N:Below e m s:=O.trans (G.mono (zCm K));have R:e<=s.heap.size:=zAk (zCm K) G.size;have H:∀a,Keep (λ_=>False) s a->a.cell? ⟨c,1,none⟩=some (.slice (some x) L a5)/\a.cell? ⟨c,2,none⟩=some (.int .i64 q)/\a.cell? ⟨x,q*8+2,none⟩=some (.int .i64 n):=λa U=>by have B:=N.trans (U.e R λa4 _ k=>k.elim);exact ⟨(B.cell J).trans aO,(B.cell J).trans Y,(B.cell aH).trans Z⟩
 have aG:∀a,Keep (λ_=>False) s a->Calls prog 188 #[c] a λy a0=>y=.returned (.int .i64 o)/\Below a.heap.size a a0:=λa U=>by have B:=N.trans (U.e R λa4 _ k=>k.elim);have:=jL (aA.at.b (kb (by rw [D.out];exact B)));rw [show (cH (some r.er)).length=o from Hn.out] at this;exact this
 have a1:=(ab.below G K);clear G R K;go_wp2_with fail;refine wp_region_any kR<|cQ 18 [16,17,18,19,20,21,22,23,24,25,26,27,28,29,30,31,32,33] (λ_=>False) 0 [] (is c) [cO,is (o:Int),is c,is c,is (.pointer (some ⟨c,1,none⟩)),is (.slice (some x) L a5),is c,is c,is (.pointer (some ⟨c,2,none⟩)),is (q:Int),is (.pointer (some ⟨x,q*8,none⟩)),is (.pointer (some ⟨x,q*8+2,none⟩)),is (n:Int),is (g:Int),is (.int .i64 u),is (lv:Int),is (g:Int),is (.agg #[(o:Int),(n:Int),(lv:Int),(g:Int)])] _ rfl dC kR kR kR (trivial) (λ_ _ _ _ _=>trivial) (λ_ _ _ E _=>E) tA1 ?_ ?_
 .refine bB<|sC3 (λw _ _ _ _ _ aM _ _ _ _ j=>?_) ?_
  .have b0:w (.tmp 0)=.pointer (some c):=aM 0 kR;go_simp;exact j _ _ (aW (ke _ _)) rfl
  refine sC3 (λw a b _ _ _ _ d _ _ _ j=>?_) ?_
  .replace b:Keep (λ_=>False) s a:=kD b;have aN:(is c) (w (.tmp 16)) a:=d 0 16 kR rfl;have b1:w (.tmp 16)=.pointer (some c):=aN;have aF:=aG a b;go_simp;refine aF.mono ?_;rintro y bs ⟨rfl,aC⟩;exact j _ _ (aE aC) rfl
  refine pH3 0 (.pointer (some c))<|pV3 2 18<|pV3 3 19<|sC3 (λ_ a b _ _ _ _ d _ _ _ j=>?_) ?_
  .replace b:Keep (λ_=>False) s a:=kD b;have b3:_=_:=d 4 20 kR rfl;obtain ⟨V,W,X⟩:=H a b;go_simp;exact kq j rfl
  refine pH3 0 (.pointer (some c))<|pV3 6 22<|pV3 7 23<|sC3 (λ_ a b _ _ _ _ d _ _ _ j=>?_) ?_
  .replace b:Keep (λ_=>False) s a:=kD b;have b5:_=_:=d 8 24 kR rfl;obtain ⟨V,W,X⟩:=H a b;go_simp;exact kq j rfl
  refine sC3 (λ_ a b _ _ _ _ d _ _ _ j=>?_) ?_
  .replace b:Keep (λ_=>False) s a:=kD b;have b4:_=_:=d 5 21 kR rfl;have b6:_=_:=d 9 25 kR rfl;obtain ⟨V,W,X⟩:=H a b;go_simp;exact kq j rfl
  refine pV3 10 26<|sC3 (λ_ a b _ _ _ _ d _ _ _ j=>?_) ?_
  .replace b:Keep (λ_=>False) s a:=kD b;have b7:_=_:=d 11 27 kR rfl;obtain ⟨V,W,X⟩:=H a b;go_simp;exact kq j rfl
  refine pH3 3 (.int .i64 g)<|pV3 13 29<|pV3 14 30<|pH3 3 (.int .i64 g)<|sC3 (λ_ _ _ _ _ _ _ d _ _ _ j=>?_) ?_
  .have b2:_=_:=d 1 17 kR rfl;have b8:_=_:=d 12 28 kR rfl;have b9:_=_:=d 15 31 kR rfl;have ba:_=_:=d 16 32 kR rfl;go_simp;exact kq j rfl
  exact aB
 .intro w C k b d;replace b:Keep (λ_=>False) s C:=kD b;have ao:w (.tmp 33)=.agg #[(o:Int),(n:Int),(lv:Int),(g:Int)]:=d 17 33 dC rfl;simp only [zqq];rw [ao];clear d;have t:Bk C e 79 #[o0,o0,o0,o0]:=Keep.d b a1 λk=>k;have ap:=t.frozen 0;have aq:=t.frozen 1;have au:=t.frozen 2;have av:=t.frozen 3;have al:=t.cell 0;have am:=t.cell 1;have M:=t.cell 2;have an:=t.cell 3;change wpAny prog Region.Mode.any _ _ (1+k) (bT 18 19) _ C;rw [zCt 1 k];refine aY (f:=k) (i:=18) kR ?_;refine bJ rfl rfl ?_;generalize j:wpAny prog _ _ _ k _=K5;go_simp;subst j;refine bG kR ?_;have a8:Below e m C:=N.trans (b.e (zCm a1.lt) λa4 _ k=>k.elim);have aa:=(((a8.setCell (p:=⟨e,0,none⟩) nL (.int .i64 o)).setCell (p:=⟨e,1,none⟩) nL (.int .i64 n)).setCell (p:=⟨e,2,none⟩) nL (.int .i64 lv)).setCell (p:=⟨e,3,none⟩) nL (.int .i64 g);have af:=(((t.set 0 (.int .i64 o)).set 1 (.int .i64 n)).set 2 (.int .i64 lv)).set 3 (.int .i64 g);generalize (((C.setCell ⟨e,0,none⟩ (.int .i64 o)).setCell ⟨e,1,none⟩ (.int .i64 n)).setCell ⟨e,2,none⟩ (.int .i64 lv)).setCell ⟨e,3,none⟩ (.int .i64 g)=w9 at aa af⊢;clear a8 ap aq au av al am M an;go_wp2_with fail;exact bodyPost_ret (results_cell_row (P:=prog) (fn:=f189) (p:=2) (ty:=79) rfl _ w9 e 79 #[(o:Int),(n:Int),(lv:Int),(g:Int)] (0,0) _ rfl af underlying79 rfl kR) rfl ⟨rfl,aa⟩
def aKo:(prog.info? 79).map (λa=>(a.zero.map (·.cells.size),a.size,a.bytes))=some (some 4,4,32):=by kernel_rfl
def aIz:∃b c,prog.info? 79=some b/\b.zero=some c/\b.size=4/\b.bytes=32/\c.cells.size=4:=by
 have a:=aKo;cases e:prog.info? 79 with
 | none=>rw [e] at a;cases a
 | some b=>
  rw [e] at a;cases d:b.zero with
  | none=>simp [d] at a
  | some c=>
   simp [d] at a;exact ⟨b,c,rfl,d,a.2.1,a.2.2,a.1⟩
def aNZ (a:Nat->Nat->Option Tr) (lv):(shA a lv).length+1<=2 ^ lv:=by
 induction lv with
 | zero=>exact zAs _
 | succ lv b=>
  have:=aCQ (a lv) (2 ^ lv);unfold shA;rw [zAi,zEM];omega
def oU (a:World) (b:List Shp) (e:Ending) (d:World):Prop:=∃c,e=.returned c/\d.ownsRow a.heap.size 79 4 c b.length (cF b)/\Below a.heap.size a d
def WvT (c:World) (d:Nat) (own:Nat->Nat) (i:Nat) (e:Nat->Value) (f:Nat->Nat->Option Tr):Prop:=∀lv,lv < 9->∃b:Nat->Nat,c.ownsRow d 184 3 (e lv) (2 ^ lv) (eG b lv (2 ^ lv))/\∀a,a < 2 ^ lv->TreeEo c (λg=>own g=TC lv a) (b a) (f lv a)
def TreeEo.ok {i c d} {b:Tr} (e:TreeEo i c d (some b)):b.Ok/\b.bits.length<=1100:=by
 obtain ⟨_,_,_,_,_,_,_,_,_,_,_,⟨a,_⟩|⟨j,a,_,_,f,g,_⟩⟩:=e
 .cases a
 injection a with a;subst a;exact ⟨f,g⟩
def WaveS.cn {e k own s} {l:Nat->Value} {f C D} (A:WaveS e k own s l (λ_=>f) C D):∃g,WvT e k own s l g/\aMb f g:=by
 have B:∀lv,∃d:Nat->Option Tr,lv < 9->(∃c:Nat->Nat,e.ownsRow k 184 3 (l lv) (2 ^ lv) (eG c lv (2 ^ lv))/\∀a,a < 2 ^ lv->TreeEo e (λn=>own n=TC lv a) (c a) (d a))/\∀a,a < 2 ^ lv->cH (d a)=aM f lv a/\∀j,d a=some j->j.Ok/\j.bits.length<=1100:=λlv=>by
  by_cases q:lv < 9
  .obtain ⟨c,x,_,y⟩:=A.rows lv q;have z:∀a,∃i,a < 2 ^ lv->cH i=aM f lv a/\TreeEo e (λn=>own n=TC lv a) (c a) i:=λa=>by by_cases r:a < 2 ^ lv;obtain ⟨i,v,w⟩:=y a r;exact ⟨i,λ_=>⟨v,w⟩⟩;exact ⟨none,λm=>absurd m r⟩
   obtain ⟨d,o⟩:=Classical.skolem.1 z;exact ⟨d,λ_=>⟨⟨c,x,λa b=>(o a b).2⟩,λa b=>⟨(o a b).1,λj u=>by have:=(o a b).2;rw [u] at this;exact this.ok⟩⟩⟩
  exact ⟨λ_=>none,λm=>absurd m q⟩
 obtain ⟨g,t⟩:=Classical.skolem.1 B;exact ⟨g,λlv p=>(t lv p).1,λlv a p b=>(t lv p).2 a b⟩
def aDu {aD f own} {d:Nat->Value} {ax aB} {b:Nat->Nat->Option Tr} {c} (e:Bk c f 181 (wcells d ax aB)) (ad:WvT c aD own f d b):
 Calls prog 132 #[f] c (oU c (shA b 9)):=by
 obtain ⟨b8,bb,aW,b4,b5,b6,b7⟩:=aIz;have b2:=ad;obtain ⟨H,a4,a5,a6,a7,a8,a9,aa,ab,aM,aL⟩:=cK d ax aB;have be:c.cell? f=some (d 0):=(e.cell 0).trans H;have bf:c.cell? ⟨f,1,none⟩=some (d 1):=(e.cell 1).trans a4;have bg:c.cell? ⟨f,2,none⟩=some (d 2):=(e.cell 2).trans a5;have bh:c.cell? ⟨f,3,none⟩=some (d 3):=(e.cell 3).trans a6;have bi:c.cell? ⟨f,4,none⟩=some (d 4):=(e.cell 4).trans a7;have bj:c.cell? ⟨f,5,none⟩=some (d 5):=(e.cell 5).trans a8;have bk:c.cell? ⟨f,6,none⟩=some (d 6):=(e.cell 6).trans a9;have bl:c.cell? ⟨f,7,none⟩=some (d 7):=(e.cell 7).trans aa;have bm:c.cell? ⟨f,8,none⟩=some (d 8):=(e.cell 8).trans ab;clear e ad H a4 a5 a6 a7 a8 a9 aa ab aM aL;unfold oU;go_enter func132,ntmps132;go_wp2_with fail;go_loopw [3,14] (λa0 l wr=>∃lv:Nat,lv<=9/\l=.int .i64 lv/\wr.ownsRow c.heap.size 79 4 a0 (shA b lv).length (cF (shA b lv))/\Below c.heap.size c wr) (λ_ l _=>9 -(intOf l).toNat)
 case atStart=>exact ⟨0,by omega,rfl,ki _ _ _ _,kg _ _⟩
 case round=>
  obtain ⟨lv,bu,rfl,al,e⟩:=hrel;by_cases ai:lv < 9
  .have aY:=ix9 d ai;obtain ⟨a1,D,aw⟩:=b2 lv ai;obtain ⟨k,n⟩:=eqx (2 ^ lv);have bv:k<=512:=(by rw [<-n];exact zAk (zBp dC (by omega:lv<=9)) dC);have aZ:0 < k:=(by rw [<-n];exact Nat.pow_pos dC);rw [n] at D aw;obtain ⟨I,bn,ae,bw,bt⟩:=kj D aZ;rw [ae] at aY D;have ar:=aNZ b lv;rw [n] at ar;have aH:=lhd n;clear ae n;go_wp2_with fail;have aV:=zy ((lv:Int) < 9);rw [aV];go_loopw [3,19] (λa0 l aC=>∃a:Nat,a<=k/\l=.int .i64 a/\aC.ownsRow c.heap.size 79 4 a0 (shA b lv++shL (b lv) a).length (cF (shA b lv++shL (b lv) a))/\Below c.heap.size c aC) (λ_ l _=>k -(intOf l).toNat)
   case atStart=>exact ⟨0,zAp _,rfl,by rw [show shA b lv++shL (b lv) 0=shA b lv from zEa _];exact al,e⟩
   case round=>
    obtain ⟨a,bx,rfl,A,q⟩:=hrel;have b3:=q.size;by_cases aq:a < k
    .have bz:(a:Int) < k:=oM;have C:=aP D q;obtain ⟨ay,az,aA⟩:=gF a1 lv k a aq;have aK:wr.cell? ⟨I,a*3,none⟩=_:=(kh C (a*3) oM).trans ay;have bc:wr.cell? ⟨I,a*3+1,none⟩=_:=(kh C (a*3+1) oM).trans az;have bd:wr.cell? ⟨I,a*3+2,none⟩=_:=(kh C (a*3+2) oM).trans aA;obtain ⟨ac,R⟩:=eqx (a1 a);rw [R] at aK;have ht:=aw a aq;rw [R] at ht;obtain ⟨a3,x⟩:=eqx (wr.alloc (.cells #[.pointer (some ⟨ac,0,none⟩),(lv:Int),(a:Int)] 184));obtain ⟨aQ,S⟩:=eqx wr.heap.size;have N:Below wr.heap.size wr a3:=(by rw [<-x];exact bR.alloc nL _);have P:Bk a3 aQ 184 #[.pointer (some ⟨ac,0,none⟩),(lv:Int),(a:Int)]:=(by rw [<-x,<-S];exact kd _ _ _);have K:=q.trans (N.mono b3);have Z:=ht.b (kb K);have b0:=aP A N;obtain ⟨p,O⟩:=eqx (b lv a);rw [O] at Z;have g:shL (b lv) (a+1)=shL (b lv) a++shE p:=(by rw [<-O];rfl);have ak:=jL Z.at
     have H:=P.cell 0;have aU:=P.lt;obtain ⟨j,z⟩:=eqx ((cH p).length);rw [z] at ak;obtain ⟨aF,aG⟩:=hqq2 x S;have a2:=g;clear ht A q N x S g C ay az aA R O;go_wp2_with fail;rw [aF.out]
     try rw [aG.out]
     refine ak.mono ?_;rintro aN bA ⟨rfl,m⟩;have y:=K.trans (m.mono K.size);have E:=Z.b (kb m);have B:=aP b0 m;have Q:=P.below m aU;have aO:=Q.cell 0;by_cases U:j=0
     .subst U;have aT:p=none:=by
       cases p with
       | none=>rfl
       | some i=>
        have bq:=E.ok.1.pos;have br:i.bits.length=0:=z;omega
      have g:=a2;rw [aT] at g;simp only [shE,zEa] at g;have v:=lhd g;clear g E Q aO m;go_wp2_with fail;go_roundw
      case rel=>exact ⟨a+1,by omega,by go_num,by rw [v.out];exact B,y⟩
      case measure=>first |(simp [intOf];omega)| simp [intOf]
     .obtain ⟨i,rfl⟩:∃i,p=some i:=by
       cases p with
       | none=>exact absurd z.symm U
       | some i=>exact ⟨i,rfl⟩
      have g:=a2;simp only [shE] at g;obtain ⟨r,T⟩:∃u:Int,(i.ht:Int)=u:=⟨_,rfl⟩;obtain ⟨o,s⟩:∃u:Int,(i.lv:Int)=u:=⟨_,rfl⟩;obtain ⟨t,V⟩:∃u:Int,2*o - 1=u:=⟨_,rfl⟩;have bo:=zy ((j:Int) > 0);have bp:=zy (0 < j);have Y:=aFj E;have W:i.bits.length=j:=z;have av:(shT i).val=.agg #[(j:Int),(r:Int),(o:Int),(t:Int)]:=(by unfold shT Shp.val;rw [W,T,s,V];rfl);have au:(shT i).cells= [.int .i64 j,.int .i64 r,.int .i64 o,.int .i64 t]:=(by unfold shT Shp.cells;rw [W,T,s,V];rfl);rw [av] at Y;obtain ⟨G,w⟩:=eqx ((shA b lv++shL (b lv) a).length);have bs:G<=1024:=(by have:=aCQ (b lv) a;have:=ar;rw [<-w,zAi];omega);rw [w] at B;obtain ⟨v,aJ,aE⟩:=hqq3 g au w;clear g E Q m av au w U W T s V;go_wp2_with fail;refine Y.mono ?_;rintro aN F ⟨rfl,L⟩;have M:=y.trans (L.mono y.size);have am:=aP B L;have J:Below F.heap.size F (F.alloc (.cells #[(j:Int),(r:Int),(o:Int),(t:Int)] 79)):=bR.alloc nL _;have af:=M.trans (J.mono M.size);have an:=aP am J;have X:=af.size;clear L M am J Y B y;go_wp2_with (at_builtin;refine bE _ rfl (.tmp 27) (.tmp 31) _ rfl c.heap.size 79 b8 bb 4 32 underlying75 aW b4 b5 b6 b7 dC u3 G _ rfl an _ _ 1 1 _ rfl (aAf (kd F 79 #[(j:Int),(r:Int),(o:Int),(t:Int)]) rfl) (by simp [Value.oneCell']) zx oM X ?_;intro b9 ba ao ah aR);have aS:=aX af an ah X;have aj:(shA b lv++shL (b lv) (a+1)).length=G+1:=(by rw [v.out,<-zCo,zAi,aE.out];rfl);have ag:cF (shA b lv++shL (b lv) (a+1))=cF (shA b lv++shL (b lv) a)++ [.int .i64 j,.int .i64 r,.int .i64 o,.int .i64 t]:=(by rw [v.out,<-zCo,aCO];rw [<-aJ.out];simp [cF]);have aI:=(show ba.ownsRow c.heap.size 79 4 b9 (shA b lv++shL (b lv) (a+1)).length (cF (shA b lv++shL (b lv) (a+1))) by rw [aj,ag];exact ao);clear ao ah aR aj ag X;go_roundw
      case rel=>exact ⟨a+1,by omega,by go_num,aI,aS⟩
      case measure=>first |(simp [intOf];omega)| simp [intOf]
    .have b1:a=k:=oM;subst b1;have ap:=A;rw [show shA b lv++shL (b lv) a=shA b (lv+1) by rw [<-aH.out];rfl] at ap;clear A;go_wp2_with fail;go_roundw
     case rel=>exact ⟨lv+1,by omega,by go_num,ap,q⟩
     case measure=>first |(simp [intOf];omega)| simp [intOf]
  .have s:lv=9:=oM;subst s;go_wp2_with fail;go_ret;exact ⟨_,rfl,al,e⟩
def aKM {a4 q} (D) {z ab A} (aa:Rd A ab 4 a4 q (cF z)) (hB:ab<=A.heap.size) (bf:q<=1000) (aN:∀o∈z,(0<=o.len/\o.len<=1100)/\(0<=o.leaves/\o.leaves<=1100)/\(0<=o.nodes/\o.nodes<=2200)):
 Calls prog 38 #[.slice a4 q D] A λa6 aP=>(∃l x k:Int,a6=.returned (.agg #[(l:Int),(x:Int),(k:Int),.int .i64 (eF z).nodes]))/\Below A.heap.size A aP:=by
 have av:z.length=q:=by have:=aa.1;rw [uB] at this;omega
 obtain ⟨s,O⟩:=eqx A.heap.size;obtain ⟨d,a9⟩:=eqx (s+1);obtain ⟨a5,Q⟩:=eqx ((A.alloc (.cells #[o0,o0,o0,o0] 79)).alloc (.cells #[o0,o0,o0,o0] 79));have aJ:Below s A a5:=by rw [<-Q,<-O];exact (bR.alloc nL _).alloc zs _
 have t:Bk a5 s 79 #[o0,o0,o0,o0]:=by rw [<-Q,<-O];exact (kd A _ _).alloc _
 have C:Bk a5 d 79 #[o0,o0,o0,o0]:=by rw [<-Q,<-a9,<-O];have:=kd (A.alloc (.cells #[o0,o0,o0,o0] 79)) 79 #[o0,o0,o0,o0];rw [sZ0] at this;exact this
 have Z:s≠d:=oM;have Y:s<=d:=oM;have a8:∃e g,0 < q->a4=some ⟨e,g,none⟩/\∀(a:Nat) (o:Shp),z[a]?=some o->∀b,Below s A b->b.cell? ⟨e,g+a*4,none⟩=some (.int .i64 o.len)/\b.cell? ⟨e,g+a*4+1,none⟩=some (.int .i64 o.T)/\b.cell? ⟨e,g+a*4+2,none⟩=some (.int .i64 o.leaves)/\b.cell? ⟨e,g+a*4+3,none⟩=some (.int .i64 o.nodes):=by rcases zBa q with ao | ao;exact ⟨0,0,λan=>by omega⟩;obtain ⟨e,g,a6,R,F⟩:=(aa.mono hB).2 ao;rw [O] at R;exact ⟨e,g,λ_=>⟨a6,λa o S b a2=>⟨(a2.cell R).trans (F (a*4+0) _ ((eK z a 0 o S oM).trans rfl)),(a2.cell R).trans (F (a*4+1) _ ((eK z a 1 o S oM).trans rfl)),(a2.cell R).trans (F (a*4+2) _ ((eK z a 2 o S oM).trans rfl)),(a2.cell R).trans (F (a*4+3) _ ((eK z a 3 o S oM).trans rfl))⟩⟩⟩
 obtain ⟨e,g,a8⟩:=a8;obtain ⟨ae,ay⟩:=hqq2 av Q;have aA:=t;have aC:=C;obtain ⟨ad,aD⟩:=hqq2 O a9;clear av Q t C O a9 aa hB;rw [ad.out];go_enter func38,ntmps38;go_wp2_with fail;rw [ay.out]
 try rw [ad.out]
 try rw [aD.out]
 go_loopw [4] (λa3 wr=>∃(a:Nat) (l x k m:Int),a<=q/\a3=.int .i64 a/\Bk wr d 79 #[(l:Int),(x:Int),(k:Int),(m:Int)]/\Bk wr s 79 #[o0,o0,o0,o0]/\(0<=l/\l<=1100*(a:Int)/\0<=k/\k<=1100*(a:Int)/\0<=m/\m<=2200*(a:Int))/\(eF (z.take a)).nodes=m/\Below s A wr) (λa3 _=>q -(intOf a3).toNat)
 case atStart=>exact ⟨0,0,0,0,0,zAp _,rfl,aC,aA,by omega,rfl,aJ⟩
 case round=>
  obtain ⟨a,l,x,k,m,S,rfl,C,t,aH,a7,V⟩:=hrel;by_cases aL:a < q
  .obtain ⟨o,a1⟩:∃o,z[a]?=some o:=⟨_,zAa (by rw [ae.out];exact aL)⟩;have ax:=aN o (zAd a1);have ap:(eF (z.take (a+1))).nodes=m+o.nodes:=(by rw [aEj a1,<-a7];rfl);obtain ⟨w,U,v,u⟩:=o;simp only at ax ap;obtain ⟨aF,F⟩:=a8 oM;subst aF;have aw:s<=wr.heap.size:=(zj t.lt);have E:∀b,Keep (λ_=>False) wr b->b.cell? ⟨e,g+a*4,none⟩=some (.int .i64 w)/\b.cell? ⟨e,g+a*4+1,none⟩=some (.int .i64 U)/\b.cell? ⟨e,g+a*4+2,none⟩=some (.int .i64 v)/\b.cell? ⟨e,g+a*4+3,none⟩=some (.int .i64 u)/\b.cell? d=some (.int .i64 l)/\b.cell? ⟨d,1,none⟩=some (.int .i64 x)/\b.cell? ⟨d,2,none⟩=some (.int .i64 k)/\b.cell? ⟨d,3,none⟩=some (.int .i64 m):=λb c=>by obtain ⟨aQ,aR,aS,aT⟩:=F a _ a1 b (V.trans (c.e aw λ_ _ r=>r.elim));have W:=Keep.d c C λr=>r;exact ⟨aQ,aR,aS,aT,W.cell 0,W.cell 1,W.cell 2,W.cell 3⟩
   have bg:(a:Int) < q:=oM;have aI:0<=l+w/\l+w<=1100*((a:Int)+1)/\0<=k+v/\k+v<=1100*((a:Int)+1)/\0<=m+u/\m+u<=2200*((a:Int)+1):=oM;have bh:IntKind.i64.wrap (l+w)=l+w:=zu;have bi:IntKind.i64.wrap (k+v)=k+v:=zu;have bj:IntKind.i64.wrap (m+u)=m+u:=zu;obtain ⟨B,aq⟩:∃B,(if x < U then U else x)=B:=⟨_,rfl⟩;have ac:=lhd aq;clear F a1 aH aq a7 ax;go_wp2_with fail;refine wp_region_any kR<|cQ 33 [11,12,13,14,15,16,17,18,19,20,21,22,23,24,25,26,27,28,29,30,31,32,33,34,35,36,37,38,39,40,41,42,43] (λ_=>False) 0 [] (is d) [cO,is (l:Int),is (.slice (some ⟨e,g,none⟩) q D),is (a:Int),is (.pointer (some ⟨e,g+a*4,none⟩)),is (.pointer (some ⟨e,g+a*4,none⟩)),is (w:Int),is (l+w:Int),is (.pointer (some ⟨d,1,none⟩)),is (x:Int),is (.slice (some ⟨e,g,none⟩) q D),is (a:Int),is (.pointer (some ⟨e,g+a*4,none⟩)),is (.pointer (some ⟨e,g+a*4+1,none⟩)),is (U:Int),is (B:Int),is (.pointer (some ⟨d,2,none⟩)),is (k:Int),is (.slice (some ⟨e,g,none⟩) q D),is (a:Int),is (.pointer (some ⟨e,g+a*4,none⟩)),is (.pointer (some ⟨e,g+a*4+2,none⟩)),is (v:Int),is (k+v:Int),is (.pointer (some ⟨d,3,none⟩)),is (m:Int),is (.slice (some ⟨e,g,none⟩) q D),is (a:Int),is (.pointer (some ⟨e,g+a*4,none⟩)),is (.pointer (some ⟨e,g+a*4+3,none⟩)),is (u:Int),is (m+u:Int),is (.agg #[(l+w:Int),(B:Int),(k+v:Int),(m+u:Int)])] _ rfl dC kR kR kR (trivial) (λ_ _ _ _ _=>trivial) (λ_ _ _ an _=>an) tA1 ?_ ?_
   .refine bB<|sC3 (λN _ _ _ _ _ aM _ _ _ _ n=>?_) ?_
    .have b9:N (.tmp 3)=.pointer (some d):=aM 3 kR;go_simp;exact n _ _ (aW (ke _ _)) rfl
    refine sC3 (λN b c _ _ _ _ j _ _ _ n=>?_) ?_
    .replace c:Keep (λ_=>False) wr b:=kD c;have aO:(is d) (N (.tmp 11)) b:=j 0 11 kR rfl;have b0:N (.tmp 11)=.pointer (some d):=aO;obtain ⟨k0,G,H,I,J,K,L,M⟩:=E b c;go_simp;exact kq n rfl
    refine pH3 0 (.slice (some ⟨e,g,none⟩) q D)<|pH3 4 (.int .i64 a)<|pW3 2 13 3 14<|pV3 4 15<|sC3 (λ_ b c _ _ _ _ j _ _ _ n=>?_) ?_
    .replace c:Keep (λ_=>False) wr b:=kD c;have b1:_=_:=j 5 16 kR rfl;obtain ⟨k0,G,H,I,J,K,L,M⟩:=E b c;go_simp;exact kq n rfl
    refine pW3 1 12 6 17<|pH3 3 (.pointer (some d))<|sC3 (λ_ b c _ _ _ _ j _ _ _ n=>?_) ?_
    .replace c:Keep (λ_=>False) wr b:=kD c;have b3:_=_:=j 8 19 kR rfl;obtain ⟨k0,G,H,I,J,K,L,M⟩:=E b c;go_simp;exact kq n rfl
    refine pH3 0 (.slice (some ⟨e,g,none⟩) q D)<|pH3 4 (.int .i64 a)<|pW3 10 21 11 22<|pV3 12 23<|sC3 (λ_ b c _ _ _ _ j _ _ _ n=>?_) ?_
    .replace c:Keep (λ_=>False) wr b:=kD c;have b5:_=_:=j 13 24 kR rfl;obtain ⟨k0,G,H,I,J,K,L,M⟩:=E b c;go_simp;exact kq n rfl
    refine sC3 (λ_ _ _ _ _ _ _ j _ _ _ n=>?_) ?_
    .have b4:_=_:=j 9 20 kR rfl;have b6:_=_:=j 14 25 kR rfl;go_simp;exact n _ _ (aE bR) (cS (by first | exact ac |(rw [<-ac.out];split <;> omega)))
    refine pH3 3 (.pointer (some d))<|sC3 (λ_ b c _ _ _ _ j _ _ _ n=>?_) ?_
    .replace c:Keep (λ_=>False) wr b:=kD c;have b8:_=_:=j 16 27 kR rfl;obtain ⟨k0,G,H,I,J,K,L,M⟩:=E b c;go_simp;exact kq n rfl
    refine pH3 0 (.slice (some ⟨e,g,none⟩) q D)<|pH3 4 (.int .i64 a)<|pW3 18 29 19 30<|pV3 20 31<|sC3 (λ_ b c _ _ _ _ j _ _ _ n=>?_) ?_
    .replace c:Keep (λ_=>False) wr b:=kD c;have ba:_=_:=j 21 32 kR rfl;obtain ⟨k0,G,H,I,J,K,L,M⟩:=E b c;go_simp;exact kq n rfl
    refine pW3 17 28 22 33<|pH3 3 (.pointer (some d))<|sC3 (λ_ b c _ _ _ _ j _ _ _ n=>?_) ?_
    .replace c:Keep (λ_=>False) wr b:=kD c;have bc:_=_:=j 24 35 kR rfl;obtain ⟨k0,G,H,I,J,K,L,M⟩:=E b c;go_simp;exact kq n rfl
    refine pH3 0 (.slice (some ⟨e,g,none⟩) q D)<|pH3 4 (.int .i64 a)<|pW3 26 37 27 38<|pV3 28 39<|sC3 (λ_ b c _ _ _ _ j _ _ _ n=>?_) ?_
    .replace c:Keep (λ_=>False) wr b:=kD c;have bd:_=_:=j 29 40 kR rfl;obtain ⟨k0,G,H,I,J,K,L,M⟩:=E b c;go_simp;exact kq n rfl
    refine pW3 25 36 30 41<|sC3 (λ_ _ _ _ _ _ _ j _ _ _ n=>?_) ?_
    .have b2:_=_:=j 7 18 kR rfl;have b7:_=_:=j 15 26 kR rfl;have bb:_=_:=j 23 34 kR rfl;have be:_=_:=j 31 42 kR rfl;go_simp;exact kq n rfl
    exact aB
   .intro N T r c j;replace c:Keep (λ_=>False) wr T:=kD c;have aG:N (.tmp 43)=.agg #[(l+w:Int),(B:Int),(k+v:Int),(m+u:Int)]:=j 32 43 dC rfl;simp only [zqq];rw [aG];clear j;have y:Bk T d 79 #[(l:Int),(x:Int),(k:Int),(m:Int)]:=Keep.d c C λr=>r;have aj:=y.frozen 0;have ak:=y.frozen 1;have al:=y.frozen 2;have am:=y.frozen 3;have af:=y.cell 0;have ag:=y.cell 1;have ah:=y.cell 2;have ai:=y.cell 3;have az:=y;clear y;change wpAny prog Region.Mode.any _ _ (1+r) (bT 33 34) _ T;rw [zCt 1 r];refine aY (f:=r) (i:=33) kR ?_;refine bJ rfl rfl ?_;generalize n:wpAny prog _ _ _ r _=K5;go_simp;subst n;refine bG kR ?_;have y:=V.trans (c.e aw λ_ _ r=>r.elim);have X:=(((y.setCell (p:=d) Y (.int .i64 (l+w))).setCell (p:=⟨d,1,none⟩) Y (.int .i64 B)).setCell (p:=⟨d,2,none⟩) Y (.int .i64 (k+v))).setCell (p:=⟨d,3,none⟩) Y (.int .i64 (m+u));have a0:=(((az.set 0 (.int .i64 (l+w))).set 1 (.int .i64 B)).set 2 (.int .i64 (k+v))).set 3 (.int .i64 (m+u));have ar:Bk T s 79 #[o0,o0,o0,o0]:=Keep.d c t λr=>r;have au:=(((ar.m (p:=d) Z (.int .i64 (l+w))).m (p:=⟨d,1,none⟩) Z (.int .i64 B)).m (p:=⟨d,2,none⟩) Z (.int .i64 (k+v))).m (p:=⟨d,3,none⟩) Z (.int .i64 (m+u));generalize (((T.setCell d (.int .i64 (l+w))).setCell ⟨d,1,none⟩ (.int .i64 B)).setCell ⟨d,2,none⟩ (.int .i64 (k+v))).setCell ⟨d,3,none⟩ (.int .i64 (m+u))=w9 at X a0 au⊢;clear ar y aj ak al am af ag ah ai;go_wp2_with fail;go_roundw
    case rel=>exact ⟨a+1,l+w,B,k+v,m+u,by omega,by go_num,a0,au,by have:=aI;omega,ap,X⟩
    case measure=>exact zr
  .have aK:a=q:=oM;subst aK;have af:=C.cell 0;have ag:=C.cell 1;have ah:=C.cell 2;have ai:=C.cell 3;have aU:=t.cell 0;have aV:=t.cell 1;have aX:=t.cell 2;have aZ:=t.cell 3;have aj:=t.frozen 0;have ak:=t.frozen 1;have al:=t.frozen 2;have am:=t.frozen 3;have a0:=(((t.set 0 (.int .i64 l)).set 1 (.int .i64 x)).set 2 (.int .i64 k)).set 3 (.int .i64 m);have X:=(((V.setCell (p:=s) nL (.int .i64 l)).setCell (p:=⟨s,1,none⟩) nL (.int .i64 x)).setCell (p:=⟨s,2,none⟩) nL (.int .i64 k)).setCell (p:=⟨s,3,none⟩) nL (.int .i64 m);clear C t V;go_wp2_with fail;exact bodyPost_ret (results_cell_row (P:=prog) (fn:=f38) (p:=2) (ty:=79) rfl _ _ s 79 #[(l:Int),(x:Int),(k:Int),(m:Int)] (0,0) _ rfl a0 underlying79 rfl kR) rfl ⟨⟨l,x,k,by rw [<-a7,zAg (by rw [ae.out];exact zAs _)]⟩,X⟩
def aEz {a:Nat} (b) (e:a<=1000000):Calls prog 75 #[(a:Int)] b λc d=>c=.returned (.int .i64 a)/\b=d:=by
 go_enter func75,ntmps75;go_wp2;go_ret;exact ⟨by first | rfl |(congr 3;omega)|(simp;omega),rfl⟩
def aGw (c:Nat) (a) (e:c<=1000000):Calls prog 39 #[(c:Int)] a λb f=>(∃d:Int,b=.returned (.int .i64 d)/\9216<=d)/\a=f:=by
 go_enter func39,ntmps39;go_wp2_with fail;refine (aEz a e).mono ?_;rintro b w1 ⟨rfl,rfl⟩;go_wp2_with fail;go_ret;exact ⟨⟨_,rfl,by omega⟩,rfl⟩
def aKE:(prog.info? 29).map (λa=>(a.zero.map (·.cells.size),a.size,a.bytes))=some (some 4,4,64):=by kernel_rfl
def aIM:∃b c,prog.info? 29=some b/\b.zero=some c/\b.size=4/\b.bytes=64/\c.cells.size=4:=by
 have a:=aKE;cases e:prog.info? 29 with
 | none=>rw [e] at a;cases a
 | some b=>
  rw [e] at a;cases d:b.zero with
  | none=>simp [d] at a
  | some c=>
   simp [d] at a;exact ⟨b,c,rfl,d,a.2.1,a.2.2,a.1⟩
def StpsAt.get {w:World} {B:Nat}:∀ {g:List Sp} {a:List Value} {k:Nat} {s:Sp},StpsAt w B a g->g[k]?=some s->
 ∃b f c,a[k*4]?=some (.int .i64 s.kind)/\a[k*4+1]?=some (.int .i64 s.p)/\a[k*4+2]?=some (.int .i64 s.k)/\a[k*4+3]?=some (.slice b f c)/\DataAt w B b f c s.D
 | [],_,k,_,_,j=>by simp at j
 | s0::g,a,0,s,⟨b,f,c,ys,e,hd,j⟩,hk=>by have u:s0=s:=(by simpa using hk);subst u;exact ⟨b,f,c,by rw [e];rfl,by rw [e];rfl,by rw [e];rfl,by rw [e];rfl,hd⟩
 | s0::g,a,k+1,s,⟨b,f,c,ys,e,hd,j⟩,hk=>by
  obtain ⟨l,v,m,n,o,q,r,t⟩:=StpsAt.get j (k:=k) (s:=s) (by simpa using hk);have i:∀d,a[(k+1)*4+d]?=ys[k*4+d]?:=λd=>by rw [e,show (k+1)*4+d=(k*4+d)+1+1+1+1 by omega];simp
  exact ⟨l,v,m,(i 0).trans n,(i 1).trans o,(i 2).trans q,(i 3).trans r,t⟩
section
variable {w w1 w' : World} {B gs : Nat} {own own' : Nat -> Nat}
def StpZ (w:World) (B:Nat) (own:Nat->Nat) (gs:Nat) (j:Option Addr) (i:Nat) (f:List Sp):Prop:=
 f.length=i/\(0 < i->∃a c,j=some ⟨a,c,none⟩/\a < w.heap.size/\(a < B∨(Ap own gs a/\∃l m,w.heap[a]?=some (.cells l 32 m)))/\
  ∀b d,f[b]?=some d->∃e g k,w.cell? ⟨a,c+b*4,none⟩=some (.int .i64 d.kind)/\w.cell? ⟨a,c+b*4+1,none⟩=some (.int .i64 d.p)/\w.cell? ⟨a,c+b*4+2,none⟩=some (.int .i64 d.k)/\w.cell? ⟨a,c+b*4+3,none⟩=some (.slice e g k)/\ArgZ w B own gs e g d.D)
def StpZ.step {i n j} (m:StpZ w B own gs i n j) (d:LFS B gs w w' own own'):StpZ w' B own' gs i n j:=by
 refine ⟨m.1,λq=>?_⟩;obtain ⟨b,C,rfl,g,hB,x⟩:=m.2 q;have c:w'.heap[b]?=w.heap[b]?:=by rcases hB with a |⟨a,k,l,e⟩;exact d.keep.block b g (by have E:b < B:=a;omega);exact d.b.same e (λf=>f.elim (λf=>f a.x) a.ne) dC dC
 refine ⟨b,C,rfl,zAl g d.size,?_,λz D y=>?_⟩;rcases hB with a |⟨a,k,l,e⟩;exact .inl a;exact .inr ⟨a.step d g,k,l,c.trans e⟩
 .obtain ⟨o,A,p,r,s,t,u,v⟩:=x z D y;exact ⟨o,A,p,(zDd c).trans r,(zDd c).trans s,(zDd c).trans t,(zDd c).trans u,v.step d⟩
structure AnsK (H:Nat->Prop) (w w':World) (B gs:Nat) (own:Nat->Nat):Prop where
 keep:Keep H w w'
 low:∀b,H b->B<=b
 ap:∀b,H b->Ap own gs b
 ty:∀b,H b->∃cs fr,w.heap[b]?=some (.cells cs 29 fr)
def AnsK.same {f} (d:AnsK f w w' B gs own) {b:Nat} {g e j} (c:w.heap[b]?=some (.cells g e j)) (ht:e≠29):w'.heap[b]?=w.heap[b]?:=
 d.keep.block b (lt_of_block c) λi=>by obtain ⟨k,l,a⟩:=d.ty b i;rw [c] at a;injection a with a;injection a with _ a;exact ht a
def ArgZ.bc {o k j f} (c:ArgZ w B own gs k j f) (e:AnsK o w w' B gs own):ArgZ w' B own gs k j f:=by
 have z:=e.keep.size;rcases zBa j with d | d;subst d;have:f= []:=(by simpa using c.1.1);subst this;exact ⟨Rd.nil _ _ _ _,λs=>absurd s oM⟩
 .obtain ⟨a,v,rfl,q,r⟩:=c.1.2 d;have n:w'.heap[a]?=w.heap[a]?:=by
   rcases c.2 d _ rfl with b |⟨b,l,m,g⟩;exact e.keep.block a q λp=>by have:=e.low a p;have A:a < B:=b;omega
   exact e.same g dC
  refine ⟨⟨c.1.1,λ_=>⟨a,v,rfl,by omega,λu x t=>by rw [<-r u x t];exact zDd n⟩⟩,λ_ y i=>?_⟩;injection i with i;subst i;rcases c.2 d _ rfl with b |⟨b,l,m,g⟩;exact .inl b;exact .inr ⟨b,l,m,n.trans g⟩
def StpZ.bc {o f m g} (k:StpZ w B own gs f m g) (d:AnsK o w w' B gs own):StpZ w' B own gs f m g:=by
 refine ⟨k.1,λr=>?_⟩;obtain ⟨a,D,rfl,l,hB,y⟩:=k.2 r;have c:w'.heap[a]?=w.heap[a]?:=by
  rcases hB with b |⟨b,i,j,e⟩;exact d.keep.block a l λq=>by have:=d.low a q;have F:a < B:=b;omega
  exact d.same e dC
 refine ⟨a,D,rfl,zAl l d.keep.size,?_,λA E z=>?_⟩;rcases hB with b |⟨b,i,j,e⟩;exact .inl b;exact .inr ⟨b,i,j,c.trans e⟩
 .obtain ⟨n,C,p,s,t,u,v,x⟩:=y A E z;exact ⟨n,C,p,(zDd c).trans s,(zDd c).trans t,(zDd c).trans u,(zDd c).trans v,x.bc d⟩
def MadeZ.bc {k a d c e f} (b:MadeZ w own gs a d c e f) (j:AnsK k w w' B gs own) (m:a≠29):MadeZ w' own gs a d c e f:=by
 have g:w'.ownsRow 0 a 1 (.slice d c e) c f:=aC b.1.own λo p q i=>(j.same i m).trans i;refine ⟨⟨g,Rd.s g,b.1.cap,b.1.max⟩,λl n=>?_⟩;have:=b.2 l n;exact ⟨zAl this.1 j.keep.size,this.2⟩
def LFS.bc {g} (b:LFS B gs w w1 own own') (c:Keep g w1 w') (i:∀a,g a->w.heap.size<=a/\B<=a):LFS B gs w w' own own':=
 ⟨b.H,⟨c.os.trans b.b.os,c.tape.trans b.b.tape,c.output.trans b.b.output,zAk b.b.size c.size,λa d e=>by
  have j:w'.heap[a]?=w1.heap[a]?:=c.block a (zAl d b.b.size) λf=>by have:=(i a f).1;omega
  unfold Bk;rw [j];exact b.b.block a d e⟩,⟨c.os.trans b.keep.os,c.tape.trans b.keep.tape,c.output.trans b.keep.output,zAk b.keep.size c.size,λa d e=>(c.block a (zAl d b.keep.size) λf=>by have:=(i a f).1;omega).trans (b.keep.block a d e)⟩⟩
def aGM {c:Value} (a:w.grownBy w' c.ownBlock):Keep (λb=>c.ownBlock=some b) w w':=⟨a.os,a.tape,a.output,a.size,λb e f=>a.block b e λd=>f d.symm⟩
def ResZ (w:World) (own:Nat->Nat) (gs:Nat) (c:List Value) (b:Nat) (a:Told):Prop:=
 ∃d f e g,c[b*4]?=some (.int .i64 a.code)/\c[b*4+1]?=some (.int .i64 a.num)/\c[b*4+2]?=some (.slice d a.data.length f)/\c[b*4+3]?=some (.slice e a.places.length g)/\MadeZ w own gs 5 d a.data.length f (a.data.map bv)/\MadeZ w own gs 3 e a.places.length g (a.places.map nv)
def ResZ.step {d a c} (j:ResZ w own gs d a c) (b:LFS B gs w w' own own'):ResZ w' own' gs d a c:=by
 obtain ⟨e,g,f,i,k,l,m,n,o,p⟩:=j;exact ⟨e,g,f,i,k,l,m,n,o.step b dC dC,p.step b dC dC⟩
def ResZ.bc {g d a c} (k:ResZ w own gs d a c) (b:AnsK g w w' B gs own):ResZ w' own gs d a c:=by
 obtain ⟨e,i,f,j,l,m,n,o,p,q⟩:=k;exact ⟨e,i,f,j,l,m,n,o,p.bc b dC,q.bc b dC⟩
def ResZ.more {b i f g} (n:ResZ w own gs b f g):ResZ w own gs (b++i) f g:=by
 obtain ⟨j,l,k,m,o,p,q,r,s⟩:=n;have a:∀(c:Nat) (d:Value),b[c]?=some d->(b++i)[c]?=some d:=λc d e=>by rw [zAn (zAc.1 e).1];exact e
 exact ⟨j,l,k,m,a _ _ o,a _ _ p,a _ _ q,a _ _ r,s⟩
end
def aFn (w:World) (B:Nat) (own:Nat->Nat) (gs aA k:Nat) (g:Nat->List UInt8) (f:Nat->Told) (b:Nat) (i:Ending) (w':World):Prop:=
 ∃c e own' j,i=.returned c/\w'.ownsRow w.heap.size 29 4 c b e/\(∀d,c.ownBlock=some d->Ap own' gs d)/\(∀a,a < b->ResZ w' own' gs e a (f a))/\StAt w' B own' gs j aA k (g b)/\LFS B gs w w' own own'
def aHo {B own gs ac aA N H f a8 o} (aI) {W w} (ad:StAt w B own gs ac aA N (H 0)) (aw:StpZ w B own gs a8 o W) (bl:o<=100000) (aR:∀a g e y w1 i aB j,W[a]?=some g->StAt w1 B e gs y aA N (H a)->LFS B gs w w1 own e->ArgZ w1 B e gs i aB g.D->Calls prog 7 #[gs,.agg #[(g.kind:Int),(g.p:Int),(g.k:Int),.slice i aB j]] w1 (StDone w1 B e gs aA N (H (a+1)) (f a))):
 Calls prog 40 #[.func (Fn.func 7) #[gs] #[],.slice a8 o aI] w (aFn w B own gs aA N H f o):=by
 obtain ⟨b9,bc,aT,b5,b6,b7,b8⟩:=aIM;have bi:B<=w.heap.size:=ad.size;have aH:=aw.1;unfold aFn;go_enter func40,ntmps40;go_wp2_with fail;go_loopw [5,10] (λaD t wr=>∃(a:Nat) (q:List Value) (e:Nat->Nat) (y:Nat),a<=o/\t=.int .i64 a/\wr.ownsRow w.heap.size 29 4 aD a q/\(∀b,aD.ownBlock=some b->Ap e gs b)/\(∀d,d < a->ResZ wr e gs q d (f d))/\StAt wr B e gs y aA N (H a)/\LFS B gs w wr own e) (λ_ t _=>o -(intOf t).toNat)
 case atStart=>exact ⟨0, [],own,ac,by omega,rfl,ki _ _ _ _,λb c=>(by cases c),λd R=>absurd R oM,ad,LFS.refl _ _ _ _⟩
 case round=>
  obtain ⟨a,q,e,y,bj,rfl,T,J,a3,U,C⟩:=hrel;by_cases aW:a < o
  .obtain ⟨g,a4⟩:∃g,W[a]?=some g:=⟨_,zAa (by rw [aH];exact aW)⟩;have b3:=C.size;have ax:=aw.step C;obtain ⟨bd,bm,rfl,bh,_,ag⟩:=ax.2 oM;obtain ⟨O,V,P,a9,aa,ab,aK,ai⟩:=ag a g a4;obtain ⟨a6,a0⟩:=eqx g.kind;obtain ⟨a7,a2⟩:=eqx g.p;obtain ⟨nd,a1⟩:=eqx g.k;have Z:=aR a g e y;rw [a0,a2,a1] at Z;rw [a0] at a9;rw [a2] at aa;rw [a1] at ab;have z:Below wr.heap.size wr (wr.alloc (.cells #[(a6:Int),(a7:Int),(nd:Int),.slice O V P] 32)):=bR.alloc nL _;have aj:=Z (wr.alloc (.cells #[(a6:Int),(a7:Int),(nd:Int),.slice O V P] 32)) O V P a4 (U.G (kb z)) (C.trans (LFS.j B gs e z)) (ai.b z);clear ai ax ag Z a4 a0 a2 a1;go_wp2_with fail;refine aj.mono ?_;rintro x w1 ⟨i,j,l,m,n,aN,rfl,ay,am,E,F,aF,aG⟩;obtain ⟨r,ah⟩:=eqx ((f a).code);obtain ⟨num,au⟩:=eqx ((f a).num);obtain ⟨u,aq⟩:=eqx ((f a).data.length);obtain ⟨v,ar⟩:∃bb,(f a).places.length=bb:=⟨_,rfl⟩;unfold iD;rw [ah,au,aq,ar];have K:=(LFS.j B gs e z).trans am;have aS:gs < (wr.alloc (.cells #[(a6:Int),(a7:Int),(nd:Int),.slice O V P] 32)).heap.size:=zk U.a.lt z.size
   have an:MadeZ w1 n gs 5 i (f a).data.length j ((f a).data.map bv):=⟨⟨cG E.own (zAp _),E.rd,E.cap,E.max⟩,λI Y=>by
    subst Y;have X:=E.own.lt (k:=I.block) rfl;exact ⟨X.2,aF I rfl,by omega⟩⟩
   have ao:MadeZ w1 n gs 3 l (f a).places.length m ((f a).places.map nv):=⟨⟨cG F.own (zAp _),F.rd,F.cap,F.max⟩,λI Y=>by
    subst Y;have X:=F.own.lt (k:=I.block) rfl;exact ⟨X.2,aG I rfl,by omega⟩⟩
   have ae:∀b,u5.ownBlock=some b->Ap n gs b:=λb c=>(J b c).step K (T.lt b c).2;have av:=aC T λb bf c aQ=>K.d aQ (J b c).x (J b c).ne dC dC;have Q:Below w1.heap.size w1 (w1.alloc (.cells #[(r:Int),(num:Int),.slice i u j,.slice l v m] 29)):=bR.alloc nL _;have M:=aP av Q;have L:=LFS.j B gs n Q;have a5:=ay.G (kb Q);have al:=(C.trans K).trans L;have b0:∀d,d < a->ResZ (w1.alloc (.cells #[(r:Int),(num:Int),.slice i u j,.slice l v m] 29)) n gs q d (f d):=λd R=>((a3 d R).step K).step L;have aX:=an.step L dC dC;have aY:=ao.step L dC dC;have b4:=al.size;clear av ay K L am E F aF aG an ao Q aS U T J C a3 z b3 aj a9 aa ab aK;go_wp2_with (at_builtin;refine bE _ rfl (.tmp 14) (.tmp 18) _ rfl w.heap.size 29 b9 bc 4 64 underlying47 aT b5 b6 b7 b8 dC u5 a _ rfl M _ _ 1 1 _ rfl (aKs (kd w1 29 #[(r:Int),(num:Int),.slice i u j,.slice l v m]) rfl) (by simp [Value.oneCell']) zx oM b4 ?_;intro ba aE aZ ak af);have S:=aGM ak
   have A:AnsK (λb=>u5.ownBlock=some b) (w1.alloc (.cells #[(r:Int),(num:Int),.slice i u j,.slice l v m] 29)) aE B gs n:=by
    refine ⟨S,λb c=>?_,ae,λb c=>?_⟩;have:=(M.lt b c).1;omega
    .rcases M.2 with ⟨G,_⟩|⟨bg,be,aJ,aL,_,aM,_⟩
     .have s:u5.ownBlock=some b:=c;rw [G] at s;cases s
     have s:u5.ownBlock=some b:=c;rw [aL] at s;injection s with s;subst s;exact ⟨aJ,_,aM⟩
   have b2:=a5.m S A.ap;have aV:=al.bc S λb c=>⟨(M.lt b c).1,A.low b c⟩;have az:q.length=a*4:=M.1;have aO:∀b,ba.ownBlock=some b->Ap n gs b:=λb c=>by rcases af with x | x;rw [x] at c;exact ae b c;rw [x] at c;injection c with c;subst c;exact ⟨a5.fresh nL,by have:=a5.a.lt;omega⟩
   have b1:∀d,d < a+1->ResZ aE n gs (q++#[Value.int .i64 r,(num:Int),.slice i u j,.slice l v m].toList) d (f d):=λd R=>by
    by_cases x:d=a
    .subst x;have G:∀t,(q++#[Value.int .i64 r,(num:Int),.slice i u j,.slice l v m].toList)[d*4+t]?= [Value.int .i64 r,.int .i64 num,.slice i u j,.slice l v m][t]?:=λt=>by rw [zAo oM,az,zDP]
     refine ⟨i,j,l,m,?_,?_,?_,?_,aX.bc A dC,aY.bc A dC⟩;rw [ah];exact G 0;rw [au];exact G 1;rw [aq];exact G 2;rw [ar];exact G 3
    exact ((b0 d oM).bc A).more
   clear S A az ak af;go_roundw
   case rel=>exact ⟨a+1,_,n,aN,by omega,by go_num,aZ,aO,b1,b2,aV⟩
   case measure=>exact zr
  .have aU:a=o:=oM;subst aU;go_wp2_with fail;go_ret;exact ⟨_,q,e,y,rfl,T,J,a3,U,C⟩
def aJF {B own gs t aA f c} (l) {i e} (m) {k w} (n:StAt w B own gs t aA f (c 0)) (q:StpZ w B own gs i e k) (A:e<=100000) (o:∀d b a g w1 j r s,k[d]?=some b->StAt w1 B a gs g aA f (c d)->LFS B gs w w1 own a->ArgZ w1 B a gs j r b.D->Calls prog 7 #[gs,.agg #[(b.kind:Int),(b.p:Int),(b.k:Int),.slice j r s]] w1 (StDone w1 B a gs aA f (c (d+1)) (l d))):
 Calls prog 14 #[gs,.slice i e m] w (aFn w B own gs aA f c l e):=by
 have ht:=aHo m n q A o;clear n q o;unfold aFn at ht⊢;go_enter func14,ntmps14;go_wp2_with fail;refine ht.mono ?_;rintro F w1 ⟨C,E,a,g,rfl,u,v,x,y,z⟩;go_wp2_with fail;go_ret;exact ⟨C,E,a,g,rfl,u,v,x,y,z⟩
def aH6 (c b aA a n m):(doM c aA a n m b).1.length<=c.length+b.length:=by
 unfold doM;by_cases d:a=1
 .rw [zBx d];split
  .simp
  .split
   .simp
   simp only [zAi,zAj,zAw];omega
 rw [zBw d];by_cases e:a=2
 .rw [zBx e];split
  .simp
  simp only [zAi,zAj,zAw];omega
 rw [zBw e];by_cases i:a=5
 .rw [zBx i];split <;> simp
 rw [zBw i];by_cases f:a=3
 .rw [zBx f];split
  .simp
  simp only [zAi,zAj,zAw];omega
 rw [zBw f];by_cases g:a=4
 .rw [zBx g];simp
 rw [zBw g];by_cases j:a=6
 .rw [zBx j];simp
 rw [zBw j];by_cases k:a=7
 .rw [zBx k];simp
 rw [zBw k];by_cases l:a=8
 .rw [zBx l];simp
 rw [zBw l];simp
def aFI {B e gk:Nat} {own o p q d n w} (k:Bk w e 89 #[gk,o,p,q]) (r:WalkE w B own gk d n):
 ∃a,aMb d a/\Calls prog 73 #[e] w (oU w (shA a 9)):=by
 obtain ⟨C,A,f,_,⟨u,m,c⟩,_⟩:=r;obtain ⟨a,g,i⟩:=c.cn;refine ⟨a,i,?_⟩;have x:=k.cell 0;have y:=f.cell 0;have b:=aDu c.a g;unfold oU at b⊢;obtain ⟨D,l⟩:=eqx ((shA a 9).length);obtain ⟨v,j⟩:=eqx (cF (shA a 9));rw [l,j] at b⊢;clear f c l j k g i;go_enter func73,ntmps73;go_wp2_with fail;refine b.mono ?_;rintro z E ⟨m,rfl,s,t⟩;clear b;go_wp2_with fail;go_ret;exact ⟨m,rfl,s,t⟩
structure ShpOk (s:Shp):Prop where
 len:0 < s.len/\s.len<=1100
 ht:0<=s.T/\s.T<=1000
 least:least s.T<=s.leaves
 leaves:1<=s.leaves/\s.leaves<=1100
 J:s.leaves - 1<=s.len / 128*4+s.len % 128*4 / 128
 nodes:s.nodes=2*s.leaves - 1
def Tr.Ok.shape {a:Tr} (b:a.Ok) (j:a.bits.length<=1100):ShpOk (shT a):=by
 have d:=b.pos;have e:=Tr.ht_lv a;have f:=Tr.as b.de;have g:=Tr.lv_pos a;have i:a.lv=1∨a.lv*32<=a.bits.length:=by
  cases a with
  | lf c=>exact .inl rfl
  | nd k l=>exact .inr (Tr.full_lv b.2)
 refine ⟨⟨?_,?_⟩,⟨?_,?_⟩,?_,⟨?_,?_⟩,?_,rfl⟩<;> unfold shT <;> simp only;omega;omega;omega;omega;unfold Go.Proofs.YtlghmcogeipojaaGreatDoor.least;rw [zBw oM];have:=oF (min (a.ht:Int).toNat 45) a.ht oM;omega;omega;omega;omega
def tS (w:World) (e:Nat) (i:Ending) (w':World):Prop:=∃d g a b,i=.returned (.slice d b g)/\a.length=b/\b<=1000/\Rd w' w'.heap.size 4 d b (cF a)/\(∃c f,a=c::f/\c.len=((e+1:Nat):Int))/\(∀c∈a,ShpOk c)/\16*(eF a).nodes<=9*((e+1:Nat):Int)+8176/\Below w.heap.size w w'
def TxM.ch {w B i gk s J a own G b p f H} (c:TxM w B own i gk s J G (aG b) p a f H) (A:b.length=a) (L:a<=900):
 Calls prog 73 #[i] w (tS w a):=by
 obtain ⟨q,d,E⟩:=aFI c.live.a c.live.walk;refine E.mono ?_;rintro g w' ⟨O,rfl,k,D⟩;have z:∀m∈aH (aG b) f,m < 257:=dR (eX b);have e:(aH (aG b) f).length=a+1:=by rw [bY,c.aa.len,aO,A]
 obtain ⟨N,o,C,l⟩:=aKp d z (λg=>by rw [g] at e;simp at e);have j:=aIB d;rw [e] at j l;obtain ⟨n,r,rfl,M⟩:=aR k;refine ⟨n,r,_,_,rfl,rfl,by have:=aMF q;omega,Rd.s k,⟨_,o,C,by unfold shT;simp only;rw [l]⟩,λm F=>?_,j,D⟩;obtain ⟨lv,I,K,t,u,v,rfl⟩:=aME F;obtain ⟨x,y⟩:=(d lv I t u).2 K v;exact x.shape y
def aER:(cU 15).1=1597:=dC
def aGx {b:Nat} (r:b<=14) (w):Calls prog 133 #[(b:Int)] w λl w'=>l=.returned (.int .i64 (cU b).1)/\w=w':=by
 have o:¬(b:Int) < 0:=oM;go_enter func133,ntmps133;go_wp2;go_loopw [3,4,5] (λg i d wr=>∃a:Nat,a<=b/\d=.int .i64 a/\g=.int .i64 (cU a).1/\i=.int .i64 (cU a).2/\wr=w) (λ_ _ d _=>b -(intOf d).toNat)
 case atStart=>exact ⟨0,zAp _,rfl,rfl,rfl,rfl⟩
 case round=>
  obtain ⟨a,p,rfl,rfl,rfl,rfl⟩:=hrel;have b1:=(aAq a).1;have b2:=(aAq a).2.1;have j:(cU a).2<=1597:=by have:=oF (a+1) 15 oM;rw [aER] at this;exact this
  have c:cU (a+1)=((cU a).2,min ((cU a).1+(cU a).2) 2147483648):=rfl;obtain ⟨m,e⟩:=eqx ((cU a).1);obtain ⟨s,f⟩:=eqx ((cU a).2);rw [e] at b1 b2 c⊢;rw [f] at b2 j c⊢;have n:=zy (m < 2147483648);clear f;by_cases q:a < b
  .have k:=zy ((a:Int) < b);go_wp2;go_roundw
   case rel=>exact ⟨a+1,by omega,by go_num,by rw [c],by rw [c];exact cS (by simp only;first | omega |(rw [wI0];omega)),by first | rfl | trivial⟩
   case measure=>exact zr
  .obtain rfl:a=b:=oM;have k:=zn ((a:Int) < a);go_wp2;go_ret;exact ⟨fM (by rw [e];omega),rfl⟩
def aGp (a w) (c:0<=a) (d:a<=1099511627776):
 Calls prog 134 #[(a:Int)] w λb w'=>b=.returned (.int .i64 (a / 128*4+a % 128*4 / 128))/\w=w':=by
 go_enter func134,ntmps134;go_wp2;go_ret;exact ⟨rfl,rfl⟩
def aKN {b a c} (w) (e:0 < b) (s:b<=1100) (j:c<=14) (d:(cU c).1<=a) (f:1<=a) (t:a<=1100) (g:a - 1<=b / 128*4+b % 128*4 / 128):
 Calls prog 74 #[.agg #[(b:Int),(c:Int),(a:Int),(2*a - 1:Int)]] w λr w'=>r=.returned (.bool true)/\Below w.heap.size w w':=by
 have u:(b==0)=false:=by rw [zCb];omega
 have v:=zBz e;have x:=zBz e;have y:=zy ((c:Int)>=0);have z:=zy ((0:Int)<=c);obtain ⟨i,m⟩:=eqx ((cU c).1);obtain ⟨q,l⟩:=eqx (b / 128*4+b % 128*4 / 128);obtain ⟨p,k⟩:=eqx (2*a - 1);have n:=aGx j;have o:=λw=>aGp b w oM oM;rw [m] at d n;rw [l] at g o;rw [k];have A:=zBz d;have C:=zBz d;have D:=zBz f;have E:=zBz f;have F:=zBz g;have G:IntKind.i64.wrap (a - 1)=a - 1:=zu
 have H:IntKind.i64.wrap (2*a)=2*a:=zu
 have I:IntKind.i64.wrap (2*a - 1)=p:=zu
 clear m l k d g e s j f t;go_enter func74,ntmps74;go_wp2_with fail
 go_quiet (first
  |(go_at_call 133;exact tB (n _))
  |(go_at_call 134;exact tB (o _)))
 go_wp2;go_ret;exact ⟨rfl,km (bR.alloc nL _) _⟩
def ShpOk.may {d:Shp} (a:ShpOk d) (w):Calls prog 74 #[.agg #[(d.len:Int),(d.T:Int),(d.leaves:Int),(d.nodes:Int)]] w λe w'=>e=.returned (.bool true)/\Below w.heap.size w w':=by
 obtain ⟨b,i⟩:=zDB a.ht.1;have c:=a.least;have f:=a.leaves;rw [i] at c⊢;unfold Go.Proofs.YtlghmcogeipojaaGreatDoor.least at c;rw [zBw oM] at c;have e:(Int.ofNat b).toNat=b:=rfl;have g:b<=14:=Nat.le_of_not_lt λj=>by have:=oF 15 (min ((b:Int)).toNat 45) oM;rw [aER] at this;omega
 rw [show min ((b:Int)).toNat 45=b by omega] at c;rw [a.nodes];exact aKN w a.len.1 a.len.2 g c f.1 f.2 a.J
def aJy {u d} (L) {c v} (K) {B w} (q:Rd w B 4 u d (cF c)) (hB:B<=w.heap.size) (W:d<=65536) (t:Shp) (F:c=t::K) (M:t.len=v) (R:∀b∈c,ShpOk b):
 Calls prog 37 #[.slice u d L,(v:Int)] w λA w'=>A=.returned (.bool true)/\Below w.heap.size w w':=by
 have G:c.length=d:=by have:=q.1;rw [uB] at this;omega
 have H:0 < d:=by rw [<-G,F];simp
 obtain ⟨e,l,rfl,i,j⟩:=(q.mono hB).2 H;have E:∀a b,c[a]?=some b->∀w',Below w.heap.size w w'->w'.cell? ⟨e,l+a*4,none⟩=some (.int .i64 b.len)/\w'.cell? ⟨e,l+a*4+1,none⟩=some (.int .i64 b.T)/\w'.cell? ⟨e,l+a*4+2,none⟩=some (.int .i64 b.leaves)/\w'.cell? ⟨e,l+a*4+3,none⟩=some (.int .i64 b.nodes):=λa b k w' m=>
  ⟨(m.cell i).trans (j (a*4+0) _ ((eK c a 0 b k oM).trans rfl)),(m.cell i).trans (j (a*4+1) _ ((eK c a 1 b k oM).trans rfl)),(m.cell i).trans (j (a*4+2) _ ((eK c a 2 b k oM).trans rfl)),(m.cell i).trans (j (a*4+3) _ ((eK c a 3 b k oM).trans rfl))⟩
 clear q j;go_enter func37,ntmps37;go_wp2_with fail;go_loopw [5] (λs wr=>∃a:Nat,a<=d/\s=.int .i64 a/\Below w.heap.size w wr) (λs _=>d -(intOf s).toNat)
 case atStart=>exact ⟨0,zAp _,rfl,kg _ _⟩
 case round=>
  obtain ⟨a,k,rfl,g⟩:=hrel;have S:=g.size;by_cases P:a < d
  .obtain ⟨b,r⟩:∃b,c[a]?=some b:=⟨_,zAa (by rw [G];exact P)⟩;obtain ⟨f,x,y,z⟩:=E a b r wr g;have p:=R b (zAd r);have Q:=p.len.1;have I:=p.may;have C:=zn (b.len < 1);obtain ⟨T,X,Y,Z⟩:=b;simp only at f x y z I C Q;have D:∀n,Below wr.heap.size wr n->n.cell? ⟨e,l+a*4,none⟩=some (.int .i64 T):=λn N=>(N.cell (by have:e < w.heap.size:=i;show e < wr.heap.size;omega)).trans f;clear r p;go_wp2_with fail;refine (I wr).mono ?_;rintro A w1 ⟨rfl,o⟩;have U:=D w1 o;have J:=(g.trans (o.mono S));clear o D g f x y z;go_wp2_with fail;go_roundw
   case rel=>exact ⟨a+1,by omega,by go_num,J⟩
   case measure=>exact zr
  .have O:a=d:=oM;subst O;have f:=(E 0 t (by rw [F];rfl) wr g).1;rw [M] at f;simp only [zFH,zBq] at f;have C:=zy ((a:Int) > 0);have V:=zBz H;go_wp2_with fail;go_ret;exact ⟨by first | rfl | simp,g⟩
section
variable {w w' : World} {B g : Nat} {own : Nat -> Nat} {cs0 : Array Value}
def WaveE.ax {i f} (a:WaveE w B own i f) (k:Keep (λb=>b=g) w w') (d:Bk w g 29 cs0):WaveE w' B own i f:=by
 obtain ⟨m,v,a⟩:=a;refine ⟨m,v,k.d a.a (Bk.ne a.a d dC),a.base,λlv z=>?_,λb d=>⟨(a.q b d).1,zAl (a.q b d).2 k.size⟩⟩;obtain ⟨l,q,s,u⟩:=a.rows lv z;exact ⟨l,aC q λb cs _ e=>k.d e (Bk.ne e d dC),s,λD C=>(u D C).keep k λb t cs j e _ o=>by
  have p:b=g:=o;subst p;rw [(aU e d).1] at j;exact absurd j dC⟩
def WalkE.ax {gk d T} (j:WalkE w B own gk d T) (k:Keep (λb=>b=g) w w') (a:Bk w g 29 cs0):WalkE w' B own gk d T:=by
 obtain ⟨i,gt,e,l,m,f,o⟩:=j;exact ⟨i,gt,k.d e (Bk.ne e a dC),l,m.ax k a,k.d f (Bk.ne f a dC),o⟩
def PermE.ax {f gp i P j} (q:PermE w f gp i P j) (k:Keep (λb=>b=g) w w') (e:Bk w g 29 cs0):PermE w' f gp i P j:=by
 obtain ⟨⟨p,E,F,G,D,z,l,C,o,hx,m⟩,s,u⟩:=q;have a:=hx.at_;exact ⟨⟨p,E,F,G,D,z,l,C,o,⟨⟨k.d a.a (Bk.ne a.a e dC),aC a.u λb cs _ d=>k.d d (Bk.ne d e dC),aC a.t λb cs _ d=>k.d d (Bk.ne d e dC),k.d a.V (Bk.ne a.V e dC),aC a.F λb cs _ d=>k.d d (Bk.ne d e dC),aC a.M λb cs _ d=>k.d d (Bk.ne d e dC),a.apart,a.lt,a.lo⟩,hx.fp,hx.fa,hx.fl,hx.fo,hx.ft,hx.ff,hx.nd,hx.an,hx.tkk,hx.a8,hx.am,hx.sz⟩,m⟩,s,u⟩
def LiveE.ax {gl rate t} (e:LiveE w B own gl t rate) (k:Keep (λb=>b=g) w w') (d:Bk w g 29 cs0):LiveE w' B own gl t rate:=by
 obtain ⟨gk,gp,m,T,p,o,⟨f,a,i,j⟩,l⟩:=e;exact ⟨gk,gp,m,T,p,o,⟨f,⟨k.d a.a (Bk.ne a.a d dC),a.x,a.walk.ax k d,a.perm.ax k d⟩,i,j⟩,l⟩
def StAt.ax {gs gl aA rate t} (a:StAt w B own gs gl aA rate t) (k:Keep (λb=>b=g) w w') (d:Bk w g 29 cs0):StAt w' B own gs gl aA rate t:=
 ⟨k.d a.a (Bk.ne a.a d dC),a.low,a.x,a.live.ax k d,a.n127,a.len,a.max,a.r1,a.r2⟩
end
section
variable {w w' : World} {B gs gs1 gs2 gl1 gl2 aA rate : Nat} {own own' own1 own2 own2' : Nat -> Nat} {T T2 : List UInt8} {r : Told} {v : Value}
def DoS (B gs:Nat) (own:Nat->Nat) (aA rate:Nat) (T2:List UInt8) (w w':World):Prop:=∃own' a,StAt w' B own' gs a aA rate T2/\LFS B gs w w' own own'
def ResD (w:World) (own:Nat->Nat) (gs:Nat) (r:Told) (v:Value):Prop:=∃A1 c1 A2 c2,v=.agg (iD r A1 c1 A2 c2)/\MadeZ w own gs 5 A1 r.data.length c1 (r.data.map bv)/\MadeZ w own gs 3 A2 r.places.length c2 (r.places.map nv)
def MadeZ.b7 {a A n c xs} (d:MadeZ w own gs a A n c xs) (k:LFS B gs w w' own own') (i:a≠223) (j:a≠181):MadeZ w' own gs a A n c xs:=⟨(d.step k i j).1,λe f=>⟨zAl (d.2 e f).1 k.size,(d.2 e f).2⟩⟩
def ResD.step (a:ResD w own gs r v) (k:LFS B gs w w' own own'):ResD w' own gs r v:=by
 obtain ⟨A1,c1,A2,c2,rfl,d,e⟩:=a;exact ⟨A1,c1,A2,c2,rfl,d.b7 k dC dC,e.b7 k dC dC⟩
def ResD.below (a:ResD w own gs r v) (k:Below w.heap.size w w'):ResD w' own gs r v:=a.step (LFS.j 0 gs own k)
def OneDone (w:World) (B gs1 gs2:Nat) (own2:Nat->Nat) (aA rate:Nat) (T2:List UInt8) (r:Told) (v:Value):Prop:=∃a d,StAt w B a gs1 d aA rate T2/\Two a gs1 own2 gs2/\ResD w own2 gs2 r v
def BothDone (w:World) (B gs1 gs2 aA rate:Nat) (T2:List UInt8) (r:Told) (v:Value):Prop:=∃a d own2' e,StAt w B a gs1 d aA rate T2/\StAt w B own2' gs2 e aA rate T2/\Two a gs1 own2' gs2/\∃A1 c1 A2 c2,v=.agg (iD r A1 c1 A2 c2)/\Made w 0 5 1 A1 r.data.length c1 (r.data.map bv)/\Made w 0 3 1 A2 r.places.length c2 (r.places.map nv)
def OneDone.below (d:OneDone w B gs1 gs2 own2 aA rate T2 r v) (k:Below w.heap.size w w'):OneDone w' B gs1 gs2 own2 aA rate T2 r v:=by
 obtain ⟨j,a,e,f,i⟩:=d;exact ⟨j,a,e.G (kb k),f,i.below k⟩
def BothDone.below (e:BothDone w B gs1 gs2 aA rate T2 r v) (k:Below w.heap.size w w'):BothDone w' B gs1 gs2 aA rate T2 r v:=by
 obtain ⟨o,a,own2',d,f,i,j,A1,c1,A2,c2,rfl,l,m⟩:=e;exact ⟨o,a,own2',d,f.G (kb k),i.G (kb k),j,A1,c1,A2,c2,rfl,l.below k,m.below k⟩
def aPk (d e B gs1 gs2:Nat) (own1 own2:Nat->Nat) (aA rate:Nat) (T2:List UInt8) (a:Nat) (w w':World):Prop:=(a=d->DoS B gs1 own1 aA rate T2 w w')/\(a=e->DoS B gs2 own2 aA rate T2 w w')/\(a≠d->a≠e->Below w.heap.size w w')
def DuoC (a:World) (B gt:Nat) (cs:Array Value) (w:World):Prop:=Bk w gt 32 cs/\Below B a w/\B<=w.heap.size
def DuoU (d e B gs1 gl1 gs2 gl2:Nat) (own1 own2:Nat->Nat) (aA rate:Nat) (T:List UInt8) (a:Nat) (w:World):Prop:=(a=d->StAt w B own1 gs1 gl1 aA rate T/\StAt w B own2 gs2 gl2 aA rate T)/\(a=e->StAt w B own2 gs2 gl2 aA rate T)
def DuoC.step {l gt j p q cs} (u:DuoC l B gt cs w) (k:aPk p q B gs1 gs2 own1 own2 aA rate T2 j w w') (m:Ap own1 gs1 gt) (o:Ap own2 gs2 gt):DuoC l B gt cs w':=by
 obtain ⟨e,f,d⟩:=u;by_cases c1:j=p;obtain ⟨own',s,_,a⟩:=k.1 c1;exact ⟨a.d e m.x m.ne dC dC,f.trans (a.below d),zAk d a.size⟩;by_cases c2:j=q;obtain ⟨own',s,_,a⟩:=k.2.1 c2;exact ⟨a.d e o.x o.ne dC dC,f.trans (a.below d),zAk d a.size⟩;have i:=k.2.2 c1 c2;exact ⟨e.below i e.lt,f.trans (i.mono d),zAk d i.size⟩
def dD (w B):Below B w w.drew:=⟨rfl,rfl,rfl,zAs _,λ_ _=>rfl⟩
def DuoC.drew {d gt cs} (a:DuoC d B gt cs w):DuoC d B gt cs w.drew:=⟨a.1,a.2.1.trans (dD w B),a.2.2⟩
def DuoU.drew {e f i} (d:DuoU f i B gs1 gl1 gs2 gl2 own1 own2 aA rate T e w):DuoU f i B gs1 gl1 gs2 gl2 own1 own2 aA rate T e w.drew:=⟨λa=>⟨(d.1 a).1.G (kb (dD _ _)),(d.1 a).2.G (kb (dD _ _))⟩,λa=>(d.2 a).G (kb (dD _ _))⟩
def DuoU.step {j e f i} (l:DuoU f i B gs1 gl1 gs2 gl2 own1 own2 aA rate T j w) (k:aPk f i B gs1 gs2 own1 own2 aA rate T2 e w w') (ht:Two own1 gs1 own2 gs2) (s:j≠e) (o:e≠i):DuoU f i B gs1 gl1 gs2 gl2 own1 own2 aA rate T j w':=by
 refine ⟨λa=>?_,λa=>?_⟩;have m:=k.2.2 (λp=>s (a.trans p.symm)) o;obtain ⟨q,d⟩:=l.1 a;exact ⟨q.G (kb m),d.G (kb m)⟩;have d:=l.2 a;by_cases c1:e=f;obtain ⟨own',z,_,u⟩:=k.1 c1;exact (d.other u ht).1;exact d.G (kb (k.2.2 c1 o))
end
def aH3 {d a k} (f:¬dK d a k=false):0<=a/\0<=k/\a+k<=(d:Int):=by
 cases e:dK d a k with
 | false=>exact absurd e f
 | true=>
  obtain ⟨i,b,rfl,rfl,j⟩:=dT e;omega
def aEZ (T s) (aA:Nat) (d u k:Int) (a:T.length<=aA):(doM T (aA:Int) d u k s).1.length<=aA:=by
 unfold doM;by_cases f:d=1
 .rw [zBx f];split;exact a
  .split;exact a
   .rename_i e z
    have:=aH3 e;simp only [zAi,zAj,zAw];omega
 rw [zBw f];by_cases i:d=2;rw [zBx i];split;exact a;simp only [zAi,zAj,zAw];omega;rw [zBw i];by_cases m:d=5
 .rw [zBx m];split <;> exact a
 rw [zBw m];by_cases j:d=3
 .rw [zBx j];split;exact a
  .rename_i e
   have:=aH3 e;simp only [zAi,zAj,zAw];omega
 rw [zBw j];by_cases l:d=4;rw [zBx l];exact a;rw [zBw l];by_cases o:d=6;rw [zBx o];exact a;rw [zBw o];by_cases p:d=7;rw [zBx p];exact a;rw [zBw p];by_cases q:d=8;rw [zBx q];exact a;rw [zBw q];exact a
section
variable {w w' : World} {v : Value}
def fresh (N0:Nat) (t:TypeId) (cs:Array Value):Value->World->Prop:=λv w=>∃g,v=.pointer (some ⟨g,0,none⟩)/\N0<=g/\Bk w g t cs
def aPn:Array Value:=#[.int .i64 0,.int .i64 0,.slice none 0 0,.slice none 0 0]
variable {B gs gl gx gt N0 aA rate : Nat} {own own' : Nat -> Nat} {T T2 : List UInt8} {r : Told}
def MdX (w:World) (gx aA:Nat) (T:List UInt8):Prop:=Bk w gx 35 #[.string ⟨T.toArray⟩,(aA:Int)]
def PyA (B gs gx N0 aA rate:Nat) (T2:List UInt8) (r:Told) (v:Value) (w:World):Prop:=∃own1 gl1,StAt w B own1 gs gl1 aA rate T2/\Ap own1 gs gx/\∃A1 c1 A2 c2,v=.agg (iD r A1 c1 A2 c2)/\Made w N0 5 1 A1 r.data.length c1 (r.data.map bv)/\Made w N0 3 1 A2 r.places.length c2 (r.places.map nv)
def PyA.below (a:PyA B gs gx N0 aA rate T2 r v w) (k:Below w.heap.size w w'):PyA B gs gx N0 aA rate T2 r v w':=by
 obtain ⟨own1,gl1,d,e,A1,c1,A2,c2,f,i,j⟩:=a;exact ⟨own1,gl1,d.G (kb k),e,A1,c1,A2,c2,f,i.below k,j.below k⟩
def PyA.keep (f:PyA B gs gx N0 aA rate T2 r v w) (k:Keep (λb=>b=gx) w w') (hx:gx < N0):PyA B gs gx N0 aA rate T2 r v w':=by
 obtain ⟨own1,gl1,i,e,A1,c1,A2,c2,j,l,m⟩:=f;exact ⟨own1,gl1,i.m k (λb a=>by have d:b=gx:=a;rw [d];exact e),e,A1,c1,A2,c2,j,l.o k (λb a=>by have d:b=gx:=a;omega),m.o k (λb a=>by have d:b=gx:=a;omega)⟩
def PyB (gx N0 aA:Nat) (T2:List UInt8) (r:Told) (v:Value) (w:World):Prop:=∃A1 c1 A2 c2,v=.agg (iD r A1 c1 A2 c2)/\RdN w N0 1 A1 r.data.length (r.data.map bv)/\Made w N0 3 1 A2 r.places.length c2 (r.places.map nv)/\MdX w gx aA T2
def PyB.below (d:PyB gx N0 aA T2 r v w) (k:Below w.heap.size w w'):PyB gx N0 aA T2 r v w':=by
 obtain ⟨A1,c1,A2,c2,e,f,i,a⟩:=d;exact ⟨A1,c1,A2,c2,e,f.below k,i.below k,kf a k (Bk.lt a)⟩
def PyS (d e B gs gx:Nat) (own:Nat->Nat) (aA rate:Nat) (T2:List UInt8) (a:Nat) (w w':World):Prop:=(a=d->DoS B gs own aA rate T2 w w')/\(a=e->Keep (λb=>b=gx) w w'/\MdX w' gx aA T2)/\(a≠d->a≠e->Below w.heap.size w w')
def PyC (a:World) (B gx gt N0 aA:Nat) (cs:Array Value) (w:World):Prop:=Bk w gt 32 cs/\Below B a w/\B<=w.heap.size/\N0<=w.heap.size/\∃d,MdX w gx aA d
def PyU (d e B gs gl gx:Nat) (own:Nat->Nat) (aA rate:Nat) (T:List UInt8) (a:Nat) (w:World):Prop:=(a=d->StAt w B own gs gl aA rate T)/\(a=e->MdX w gx aA T)
def PyC.step {q p C D cs} (E:PyC q B gx gt N0 aA cs w) (k:PyS C D B gs gx own aA rate T2 p w w') (u:Ap own gs gt) (z:Ap own gs gx) (G:gt≠gx) (J:B<=gx):PyC q B gx gt N0 aA cs w':=by
 obtain ⟨f,l,a,m,s,o⟩:=E;by_cases c1:p=C;obtain ⟨own',I,_,e⟩:=k.1 c1;exact ⟨e.d f u.x u.ne dC dC,l.trans (e.below a),zAk a e.size,zAk m e.size,s,e.d o z.x z.ne dC dC⟩;by_cases c2:p=D;obtain ⟨i,F⟩:=k.2.1 c2;exact ⟨i.d f (λj=>G j),l.trans (i.e a λb d j=>by have H:b=gx:=j;omega),zAk a i.size,zAk m i.size,T2,F⟩;have d:=k.2.2 c1 c2;exact ⟨f.below d f.lt,l.trans (d.mono a),zAk a d.size,zAk m d.size,s,kf o d (Bk.lt o)⟩
def PyC.drew {d cs} (a:PyC d B gx gt N0 aA cs w):PyC d B gx gt N0 aA cs w.drew:=⟨a.1,a.2.1.trans (dD w B),a.2.2.1,a.2.2.2.1,a.2.2.2.2⟩
def PyU.drew {e f i} (d:PyU f i B gs gl gx own aA rate T e w):PyU f i B gs gl gx own aA rate T e w.drew:=⟨λa=>(d.1 a).G (kb (dD _ _)),λa=>d.2 a⟩
def PyU.step {f i d j} (e:PyU d j B gs gl gx own aA rate T f w) (k:PyS d j B gs gx own aA rate T2 i w w') (m:Ap own gs gx) (o:f≠i) (p:f=d->i≠j):PyU d j B gs gl gx own aA rate T f w':=by
 refine ⟨λa=>?_,λa=>?_⟩;exact (e.1 a).G (kb (k.2.2 (λl=>o (a.trans l.symm)) (p a)));by_cases c1:i=d;obtain ⟨own',u,_,s⟩:=k.1 c1;exact s.d (e.2 a) m.x m.ne dC dC;have q:=k.2.2 c1 (λl=>o (a.trans l.symm));exact kf (e.2 a) q (Bk.lt (e.2 a))
end
def aPj (cs:Array Value):Prop:=∀(a:Nat) (c:UInt8),cs[a]?≠some (bv c)
def aK5 (x y A1 A2 n1 c1 n2 c2):aPj #[(x:Int),(y:Int),.slice A1 n1 c1,.slice A2 n2 c2]:=by
 intro a c;rcases a with _ | _ | _ | _ | a <;> simp [bv]
section
variable {w w' : World} {g : Nat} {t : TypeId} {cs : Array Value} (hx : Bk w g t cs) (k : Keep (λb => b = g) w w')
include hx k
def aPc {B n:Nat} {A:Option Addr} {T:List UInt8} (m:aPj cs) (d:Rd w B 1 A n (T.map bv)) (hB:B<=w.heap.size):Rd w' w'.heap.size 1 A n (T.map bv):=Rd.o d k hB λp s l a=>by
 obtain ⟨b,q,e,u,j⟩:=d.2 p;rw [l] at e;cases e;have a:b=g:=a;subst a;have o:(T.map bv).length=n:=by have:=d.1;omega
 have i:0 < T.length:=by simp at o;omega
 have f:=j 0 (bv (T[0]'i)) (by rw [zAf,zAa i];rfl);rw [zBq,hx.cell q] at f;exact m _ _ f
def aM7 {B sz n c a A xs} (i:a≠t) (d:Made w B a sz A n c xs):Made w' B a sz A n c xs:=by
 have f:w'.ownsRow B a sz (.slice A n c) n xs:=aC d.own λb j _ e=>k.d e (Bk.ne e hx i);exact ⟨f,Rd.s f,d.cap,d.max⟩
end
def nW (w:World) (g:Nat) (a num:Int) (d e:Value):World:=(((w.setCell g (.int .i64 a)).setCell ⟨g,1,none⟩ (.int .i64 num)).setCell ⟨g,2,none⟩ d).setCell ⟨g,3,none⟩ e
def iH (w g a num d e):Keep (λb=>b=g) w (nW w g a num d e):=
 ((((ke (λb=>b=g) w).setCell (p:=g) (.inl rfl) _).setCell (p:=⟨g,1,none⟩) (.inl rfl) _).setCell (p:=⟨g,2,none⟩) (.inl rfl) _).setCell (p:=⟨g,3,none⟩) (.inl rfl) _
def aB9 {w g i j l m} (f:Bk w g 29 #[i,j,l,m]) (a num d e):Bk (nW w g a num d e) g 29 #[(a:Int),(num:Int),d,e]:=by
 have:=(((f.set 0 (.int .i64 a)).set 1 (.int .i64 num)).set 2 d).set 3 e;simpa [nW] using this
def ResC (w:World) (g:Nat):Prop:=∃(x y:Int) (A1:Option Addr) (n1 c1:Nat) (A2:Option Addr) (n2 c2:Nat),Bk w g 29 #[(x:Int),(y:Int),.slice A1 n1 c1,.slice A2 n2 c2]
def ResX (w:World) (g:Nat) (r:Told):Prop:=∃A1 c1 A2 c2,Bk w g 29 (iD r A1 c1 A2 c2)/\Rd w w.heap.size 1 A1 r.data.length (r.data.map bv)/\Made w 0 3 1 A2 r.places.length c2 (r.places.map nv)
section
variable {w : World} {g g' : Nat} {r : Told} {A1 A2 : Option Addr} {x y : Int} {n1 c1 n2 c2 : Nat}
def ResC.of (a:Bk w g 29 aPn):ResC w g:=⟨_,_,_,_,_,_,_,_,a⟩
def ResC.be {e} (a:ResC w g) (d:ResC w g') (j:nW w g' x y (.slice A1 n1 c1) (.slice A2 n2 c2)=e):ResC e g:=by
 subst j;obtain ⟨_,_,_,_,_,_,_,_,d⟩:=d;by_cases f:g=g';subst f;exact ⟨_,_,_,_,_,_,_,_,aB9 d _ _ _ _⟩;obtain ⟨_,_,_,_,_,_,_,_,a⟩:=a;exact ⟨_,_,_,_,_,_,_,_,(iH w g' _ _ _ _).d a (λi=>f i)⟩
def StAt.be {d B gs gl aA rate own T} (e:StAt w B own gs gl aA rate T) (a:ResC w g') (f:nW w g' x y (.slice A1 n1 c1) (.slice A2 n2 c2)=d):StAt d B own gs gl aA rate T:=by
 subst f;obtain ⟨_,_,_,_,_,_,_,_,a⟩:=a;exact e.ax (iH w g' _ _ _ _) a
def MdX.be {d gx aA T} (e:MdX w gx aA T) (a:ResC w g') (f:nW w g' x y (.slice A1 n1 c1) (.slice A2 n2 c2)=d):MdX d gx aA T:=by
 subst f;obtain ⟨_,_,_,_,_,_,_,_,a⟩:=a;exact (iH w g' _ _ _ _).d e (Bk.ne e a dC)
def RowR (w:World) (A1 A2:Option Addr) (c2:Nat) (r:Told):Prop:=Rd w w.heap.size 1 A1 r.data.length (r.data.map bv)/\Made w 0 3 1 A2 r.places.length c2 (r.places.map nv)
def RowR.be {d A3 A4 c4 q} (e:RowR w A3 A4 c4 q) (a:ResC w g') (f:nW w g' x y (.slice A1 n1 c1) (.slice A2 n2 c2)=d):RowR d A3 A4 c4 q:=by
 subst f;obtain ⟨_,_,_,_,_,_,_,_,a⟩:=a;exact ⟨aPc a (iH w g' _ _ _ _) (aK5 _ _ _ _ _ _ _ _) e.1 nL,aM7 a (iH w g' _ _ _ _) dC e.2⟩
def ResX.new {a} (d:ResC w g) (i:RowR w A1 A2 c2 r) (f:nW w g r.code r.num (.slice A1 r.data.length c1) (.slice A2 r.places.length c2)=a):ResX a g r:=by
 have e:=i.be d f;subst f;obtain ⟨_,_,_,_,_,_,_,_,j⟩:=d;exact ⟨A1,c1,A2,c2,aB9 j _ _ _ _,e.1,e.2⟩
def ResX.be {i} (s:ResX w g r) (l:ResC w g') (u:RowR w A1 A2 c2 r) (f:nW w g' r.code r.num (.slice A1 r.data.length c1) (.slice A2 r.places.length c2)=i):ResX i g r:=by
 by_cases j:g=g';subst j;exact ResX.new l u f;obtain ⟨a,o,d,e,z,C,D⟩:=s;have m:=RowR.be (A3:=a) (A4:=d) (c4:=e) (q:=r) ⟨C,D⟩ l f;subst f;exact ⟨a,o,d,e,(iH w g' _ _ _ _).d z (λp=>j p),m.1,m.2⟩
end
def nM (aA rate:Nat) (w) (o:aA<=2147483648) (i:1<=rate) (j:rate<=64):
 Calls prog 6 #[(aA:Int),(rate:Int)] w λf w'=>∃gs gl own,f=.returned (.tuple #[.pointer (some ⟨gs,0,none⟩),o0])/\StAt w' w.heap.size own gs gl aA rate []/\Below w.heap.size w w':=by
 have l:=vO (A0:=none) (m0:=0) (B:=w.heap.size) (ss:=[]) (t:=[]) (N:=0) (w:=w) rate 0 rfl rfl (Rd.nil _ _ _ _) (λC p=>by cases p) nL oM oM i j;have n1:¬((aA:Int) < 0):=oM;have n2:¬((aA:Int) > 2147483648):=oM;have z:=zBy n2;go_enter func6,ntmps6;go_wp2_with fail;refine l.mono ?_;rintro f w1 ⟨gl,own,rfl,u,e,a⟩;have d:Below w1.heap.size w1 (w1.alloc (.cells #[.pointer (some ⟨gl,0,none⟩),(aA:Int)] 53)):=bR.alloc nL _;have q:StAt (w1.alloc (.cells #[.pointer (some ⟨gl,0,none⟩),(aA:Int)] 53)) w.heap.size own w1.heap.size gl aA rate []:=
  ⟨kd _ _ _,a.size,zFi λs=>by have:=(e.q w1.heap.size oM).2;omega,e.b (kb d),by simp,by simp,o,i,j⟩
 have m:=(a.trans (d.mono a.size));clear d a e l;go_wp2_with fail;go_ret2;exact ⟨_,gl,own,rfl,q,m⟩
def yL (t:List UInt8) (n:Nat) (w:World) (f:Ending) (w':World):Prop:=∃a d e,f=.returned (.slice a (n+1) d)/\IsSuf (aG t) e/\Made w' w.heap.size 3 1 a (n+1) d ((aH (aG t) e).map sv)/\Below w.heap.size w w'
def qR {t n} (w) (d:t.length=n) (a5:n<=900):
 Calls prog 28 #[.string ⟨t.toArray⟩] w (yL t n w):=by
 obtain ⟨Y,O,V,W,X⟩:=info_parts gI;have I:=qQ w d a5;unfold yK at I;have ah:(⟨t.toArray⟩:ByteArray).size=n:=(rW t).trans d;unfold yL;go_enter func28,ntmps28;go_wp2_with fail;refine I.mono ?_;rintro aa w1 ⟨A1,c1,o,rfl,J,a4,D⟩;have S:o.length=n+1:=by rw [J.len,aO,d]
 obtain ⟨i,z⟩:=eqx (aH (aG t) o);have a2:i.length=n+1:=by rw [<-z,bY,S]
 have L:=D;clear I D;go_wp2_with fail;go_loopw [4,5] (λv K wr=>∃k:Nat,k<=n+1/\K=.int .i64 k/\wr.ownsRow w1.heap.size 3 1 v k ((i.take k).map sv)/\Below w1.heap.size w1 wr) (λ_ K _=>n+1 -(intOf K).toNat)
 case atStart=>exact ⟨0,zAp _,rfl,ki _ _ _ _,kg _ _⟩
 case round=>
  obtain ⟨k,ae,rfl,e,j⟩:=hrel;have s:=j.size;by_cases a3:k < n+1
  .have R:k < o.length:=(by rw [S];exact a3);obtain ⟨a,H⟩:∃a,o[k]?=some a:=⟨_,zAa R⟩;have af:a<=n:=(by have:=J.lt (zAd H);rw [aO,d] at this;omega);obtain ⟨b1,Z,rfl,D,N⟩:=(a4.rd.below j).2 oM;have u:wr.cell? ⟨b1,Z+k,none⟩=some (.int .i64 a):=N k _ (by rw [zAf,H];rfl);have M:i[k]?=some (bS (aG t) a):=(by rw [<-z];unfold aH;rw [zAf,H];rfl);have q:i.take (k+1)=i.take k++ [bS (aG t) a]:=(by rw [zAv,M];rfl);clear N M R;rcases a with _ | f
   .have m:bS (aG t) 0=0:=(by rw [bV (by rw [aO];omega),aO,zBb];exact (fA t).last);rw [m] at q;clear m;have a9:wr.cell? ⟨b1,Z+k,none⟩=some (.int .i64 0):=u;clear u;go_wp2_with (at_builtin;refine bP _ rfl (.tmp 19) (.tmp 20) _ rfl w1.heap.size 3 Y (.int .i64 0) 1 8 underlying27 O V W X rfl dC _ k _ rfl e rfl rfl (by simp [Value.oneCell']) zx oM s ?_;intro a7 a8 G l a6 C);have E:=aX j e l s;clear l C;go_roundw
    case rel=>exact ⟨k+1,by omega,by go_num,by rw [q,zAz];exact G,E⟩
    case measure=>exact zr
   .obtain ⟨c,F⟩:∃c,t[f]?=some c:=⟨_,zAa (by rw [d];omega)⟩;have m:bS (aG t) (f+1)=c.toNat+1:=(by rw [bL (by rw [aO,d];omega)];unfold aG dQ;rw [zAb,zAn (by rw [zBc,d];omega),zAf,F];rfl);rw [m] at q;have a0:(((f+1:Nat):Int)==0)=false:=(by rw [zCb];omega);have a1:IntKind.i64.wrap ((f+1:Nat) - 1)=(f:Int):=zu;have ag:=aGe F;have ad:=c.toNat_lt;have ab:IntKind.i64.wrap c.toNat=(c.toNat:Int):=zu;have ac:wrap64 (c.toNat+1)=((c.toNat+1:Nat):Int):=(by rw [dU oM oM];omega);clear m F;generalize f+1=a at u a0 a1;go_wp2_with (at_builtin;refine bP _ rfl (.tmp 22) (.tmp 32) _ rfl w1.heap.size 3 Y (.int .i64 0) 1 8 underlying27 O V W X rfl dC _ k _ rfl e rfl rfl (by simp [Value.oneCell']) zx oM s ?_;intro a7 a8 G l a6 C);have E:=aX j e l s;clear l C;go_roundw
    case rel=>exact ⟨k+1,by omega,by go_num,by rw [q,zAz];exact G,E⟩
    case measure=>exact zr
  .obtain rfl:k=n+1:=oM;rw [zAg (by rw [a2];exact zAs _)] at e;obtain ⟨A,c,rfl,p⟩:=aR e;clear e;go_wp2_with fail;go_ret;have U:=L.size;exact ⟨A,c,o,rfl,J,by rw [z];exact ⟨cG p.own U,p.rd,p.cap,p.max⟩,L.trans (j.mono U)⟩
def sE (w:World) (B:Nat) (own:Nat->Nat) (gs aA rate:Nat) (T:List UInt8) (a num:Int) (d:List UInt8) (i:List Nat) (n1 n2:Nat) (e:Ending) (w':World):Prop:=
 ∃A1 c1 A2 c2 own' f,e=.returned (.agg #[(a:Int),(num:Int),.slice A1 n1 c1,.slice A2 n2 c2])/\StAt w' B own' gs f aA rate T/\LFS B gs w w' own own'/\MadeZ w' own' gs 5 A1 n1 c1 (d.map bv)/\MadeZ w' own' gs 3 A2 n2 c2 (i.map nv)
def StDone.v {w w' B gs aA rate own T o num i m n1 n2 p} (G:gs < w.heap.size) (q:i.length=n1) (s:m.length=n2) (z:StDone w B own gs aA rate T ⟨o,num,i,m⟩ p w'):sE w B own gs aA rate T o num i m n1 n2 p w':=by
 subst q s;obtain ⟨A1,c1,A2,c2,own',u,rfl,C,D,d,e,E,F⟩:=z;refine ⟨A1,c1,A2,c2,own',u,rfl,C,D,⟨⟨cG d.own (zAp _),d.rd,d.cap,d.max⟩,λa f=>?_⟩,⟨⟨cG e.own (zAp _),e.rd,e.cap,e.max⟩,λa f=>?_⟩⟩;have j:=E a f;subst f;have l:=d.own.lt (k:=a.block) rfl;exact ⟨l.2,j,by omega⟩;have j:=F a f;subst f;have l:=e.own.lt (k:=a.block) rfl;exact ⟨l.2,j,by omega⟩
def Kp (w:World) (own:Nat->Nat) (gs g:Nat) (t:TypeId) (cs:Array Value):Prop:=Bk w g t cs/\Ap own gs g
def Kp.step {w w' B gs g own own' t cs} (a:Kp w own gs g t cs) (k:LFS B gs w w' own own') (d:t≠223) (e:t≠181):Kp w' own' gs g t cs:=⟨k.d a.1 a.2.x a.2.ne d e,a.2.step k a.1.lt⟩
def Kp.new {a B gs gl aA rate own e} (d:StAt a B own gs gl aA rate e) (t cs):Kp (a.alloc (.cells cs t)) own gs a.heap.size t cs:=⟨kd a t cs,d.fresh nL,by have:=d.a.lt;omega⟩
def aA3 {B own gs gl aA rate t w} (d:StAt w B own gs gl aA rate t):
 Calls prog 35 #[gs] w λa w'=>a=.returned (.int .i64 rate)/\w=w':=by
 have i:=d.a.cell 0;have e:Calls prog 62 #[gl] w λa w'=>a=.returned (.int .i64 rate)/\w=w':=by obtain ⟨q,gk,gp,p,m,f,l,o,j⟩:=d.tp;exact oW f
 clear d;go_enter func35,ntmps35;go_wp2_with fail;refine e.mono ?_;rintro a w1 ⟨rfl,rfl⟩;clear e;go_wp2_with fail;go_ret;exact ⟨rfl,rfl⟩
def oR (w:World) (B:Nat) (a:List Nat) (n:Nat) (d:Ending) (w':World):Prop:=∃A c,d=.returned (.slice A n c)/\Made w' w.heap.size 3 1 A n c (a.map sv)/\VB B w w'
def aA5 {B own gs gl aA rate} (n) {t f w} (a:StAt w B own gs gl aA rate t) (e:IsSuf (aG t) f) (j:t.length+1=n):
 Calls prog 32 #[gs] w (oR w B (aH (aG t) f) n):=by
 have s:=a.a.cell 0;have d:Calls prog 61 #[gl] w (oR w B (aH (aG t) f) n):=by
  obtain ⟨q,gk,gp,E,o,l,C,D,z⟩:=a.tp;obtain rfl:=o.unique e;have i:(aH (aG t) q).length=n:=by rw [bY,e.len,aO,j]
  have:=vP l (dR (eX t)) (by rw [i];omega);unfold kB at this;rw [i] at this;exact this
 unfold oR at d⊢;clear a e j;go_enter func32,ntmps32;go_wp2_with fail;refine d.mono ?_;rintro u w1 ⟨A,c,rfl,m,p⟩;clear d;go_wp2_with fail;go_ret;exact ⟨A,c,rfl,m,p⟩
def ResM (w:World) (b0:Nat) (b:List Value) (a:Nat) (r:Told):Prop:=
 ∃c e d f,b[a*4]?=some (.int .i64 r.code)/\b[a*4+1]?=some (.int .i64 r.num)/\b[a*4+2]?=some (.slice c r.data.length e)/\b[a*4+3]?=some (.slice d r.places.length f)/\Made w b0 5 1 c r.data.length e (r.data.map bv)/\Made w b0 3 1 d r.places.length f (r.places.map nv)
def Made.same {w w' c n f b A g} (e:Made w c b 1 A n f g) (l:∀a d,c<=a->Bk w a b d->Bk w' a b d):Made w' c b 1 A n f g:=by
 have i:w'.ownsRow c b 1 (.slice A n f) n g:=aC e.own λa d k j=>l a d (e.own.lt a k).1 j;exact ⟨i,Rd.s i,e.cap,e.max⟩
def ResM.same {w w' b0 g f r} (m:ResM w b0 g f r) (q:∀a c b,b0<=a->c=5∨c=3->Bk w a c b->Bk w' a c b):ResM w' b0 g f r:=by
 obtain ⟨i,k,j,l,o,p,s,t,u,x⟩:=m;exact ⟨i,k,j,l,o,p,s,t,u.same λa b e d=>q a _ b e (.inl rfl) d,x.same λa b e d=>q a _ b e (.inr rfl) d⟩
def ResM.more {w b0 a f e r} (l:ResM w b0 a e r):ResM w b0 (a++f) e r:=by
 obtain ⟨g,j,i,k,m,o,p,s,t⟩:=l;have q:∀(b:Nat) (c:Value),a[b]?=some c->(a++f)[b]?=some c:=λb c d=>by rw [zAn (zAc.1 d).1];exact d
 exact ⟨g,j,i,k,q _ _ m,q _ _ o,q _ _ p,q _ _ s,t⟩
section
variable {w w' : World} {b0 B gs n q : Nat} {own own' : Nat -> Nat} {v : Value} {R : Nat -> Told} {L : List Sp} {aA : Int}
def AnsAt (w:World) (b0:Nat) (v:Value) (n:Nat) (R:Nat->Told):Prop:=∃b,w.ownsRow b0 29 4 v n b/\∀a,a < n->ResM w b0 b a (R a)
def AnsAt.same (i:AnsAt w b0 v n R) (g:∀a b c,b0<=a->b=29∨b=5∨b=3->Bk w a b c->Bk w' a b c):AnsAt w' b0 v n R:=by
 obtain ⟨m,f,j⟩:=i;exact ⟨m,aC f λa c e d=>g a _ c (f.lt a e).1 (.inl rfl) d,λl k=>(j l k).same λa b c e ht d=>g a b c e (.inr ht) d⟩
def AnsAt.below (b:AnsAt w b0 v n R) (c:Below w.heap.size w w'):AnsAt w' b0 v n R:=b.same λe f d _ _ a=>a.below c a.lt
def AnsAt.keep {gx a d} (e:AnsAt w b0 v n R) (g:Keep (λc=>c=gx) w w') (f:Bk w gx a d) (k:29≠a) (l:5≠a) (m:3≠a):AnsAt w' b0 v n R:=
 e.same λj o i _ ht b=>g.d b (Bk.ne b f (by rcases ht with rfl | rfl | rfl <;> assumption))
def AnsAt.slice (d:AnsAt w b0 v n R):∃A a,v=.slice A n a/\n<=a/\a<=maxLen:=by
 obtain ⟨f,e,_⟩:=d;obtain ⟨A,a,c,b⟩:=aR e;exact ⟨A,a,c,b.cap,b.max⟩
def AnsAt.get {A i} (j:AnsAt w b0 (.slice A n i) n R) (s:0 < n):∃a b,A=some ⟨a,b,none⟩/\a < w.heap.size/\∀k,k < n->∃c e d f,w.cell? ⟨a,b+k*4,none⟩=some (.int .i64 (R k).code)/\w.cell? ⟨a,b+k*4+1,none⟩=some (.int .i64 (R k).num)/\w.cell? ⟨a,b+k*4+2,none⟩=some (.slice c (R k).data.length e)/\w.cell? ⟨a,b+k*4+3,none⟩=some (.slice d (R k).places.length f)/\Made w b0 5 1 c (R k).data.length e ((R k).data.map bv)/\Made w b0 3 1 d (R k).places.length f ((R k).places.map nv):=by
 obtain ⟨D,l,m⟩:=j;obtain ⟨a,b,rfl,o,g⟩:=(Rd.s l).2 s;refine ⟨a,b,rfl,o,λk p=>?_⟩;obtain ⟨c,e,d,f,x,y,z,C,t,u⟩:=m k p;exact ⟨c,e,d,f,g _ _ x,g _ _ y,g _ _ z,g _ _ C,t,u⟩
def AnsAt.da {b} (g:w'.ownsRow w.heap.size 29 4 v q b) (i:∀a,a < q->ResZ w' own' gs b a (R a)):AnsAt w' 0 v q R:=
 ⟨b,cG g (zAp _),λa j=>by
  obtain ⟨c,e,d,f,m,o,p,s,k,l⟩:=i a j;exact ⟨c,e,d,f,m,o,p,s,k.1,l.1⟩⟩
end
def txM (aA:Int) (L:List Sp):Nat->List UInt8
 | 0=> []
 | k+1=>match L[k]? with
  | some a=>(doM (txM aA L k) aA a.kind a.p a.k a.D).1
  | none=>txM aA L k
def anM (aA:Int) (L:List Sp) (b:Nat):Told:=match L[b]? with
 | some a=>(doM (txM aA L b) aA a.kind a.p a.k a.D).2
 | none=>⟨0,0, [], []⟩
def aO9 {aA L b a} (c:L[b]?=some a):doM (txM aA L b) aA a.kind a.p a.k a.D=(txM aA L (b+1),anM aA L b):=by
 simp only [txM,anM,c]
def aHG (aA:Nat) (L:List Sp):∀a,(txM (aA:Int) L a).length<=aA
 | 0=>zAp _
 | a+1=>by have b:=aHG aA L a;unfold txM;split;exact aEZ _ _ aA _ _ _ b;exact b
section
variable {w w' : World} {v vl : Value} {B gs gl gx N0 N2 aA rate q : Nat} {own own' : Nat -> Nat} {T T2 : List UInt8} {r : Told} {L : List Sp}
def RdN.b {k l n A f} (a:RdN w k l A n f) (j:Vis w w'):RdN w' k l A n f:=by
 rcases zBa n with b | b;subst b;have:f= []:=(by simpa using a.1.1);subst this;exact RdN.nil _ _ _ _;obtain ⟨c,C,rfl,u,x⟩:=a.1.2 b;obtain ⟨t,m,o,s,g,d⟩:=a.2 b _ rfl;have i:w'.heap[c]?=w.heap[c]?:=j.same g (λp=>p) (by rcases d with rfl | rfl <;> decide) (by rcases d with rfl | rfl <;> decide);refine ⟨⟨a.1.1,λ_=>⟨c,C,rfl,zAl u j.size,λz D y=>by rw [<-x z D y];exact zDd i⟩⟩,λ_ E e=>?_⟩;injection e with e;subst e;exact ⟨t,m,o,s,i.trans g,d⟩
def PyB.b (f:PyB gx N0 aA T2 r v w) (a:Vis w w'):PyB gx N0 aA T2 r v w':=by
 obtain ⟨b,d,c,e,g,i,j,k⟩:=f;exact ⟨b,d,c,e,g,i.b a,a.made j dC dC,a.d k dC dC⟩
section
variable {own1 : Nat -> Nat} {A : Option Addr} {n : Nat}
structure FrT (w w':World) (B:Nat) (own:Nat->Nat) (gs:Nat):Prop where
 size:w.heap.size<=w'.heap.size
 H:∀b,b < B->w'.heap[b]?=w.heap[b]?
 same:∀b cs t fr,Ap own gs b->t=32∨t=5->w.heap[b]?=some (.cells cs t fr)->w'.heap[b]?=w.heap[b]?
def FrT.refl (w B own gs):FrT w w B own gs:=⟨zAs _,λ_ _=>rfl,λ_ _ _ _ _ _ _=>rfl⟩
def FrT.trans {w1} (b:FrT w w1 B own gs) (g:FrT w1 w' B own gs):FrT w w' B own gs:=⟨zAk b.size g.size,λa j=>(g.H a j).trans (b.H a j),λa c i d e ht f=>(g.same a c i d e ht ((b.same a c i d e ht f).trans f)).trans (b.same a c i d e ht f)⟩
def FrT.j (b:Below w.heap.size w w') (hB:B<=w.heap.size):FrT w w' B own gs:=⟨b.size,λa f=>b.block a oM,λa d g e _ _ c=>b.block a (zAh.1 c).1⟩
def FrT.C (a:VB B w w') (hB:B<=w.heap.size):FrT w w' B own gs:=⟨a.1.size,λb d=>(VB.e a hB).block b d,λb f i g _ ht e=>a.1.same e (λc=>c) (by rcases ht with rfl | rfl <;> decide) (by rcases ht with rfl | rfl <;> decide)⟩
def FrT.O {g} (d:Keep (λb=>b=gx) w w') (hB:B<=w.heap.size) (k:B<=gx) (a:Bk w gx 35 g):FrT w w' B own gs:=⟨d.size,λb a=>d.block b oM (λc=>by have e:b=gx:=c;omega),λb i l j _ ht f=>d.block b (zAh.1 f).1 (λc=>by
 have e:b=gx:=c;subst e;unfold Bk at a;rw [f] at a;injection a with a;injection a with _ a;rcases ht with rfl | rfl <;> revert a <;> decide)⟩
def FrT.cj (b:LFS B gs w w' own own') (hB:B<=w.heap.size):FrT w w' B own gs:=⟨b.size,λc e=>(b.below hB).block c e,λc g j i d ht f=>b.b.same f (λa=>a.elim (λa=>a d.x) d.ne) (by rcases ht with rfl | rfl <;> decide) (by rcases ht with rfl | rfl <;> decide)⟩
def ArgZ.a7 {d} (b:ArgZ w B own gs A n d) (g:FrT w w' B own gs):ArgZ w' B own gs A n d:=by
 rcases zBa n with c | c;subst c;have:d= []:=(by simpa using b.1.1);subst this;exact ⟨Rd.nil _ _ _ _,λo=>absurd o oM⟩;obtain ⟨a,t,rfl,l,m⟩:=b.1.2 c;have k:w'.heap[a]?=w.heap[a]?:=(by rcases b.2 c _ rfl with q |⟨q,i,j,e⟩;exact g.H a q;exact g.same a _ _ _ q (.inr rfl) e);refine ⟨⟨b.1.1,λ_=>⟨a,t,rfl,zAl l g.size,λs u p=>by rw [<-m s u p];exact zDd k⟩⟩,λ_ x f=>?_⟩;injection f with f;subst f;rcases b.2 c _ rfl with q |⟨q,i,j,e⟩;exact .inl q;exact .inr ⟨q,i,j,k.trans e⟩
def StpZ.a7 (g:StpZ w B own gs A n L) (c:FrT w w' B own gs):StpZ w' B own gs A n L:=by
 refine ⟨g.1,λk=>?_⟩;obtain ⟨a,C,rfl,t,hB,u⟩:=g.2 k;have b:w'.heap[a]?=w.heap[a]?:=by rcases hB with q |⟨q,e,f,d⟩;exact c.H a q;exact c.same a _ _ _ q (.inl rfl) d
 refine ⟨a,C,rfl,zAl t c.size,?_,λy D x=>?_⟩;rcases hB with q |⟨q,e,f,d⟩;exact .inl q;exact .inr ⟨q,e,f,b.trans d⟩
 .obtain ⟨i,z,j,l,m,o,p,s⟩:=u y D x;exact ⟨i,z,j,(zDd b).trans l,(zDd b).trans m,(zDd b).trans o,(zDd b).trans p,s.a7 c⟩
end
section
variable {A3 : Option Addr}
def QdA (B gs gx N0 aA rate:Nat) (A3:Option Addr) (q:Nat) (L:List Sp) (T2:List UInt8) (r:Told) (v:Value) (w:World):Prop:=∃own1 e,StAt w B own1 gs e aA rate T2/\Ap own1 gs gx/\StpZ w B own1 gs A3 q L/\∃a c b d,v=.agg (iD r a c b d)/\Made w N0 5 1 a r.data.length c (r.data.map bv)/\Made w N0 3 1 b r.places.length d (r.places.map nv)
def QdA.below (i:QdA B gs gx N0 aA rate A3 q L T2 r v w) (a:Below w.heap.size w w'):QdA B gs gx N0 aA rate A3 q L T2 r v w':=by
 obtain ⟨own1,g,b,j,o,c,e,d,f,k,l,m⟩:=i;exact ⟨own1,g,b.G (kb a),j,o.a7 (FrT.j a b.size),c,e,d,f,k,l.below a,m.below a⟩
def QdA.keep (o:QdA B gs gx N0 aA rate A3 q L T2 r v w) (c:Keep (λa=>a=gx) w w') (z:gx < N0) (x:B<=gx) {l} (y:Bk w gx 35 l):QdA B gs gx N0 aA rate A3 q L T2 r v w':=by
 obtain ⟨own1,m,e,f,u,g,j,i,k,p,s,t⟩:=o;exact ⟨own1,m,e.m c (λa b=>by have d:a=gx:=b;rw [d];exact f),f,u.a7 (FrT.O c e.size x y),g,j,i,k,p,s.o c (λa b=>by have d:a=gx:=b;omega),t.o c (λa b=>by have d:a=gx:=b;omega)⟩
def QdA.b (i:QdA B gs gx N0 aA rate A3 q L T2 r v w) (a:VB B w w'):QdA B gs gx N0 aA rate A3 q L T2 r v w':=by
 obtain ⟨own1,g,b,j,o,c,e,d,f,k,l,m⟩:=i;exact ⟨own1,g,b.G a.1,j,o.a7 (FrT.C a b.size),c,e,d,f,k,a.1.made l dC dC,a.1.made m dC dC⟩
def QdS (B gs gx:Nat) (own:Nat->Nat) (aA rate:Nat) (T2:List UInt8) (a:Nat) (w w':World):Prop:=(a=5->DoS B gs own aA rate T2 w w')/\(a=11->Keep (λb=>b=gx) w w'/\MdX w' gx aA T2)/\(a=20->VB B w w')/\(a≠5->a≠11->a≠20->Below w.heap.size w w')
def QdC (a:World) (B gs gx N0 aA:Nat) (own:Nat->Nat) (w:World):Prop:=Below B a w/\B<=w.heap.size/\N0<=w.heap.size/\FrT a w B own gs/\∃b,MdX w gx aA b
def QdU (B gs gl gx:Nat) (own:Nat->Nat) (aA rate:Nat) (T:List UInt8) (a:Nat) (w:World):Prop:=(a=5->StAt w B own gs gl aA rate T)/\(a=11->MdX w gx aA T)
def QdC.step {o k} (z:QdC o B gs gx N0 aA own w) (l:QdS B gs gx own aA rate T2 k w w') (p:Ap own gs gx) (C:B<=gx):QdC o B gs gx N0 aA own w':=by
 obtain ⟨f,a,g,i,m,c⟩:=z;by_cases s:k=5;obtain ⟨own',F,_,d⟩:=l.1 s;exact ⟨f.trans (d.below a),zAk a d.size,zAk g d.size,i.trans (FrT.cj d a),m,d.d c p.x p.ne dC dC⟩;by_cases t:k=11;obtain ⟨j,D⟩:=l.2.1 t;exact ⟨f.trans (j.e a λx b y=>by have E:x=gx:=y;omega),zAk a j.size,zAk g j.size,i.trans (FrT.O j a C c),T2,D⟩;by_cases u:k=20;have e:=l.2.2.1 u;exact ⟨f.trans (VB.e e a),zAk a e.1.size,zAk g e.1.size,i.trans (FrT.C e a),m,e.1.d c dC dC⟩;have b:=l.2.2.2 s t u;exact ⟨f.trans (b.mono a),zAk a b.size,zAk g b.size,i.trans (FrT.j b a),m,kf c b (Bk.lt c)⟩
def QdC.drew {a} (d:QdC a B gs gx N0 aA own w):QdC a B gs gx N0 aA own w.drew:=by
 obtain ⟨e,b,f,g,c,i⟩:=d;exact ⟨e.trans (dD w B),b,f,g.trans (FrT.j (dD w _) b),c,i⟩
def QdU.drew {c} (b:QdU B gs gl gx own aA rate T c w):QdU B gs gl gx own aA rate T c w.drew:=⟨λa=>(b.1 a).G (kb (dD _ _)),λa=>b.2 a⟩
def QdU.step {b c} (d:QdU B gs gl gx own aA rate T b w) (f:QdS B gs gx own aA rate T2 c w w') (g:Ap own gs gx) (j:b≠c) (k:b=5->c≠11) (l:b=5->c≠20) (m:b=11->c≠20):QdU B gs gl gx own aA rate T b w':=by
 refine ⟨λa=>?_,λa=>?_⟩;exact (d.1 a).G (kb (f.2.2.2 (λe=>j (a.trans e.symm)) (k a) (l a)));by_cases i:c=5;obtain ⟨own',s,_,p⟩:=f.1 i;exact p.d (d.2 a) g.x g.ne dC dC;have o:=f.2.2.2 i (λe=>j (a.trans e.symm)) (m a);exact kf (d.2 a) o (Bk.lt (d.2 a))
def dS {b} (c:b≠5) (d:b≠11) (e:b≠20) (f:Below w.heap.size w w'):QdS B gs gx own aA rate T2 b w w':=⟨λa=>absurd a c,λa=>absurd a d,λa=>absurd a e,λ_ _ _=>f⟩
def aKP (j:Ap own gs gx) (s:gx < w.heap.size) (f:N0<=w.heap.size) (t:StpZ w B own gs A3 q L) (p:StDone w B own gs aA rate T2 r (.returned v) w'):QdA B gs gx N0 aA rate A3 q L T2 r v w'/\QdS B gs gx own aA rate T2 5 w w':=by
 obtain ⟨g,k,i,l,own',d,c,e,b,m,o,_,_⟩:=p;injection c with c;exact ⟨⟨own',d,e,j.step b s,t.step b,g,k,i,l,c,m.mono f,o.mono f⟩,λ_=>⟨own',d,e,b⟩,λa=>absurd a dC,λa=>absurd a dC,λa=>absurd rfl a⟩
def aKO (d:N0<=w.heap.size) (l:fP gx (aA:Int) T2 r w w' (.returned v)):PyB gx N0 aA T2 r v w'/\QdS B gs gx own aA rate T2 11 w w':=by
 obtain ⟨e,g,f,i,b,m,j,k,c⟩:=l;injection b with b;exact ⟨⟨e,g,f,i,b,j.mono d,k.mono d,c⟩,λa=>absurd a dC,λ_=>⟨m,c⟩,λa=>absurd a dC,λ_ a=>absurd rfl a⟩
def QdG (B gs gx aA rate:Nat) (T2:List UInt8) (a:Bool) (v:Value) (w:World):Prop:=v=.bool a/\MdX w gx aA T2/\∃own1 b,StAt w B own1 gs b aA rate T2
def QdG.b {a} (d:QdG B gs gx aA rate T2 a v w) (b:Vis w w'):QdG B gs gx aA rate T2 a v w':=by
 obtain ⟨e,f,own1,c,g⟩:=d;exact ⟨e,b.d f dC dC,own1,c,g.G b⟩
end
end
def aIH {w B gl gk C rate e own O u T k b} (f:TxM w B own gl gk C rate O (aG u) T e k b) (X:u.length=e) (D:Smp b 0) (H:sX (Smp b) rate e) (M:1<=rate):SampOk b k rate e/\b.length<=1000:=by
 have J:k.length=e+1:=by have E:=f.aa.len;rw [aO] at E;omega
 obtain ⟨S,V,vl,a0,a1,Z,j,x,Y,U,_,F,W,G,g⟩:=f.live.ad;have I:∀a,a < b.length->∃d,b[a]?=some d/\aF b a=d.1/\aS b a=d.2/\d∈b:=λa c=>by refine ⟨b[a],zAa c,?_,?_,zBj c⟩;unfold aF;rw [zAb,zAa c];rfl;unfold aS;rw [zAb,zAa c];rfl
 refine ⟨⟨λa c=>?_,λa c=>?_,D,H,J,M⟩,by rw [g,zBc];exact G⟩;obtain ⟨d,_,y,z,N⟩:=I a c;have t:=f.right d N;obtain ⟨P,Q⟩:=zAc.1 t;rw [y,z];refine ⟨by omega,?_,t⟩;have:=f.aa.lt (p:=d.2) (by rw [<-Q];exact zBj P);rw [aO] at this;omega
 .have o:a < j.length:=(by rw [g,zBc] at c;omega);have s:a+1 < j.length:=(by rw [g,zBc] at c;omega);have K:=zAr.1 F a (a+1) o s oM;have l:∀i (m:i < j.length),aF b i=aF x (j[i]):=λi m=>by unfold aF;rw [zAb,g,zAf,zAa m];rfl
  rw [l a o,l (a+1) s];exact K
def aFJ {gl:Nat} {j b k} {d R i:Nat} {c w} (f:Bk w gl 89 #[j,d,b,k]) (e:PermR w d R i c):
 Calls prog 72 #[gl] w (nN w c):=by
 have o:=f.cell 1;have a:=vM e;unfold nN at a⊢;obtain ⟨n,g⟩:=eqx c.length;rw [g] at a⊢;clear e g f;go_enter func72,ntmps72;go_wp2_with fail;refine a.mono ?_;rintro p s ⟨A,b,rfl,l,m⟩;clear a;go_wp2_with fail;go_ret;exact ⟨A,b,rfl,l,m⟩
def xH (w:World) (rate c:Nat) (f:List Nat) (e:Ending) (w':World):Prop:=∃A d b a,e=.returned (.slice A a d)/\b.length=a/\a<=1000/\SampOk b f rate c/\Rd w' w'.heap.size 2 A a (bU b)/\Below w.heap.size w w'
def TxM.cq {w B gl gk g rate a own t e T d b} (c:TxM w B own gl gk g rate t (aG e) T a d b) (l:e.length=a) (i:Smp b 0) (o:sX (Smp b) rate a) (s:1<=rate):
 Calls prog 72 #[gl] w (xH w rate a d):=by
 obtain ⟨j,k⟩:=aIH c l i o s;refine (aFJ c.live.a c.live.ad).mono ?_;rintro u w' ⟨A,f,rfl,p,m⟩;exact ⟨A,f,b,_,rfl,rfl,k,j,p.rd,m⟩
def aFo {B own gs gl aA rate g f k w} (c:StAt w B own gs gl aA rate f) (i:f.length=g) (o:IsSuf (aG f) k):
 Calls prog 34 #[gs] w (xH w rate g k):=by
 obtain ⟨gk,x,y,T,z,j,a,d,b⟩:=c.live;obtain rfl:=a.aa.unique o;rw [i] at a b;have t:=c.a.cell 0;have e:=a.cq i d b.1 c.r1;unfold xH at e⊢;clear a d b c;go_enter func34,ntmps34;go_wp2_with fail;refine e.mono ?_;rintro u C ⟨A,l,j,s,rfl,a,d,b,m,p⟩;clear e;go_wp2_with fail;go_ret;exact ⟨A,l,j,s,rfl,a,d,b,m,p⟩
def aDI {B own gs gl aA rate f i w} (b:StAt w B own gs gl aA rate i) (g:i.length=f):
 Calls prog 36 #[gs] w (tS w f):=by
 obtain ⟨gk,y,z,T,D,C,a,c,d⟩:=b.live;rw [g] at a;have u:=b.a.cell 0;have k:=b.n127;have e:=a.ch g oM;unfold tS at e⊢;clear a c d b k;go_enter func36,ntmps36;go_wp2_with fail;refine e.mono ?_;rintro x E ⟨A,j,s,t,rfl,a,c,d,l,m,o,p⟩;clear e;go_wp2_with fail;go_ret;exact ⟨A,j,s,t,rfl,a,c,d,l,m,o,p⟩
def aBo {B own gs gl aA rate c w} (b:StAt w B own gs gl aA rate c):
 Calls prog 13 #[gs,.string ⟨c.toArray⟩] w λa w'=>a=.returned (.bool true)/\VB B w w':=by
 obtain ⟨d,g⟩:=eqx c.length;have aP:d<=895:=by rw [<-g];exact b.n127
 have b6:(⟨c.toArray⟩:ByteArray).size=d:=(rW c).trans g;have aR:=b.r1;have ax:=b.r2;have hB:=b.size;obtain ⟨f,e,aN⟩:=hqq3 b g hB;clear b g hB;go_enter func13,ntmps13;go_wp2_with fail;refine (qQ w e.out oM).mono ?_;rintro a w1 ⟨aJ,am,aW,rfl,ac,a4,Y⟩;have af:VB B w w1:=kc Y;obtain ⟨m,D,o⟩:=hqq3 ac a4 af;clear ac a4 af Y;go_wp2_with fail;refine (aA5 (d+1) (f.out.G o.out.1) m.out (by rw [e.out])).mono ?_;rintro a aF ⟨aK,an,rfl,a5,z⟩;have ae:=o.out.trans z;obtain ⟨E,I,Q⟩:=hqq3 (z.1.made D.out dC dC) a5 ae;clear a5 z ae D o;go_wp2_with fail;refine (qR aF e.out oM).mono ?_;rintro a aY ⟨A3,ao,ag,rfl,ad,a6,i⟩;obtain rfl:=ad.unique m.out;obtain ⟨F,J,K,S⟩:=hqq4 ((kb i).made E.out dC dC) ((kb i).made I.out dC dC) a6 (Q.out.trans (kc i));clear ad a6 i E I Q;go_wp2_with fail;refine (xT an ao J.out.rd K.out.rd oM oM).mono ?_;rintro a aZ ⟨rfl,x⟩;have a2:decide (aH (aG c) ag=aH (aG c) ag)=true:=zBz rfl;rw [a2];obtain ⟨G,p⟩:=hqq2 ((kb x).made F.out dC dC) (S.out.trans (kc x));clear a2 x F J K S;go_wp2_with fail;refine (aFo (f.out.G p.out.1) e.out m.out).mono ?_;rintro a b1 ⟨aL,ap,aV,aT,rfl,a7,au,a8,a9,y⟩;obtain ⟨H,s,N,O,M⟩:=hqq5 ((kb y).made G.out dC dC) (p.out.trans (kc y)) a8 a9 a7;clear a7 a8 a9 y G p;go_wp2_with fail;refine (aA3 (f.out.G s.out.1)).mono ?_;rintro a b2 ⟨rfl,rfl⟩;go_wp2_with fail;refine (aFw ap am O.out H.out.rd nL nL M.out rfl au oM ax N.out).mono ?_;rintro a b3 ⟨rfl,a0⟩;have t:=lhd (s.out.trans (kc a0));clear a0 N O M H s;go_wp2_with fail;refine (aDI (f.out.G t.out.1) e.out).mono ?_;rintro a b4 ⟨aM,W,aB,aU,rfl,_,av,aa,⟨aD,R,X,az⟩,a3,aw,a1⟩;obtain ⟨U,l,aj,C⟩:=hqq4 (t.out.trans (kc a1)) aa X a3;clear aa X a3 a1 t;have aq:IntKind.i64.wrap ((d:Int)+1)=((d+1:Nat):Int):=by rw [wI0];omega
 go_wp2_with fail;refine (aJy W R l.out nL oM aD aj.out az C.out).mono ?_;rintro a b5 ⟨rfl,j⟩;obtain ⟨V,P⟩:=hqq2 (U.out.trans (kc j)) (l.out.below j);have ab:=j.size;clear j U l aq;go_wp2_with fail;refine (aKM W P.out ab av (λaC ay=>by have b:=C.out aC ay;have:=b.len;have:=b.leaves;have:=b.nodes;omega)).mono ?_;rintro a aE ⟨⟨al,ai,ah,rfl⟩,Z⟩;obtain ⟨k,ar⟩:=eqx ((eF aB).nodes);rw [ar] at aw⊢;have ak:=lhd (V.out.trans (kc Z));clear Z V P ab;have aQ:∀u,(Instr.field 79 (.agg #[(al:Int),(ai:Int),(ah:Int),(k:Int)]) 3).run prog u=.ok (.int .i64 k) u:=λu=>by kernel_rfl
 go_wp2_with fail;refine (aGw d aE oM).mono ?_;rintro a aX ⟨⟨aI,rfl,aS⟩,rfl⟩;have aO:decide (k<=aI)=true:=zBz oM;go_wp2_with fail;go_ret;exact ⟨rfl,ak.out⟩
def Good (n:Nat) (aA a b c:Int) (d:Nat):Prop:=(a=1/\dK n b 0=true/\¬aA -(n:Int) < d)∨a=2/\dK n b c=true∨a=5/\dK n b c=true∨a=6∨a=7∨a=8
def xF {B:Nat} {own} {gs gl aA rate:Nat} {t D T2 r} {kind p n:Int} {A} {m:Nat} (b:Nat) {w} (a:doM t (aA:Int) kind p n D=(T2,r)) (C:Good t.length (aA:Int) kind p n D.length) (f:StAt w B own gs gl aA rate t) (l:ArgZ w B own gs A m D) (x:m<=1000000) (E:TabW w) (s:0 < B) (u:T2.length<=895):
 Calls prog 7 #[gs,bK kind p n A m b] w (StDone w B own gs aA rate T2 r):=by
 have z:D.length=m:=by simpa using l.1.1
 have y:∀c,LFS B gs w c own own->TabW c:=λc e=>E.below (e.below f.size) s;unfold doM at a;rcases C with ⟨rfl,d,F⟩|⟨rfl,d⟩|⟨rfl,d⟩| rfl | rfl | rfl;rw [zBx rfl,zBw (by rw [d];decide),zBw F] at a;cases a;obtain ⟨g,i,rfl,J,o⟩:=dT d;rw [zBr] at u⊢;have G:=uP (t:=t) D (k:=g) oM;exact fO _ _ n A m b 0 f (.inl rfl) λc j e=>(qL _ g n b false j rfl (l.step e) oM (zBy oM) (λ_=>by rw [<-z,<-G];exact u)).mono λI w' H=>H.2 rfl;rw [zBw dC,zBx rfl,zBw (by rw [d];decide)] at a;cases a;obtain ⟨g,i,rfl,rfl,o⟩:=dT d;rw [zBr,zBr];exact fO _ _ _ A m b 0 f (.inr (.inl rfl)) λc j e=>sR A m b j (y c e) s rfl o;rw [zBw dC,zBw dC,zBx rfl,zBw (by rw [d];decide)] at a;cases a;obtain ⟨g,i,rfl,rfl,o⟩:=dT d;rw [zBr,zBr];exact oT _ _ A m b f ((t.drop g).take i) 0 i (by rw [zAj,zAw];omega) λc j e=>aCD g i j.tp (y c e) s o;rw [zBw dC,zBw dC,zBw dC,zBw dC,zBw dC,zBx rfl] at a;cases a;exact sT p n b f l x;rw [zBw dC,zBw dC,zBw dC,zBw dC,zBw dC,zBw dC,zBx rfl] at a;cases a;exact qM p n b f l x;rw [zBw dC,zBw dC,zBw dC,zBw dC,zBw dC,zBw dC,zBw dC,zBx rfl] at a;cases a;exact aA7 p n A m b f
def xK:List Sp:= [⟨1,0,0, [98,97,110,97,110,97]⟩,⟨6,0,0, [97,110,97]⟩,⟨7,0,0, [97,110,97]⟩,⟨5,1,3, []⟩]
def aOe:txM ((20:Nat):Int) xK 4= [98,97,110,97,110,97]:=by rfl
def aOi:anM ((20:Nat):Int) xK 1=⟨0,2, [], []⟩:=by rfl
def aOh:anM ((20:Nat):Int) xK 2=⟨0,2, [], [1,3]⟩:=by rfl
def aOg:anM ((20:Nat):Int) xK 3=⟨0,0, [97,110,97], []⟩:=by rfl
def aIX {c b} (a:xK[c]?=some b):Good (txM ((20:Nat):Int) xK c).length ((20:Nat):Int) b.kind b.p b.k b.D.length:=by
 rcases c with _ | _ | _ | _ | c;cases a;exact .inl ⟨rfl,by decide,by decide⟩;cases a;exact .inr (.inr (.inr (.inl rfl)));cases a;exact .inr (.inr (.inr (.inr (.inl rfl))));cases a;exact .inr (.inr (.inl ⟨rfl,by decide⟩))
 .simp [xK] at a
def aDs {w B gs a n own b f c} (e:w.heap[a]?=some (.cells b 5 f)) (i:Ap own gs a) (g:b.toList=c.map bv) (j:c.length=n):ArgZ w B own gs (some ⟨a,0,none⟩) n c:=
 ⟨⟨by simp [j],λ_=>⟨a,0,rfl,(zAh.1 e).1,λl o k=>by rw [zBi,cell_of_row w a l b _ f e,<-zDz,g];exact k⟩⟩,λ_ m d=>by
  injection d with d;subst d;exact .inr ⟨i,b,_,e⟩⟩
def nC {w w'} {a:Nat} {c:Obj} (b:w.heap[a]?=some c) (d:Below w.heap.size w w'):w'.heap[a]?=some c:=(d.block a (zAh.1 b).1).trans b
def kC {w} (a4:TabW w):Calls prog 5 #[] w λx w'=>x=.returned (.bool true)/\Below w.heap.size w w':=by
 have ay:=a4.pos;obtain ⟨B,hB⟩:=eqx w.heap.size;have a3:0 < B:=oM;have Z:=lhd hB;clear ay hB;go_enter func5,ntmps5;go_wp2_with fail;refine (nM 20 4 w oM oM oM).mono ?_;rintro x w1 ⟨gs,gl,own,rfl,g,s⟩;rw [Z.out] at g s;obtain ⟨c,i⟩:=eqx (w1.alloc (.cells #[.int .u8 98,.int .u8 97,.int .u8 110,.int .u8 97,.int .u8 110,.int .u8 97] 5 (6,7)));obtain ⟨d,j⟩:=eqx (c.alloc (.cells #[.int .u8 97,.int .u8 110,.int .u8 97] 5 (3,4)));obtain ⟨wc,k⟩:=eqx (d.alloc (.cells #[.int .u8 97,.int .u8 110,.int .u8 97] 5 (3,4)));obtain ⟨o,O⟩:∃o:Array Value,#[.int .i64 1,.int .i64 0,.int .i64 0,.slice (some w1.heap.size) 6 6,.int .i64 6,.int .i64 0,.int .i64 0,.slice (some c.heap.size) 3 3,.int .i64 7,.int .i64 0,.int .i64 0,.slice (some d.heap.size) 3 3,.int .i64 5,.int .i64 1,.int .i64 3,.slice none 0 0]=o:=⟨_,rfl⟩;obtain ⟨t,e⟩:=eqx (wc.alloc (.cells o 32));have K:Below w1.heap.size w1 c:=by rw [<-i];exact bR.alloc nL _
 have u:Below c.heap.size c d:=by rw [<-j];exact bR.alloc nL _
 have l:Below d.heap.size d wc:=by rw [<-k];exact bR.alloc nL _
 have m:Below wc.heap.size wc t:=by rw [<-e];exact bR.alloc nL _
 have ad:c.heap[w1.heap.size]?=some (.cells #[.int .u8 98,.int .u8 97,.int .u8 110,.int .u8 97,.int .u8 110,.int .u8 97] 5 (6,7)):=by rw [<-i];exact heap_alloc_new w1 _
 have af:d.heap[c.heap.size]?=some (.cells #[.int .u8 97,.int .u8 110,.int .u8 97] 5 (3,4)):=by rw [<-j];exact heap_alloc_new c _
 have ah:wc.heap[d.heap.size]?=some (.cells #[.int .u8 97,.int .u8 110,.int .u8 97] 5 (3,4)):=by rw [<-k];exact heap_alloc_new d _
 have a:Bk t wc.heap.size 32 o:=by rw [<-e];exact kd _ _ _
 have f:=K.size;have y:=u.size;have a6:=l.size;have M:=(K.trans (u.mono f)).trans ((l.mono (zAk f y)).trans (m.mono (zAk f (zAk y a6))));have ae:=nC (nC (nC ad u) l) m;have ag:=nC (nC af l) m;have ai:=nC ah m;have aD:=g.a.lt;have p:∀J,w1.heap.size<=J->Ap own gs J:=λJ s=>⟨g.fresh s,by omega⟩;have C:=g.G (kb M);have N:=s.trans (M.mono g.size);have ac:StpZ t B own gs (some ⟨wc.heap.size,0,none⟩) 4 xK:=⟨rfl,λ_=>⟨_,0,rfl,a.lt,.inr ⟨p _ oM,o,_,a⟩,λE Y b=>by
  subst O;rcases E with _ | _ | _ | _ | E;injection b with b;subst b;exact ⟨_,_,_,(a.cell 0).trans rfl,(a.cell 1).trans rfl,(a.cell 2).trans rfl,(a.cell 3).trans rfl,aDs ae (p _ nL) rfl rfl⟩;injection b with b;subst b;exact ⟨_,_,_,(a.cell 4).trans rfl,(a.cell 5).trans rfl,(a.cell 6).trans rfl,(a.cell 7).trans rfl,aDs ag (p _ f) rfl rfl⟩;injection b with b;subst b;exact ⟨_,_,_,(a.cell 8).trans rfl,(a.cell 9).trans rfl,(a.cell 10).trans rfl,(a.cell 11).trans rfl,aDs ai (p _ (zAk f y)) rfl rfl⟩;injection b with b;subst b;exact ⟨_,_,_,(a.cell 12).trans rfl,(a.cell 13).trans rfl,(a.cell 14).trans rfl,(a.cell 15).trans rfl,Rd.nil _ _ _ _,λax=>absurd ax oM⟩
  .cases b⟩⟩
 have aa:Calls prog 14 #[gs,.slice (some wc.heap.size) 4 4] t (aFn t B own gs 20 4 (txM ((20:Nat):Int) xK) (anM ((20:Nat):Int) xK) 4):=
  aJF (anM ((20:Nat):Int) xK) 4 C ac oM λE Y aZ aQ aH aL aG au S aF aE a5=>by have aU:Y.D.length=aG:=(by simpa using a5.1.1);have aW:Y.D.length<=6:=(by have:=zAd S;simp only [xK,zDf,zDh,or_false] at this;rcases this with rfl | rfl | rfl | rfl <;> decide);have aC:Below B w aH:=N.trans (aE.below C.size);exact xF au (aO9 S) (aIX S) aF a5 oM ((show TabW w from a4).below aC a3) a3 (zj (aHG 20 xK (E+1)))
 obtain ⟨G,H,I⟩:=hqq3 i j k;have a1:=e;have a0:=lhd O;clear ac p aD ad af ah a ae ag ai K u l m M f y a6 g s i j k e O;have aj:(convert 22 22 (.slice (some w1.heap.size) 6 6)).run prog (w1.alloc (.cells #[.int .u8 98,.int .u8 97,.int .u8 110,.int .u8 97,.int .u8 110,.int .u8 97] 5))=.ok (.slice (some w1.heap.size) 6 6) (w1.alloc (.cells #[.int .u8 98,.int .u8 97,.int .u8 110,.int .u8 97,.int .u8 110,.int .u8 97] 5 (6,7))):=kU w1 #[.int .u8 98,.int .u8 97,.int .u8 110,.int .u8 97,.int .u8 110,.int .u8 97] 6 6;rw [G.out] at aj;have ak:(convert 22 22 (.slice (some c.heap.size) 3 3)).run prog (c.alloc (.cells #[.int .u8 97,.int .u8 110,.int .u8 97] 5))=.ok (.slice (some c.heap.size) 3 3) (c.alloc (.cells #[.int .u8 97,.int .u8 110,.int .u8 97] 5 (3,4))):=kU c #[.int .u8 97,.int .u8 110,.int .u8 97] 3 3;rw [H.out] at ak;have al:(convert 22 22 (.slice (some d.heap.size) 3 3)).run prog (d.alloc (.cells #[.int .u8 97,.int .u8 110,.int .u8 97] 5))=.ok (.slice (some d.heap.size) 3 3) (d.alloc (.cells #[.int .u8 97,.int .u8 110,.int .u8 97] 5 (3,4))):=kU d #[.int .u8 97,.int .u8 110,.int .u8 97] 3 3;rw [I.out] at al;have i:=G.out;have j:=H.out;have k:=I.out;have e:=a1;rw [<-a0.out] at e;go_wp2_with fail;clear aj ak al i j k e;refine aa.mono ?_;rintro x F ⟨b2,b5,aY,aP,rfl,a8,az,a9,U,a7⟩;rw [aOe] at U;have V:=AnsAt.da a8 a9;obtain ⟨aK,aN,rfl,aV,aR⟩:=V.slice;obtain ⟨aO,aX,aw,aT,z⟩:=V.get oM;subst aw;obtain ⟨_,_,_,_,_,an,_⟩:=z 1 oM;obtain ⟨_,_,aJ,aM,_,_,_,ao,_,W⟩:=z 2 oM;obtain ⟨A3,ar,_,_,_,_,ap,_,X,_⟩:=z 3 oM;rw [aOi] at an;rw [aOh] at ao W;rw [aOg] at ap X;obtain ⟨a2,am,av,aS,Q⟩:=W.rd.2 dC;subst av;have aI:F.cell? ⟨a2,am+0,none⟩=some (.int .i64 1):=Q 0 (.int .i64 1) rfl;have b4:F.cell? ⟨a2,am+1,none⟩=some (.int .i64 3):=Q 1 (.int .i64 3) rfl;rw [zBq] at aI;have b1:(convert 22 9 (.slice A3 3 ar)).run prog F=.ok (.string ⟨#[97,110,97]⟩) F:=(nX (P:=prog) 22 9 5 underlying22 underlying5 underlying9 X.rd).trans rfl;have aB:=N.trans (a7.below C.size);simp only [zCg,zDM,zBi,Nat.reduceAdd,Nat.reduceMul] at an ao ap;clear a8 az a9 a7 V z W X Q C N aa G H I a1 a0;go_wp2_with fail;refine (aBo U).mono ?_;rintro x b3 ⟨rfl,ab⟩;have aq:=(aB.trans (VB.e ab U.size));clear ab;go_wp2_with fail;go_ret;exact ⟨rfl,by rw [Z.out];exact aq⟩
def aMf {gx AD nd} (b) {B kind p k aA T D T2 r} (a:doM T aA kind p k D=(T2,r)) (t:kind=2/\dK T.length p k=true∨kind=5/\dK T.length p k=true∨kind=6∨kind=7∨kind=8) {w} (e:Bk w gx 35 #[.string ⟨T.toArray⟩,(aA:Int)]) (l:Rd w B 1 AD nd (D.map bv)) (hB:B<=w.heap.size) (m:0 < nd->∀j,AD=some j->j.block≠gx) (d:T.length<=549755813888) (c:nd<=549755813888) (i:-9223372036854775808<=p/\p<=9223372036854775807) (g:-9223372036854775808<=k/\k<=9223372036854775807) (n:0<=aA/\aA<=2147483648):
 Calls prog 9 #[gx,bK kind p k AD nd b] w λs u=>fP gx aA T2 r w u s:=by
 unfold doM at a;rcases t with ⟨rfl,f⟩|⟨rfl,f⟩| rfl | rfl | rfl;rw [zBw dC,zBx rfl,zBw (by rw [f];decide)] at a;cases a;obtain ⟨j,q,rfl,rfl,o⟩:=dT f;exact aBc b rfl e l hB m d c i g n o;rw [zBw dC,zBw dC,zBx rfl,zBw (by rw [f];decide)] at a;cases a;obtain ⟨j,q,rfl,rfl,o⟩:=dT f;exact yJ b rfl e l hB m d c i g n o;simp only [show ((6:Int)=1)=False by simp,show ((6:Int)=2)=False by simp,show ((6:Int)=5)=False by simp,show ((6:Int)=3)=False by simp,show ((6:Int)=4)=False by simp,if_false,if_true] at a;cases a;exact aCC b rfl e l hB m d c i g n;simp only [show ((7:Int)=1)=False by simp,show ((7:Int)=2)=False by simp,show ((7:Int)=5)=False by simp,show ((7:Int)=3)=False by simp,show ((7:Int)=4)=False by simp,show ((7:Int)=6)=False by simp,if_false,if_true] at a;cases a;exact aBb b rfl e l hB m d c i g n;simp only [show ((8:Int)=1)=False by simp,show ((8:Int)=2)=False by simp,show ((8:Int)=5)=False by simp,show ((8:Int)=3)=False by simp,show ((8:Int)=4)=False by simp,show ((8:Int)=6)=False by simp,show ((8:Int)=7)=False by simp,if_false,if_true] at a;cases a;exact tQ (k':=0) b rfl e d c i g (.inr (.inr ⟨rfl,rfl,rfl⟩))
def aHn {B:Nat} {own} {gs gl aA rate:Nat} {t D T2} {kind p n:Int} {A} {m:Nat} (a:Nat) {code num:Int} {data places} (c d:Nat) {w} (i:doM t (aA:Int) kind p n D=(T2,⟨code,num,data,places⟩)) (l:Good t.length (aA:Int) kind p n D.length) (e:data.length=c) (f:places.length=d) (b:StAt w B own gs gl aA rate t) (k:ArgZ w B own gs A m D) (q:m<=1000000) (o:TabW w) (j:0 < B) (g:T2.length<=895):
 Calls prog 7 #[gs,.agg #[(kind:Int),(p:Int),(n:Int),.slice A m a]] w (sE w B own gs aA rate T2 code num data places c d):=
 (xF a i l b k q o j g).mono λr s=>StDone.v b.a.lt e f
def aH1:∀(e:List Nat) (c b:Nat),e[b]?=some c->e.idxOf c<=b
 | [],c,b,d=>by simp at d
 | a::e,c,b,d=>by
  rw [List.idxOf_cons];by_cases f:(a==c)=true
  .rw [f];simp
  .have g:(a==c)=false:=(by simpa using f);rw [g];rcases b with _ | b
   .simp at d;subst d;simp at f
   have:=aH1 e c b (by simpa using d);simp;omega
def aMy {d a} (e:IsSuf (aG d) a) {p} (k:p<=d.length):a[a.idxOf p]?=some p/\∀b,b < a.idxOf p->a[b]?≠some p:=by
 have f:p∈a:=e.mem (by rw [aO];omega);refine ⟨zAc.2 ⟨zDk.2 f,zFl _⟩,λb i c=>?_⟩;obtain ⟨j,g⟩:=zAc.1 c;have:=aH1 a p b c;omega
def aFz {t} {n rate:Nat} (aA:Nat) {rs} (J) (ac:t.length=n) (bM:n<=895) (bd:1<=rate) (bN:rate<=64) (bK:n<=aA) (bL:aA<=2147483648) (aM:IsSuf (aG t) rs):
 Calls prog 11 #[.string ⟨t.toArray⟩,(rate:Int),(aA:Int)] J λd br=>d=.returned (.tuple #[.string ⟨(fC (aH (aG t) rs) rs aA rate n).toArray⟩,o0])/\Below J.heap.size J br:=by
 have ci:(⟨t.toArray⟩:ByteArray).size=n:=(cW t).trans ac;have b5:=zn (aA < n);have b6:=zn ((aA:Int) < n);have b7:=zn ((aA:Int) > 2147483648);have b8:=zn (2147483648 < aA);have ar:IntKind.u64.wrap aA=(aA:Int):=zv
 have a2:IntKind.u64.wrap rate=(rate:Int):=zv
 have b4:IntKind.u64.wrap n=(n:Int):=zv
 obtain ⟨b1,a3⟩:=eqx (bW aA);obtain ⟨b2,a4⟩:=eqx (bW rate);obtain ⟨m,a5⟩:=eqx (bW n);have bn:b1.length<=11:=by rw [<-a3];exact bX aA
 have bo:b2.length<=11:=by rw [<-a4];exact bX rate
 have bp:m.length<=11:=by rw [<-a5];exact bX n
 obtain ⟨al,am,an,v,Hn⟩:=hqq5 a3 a4 a5 aM ac;have bz:(⟨b1.toArray⟩:ByteArray).size=b1.length:=cW b1;have bA:(⟨b2.toArray⟩:ByteArray).size=b2.length:=cW b2;have bB:(⟨m.toArray⟩:ByteArray).size=m.length:=cW m;have ao:(⟨#[83,75,82,49]⟩:ByteArray)++⟨b1.toArray⟩=⟨(gA++b1).toArray⟩:=cZ gA b1;obtain ⟨o,P⟩:=eqx (gA++b1);obtain ⟨q,Q⟩:=eqx (o++b2);obtain ⟨r,R⟩:=eqx (q++m);have ap:=cZ o b2;have aq:=cZ q m;rw [P] at ao;rw [Q] at ap;rw [R] at aq;have bw:o.length<=15:=by rw [<-P,zAi];have:gA.length=4:=rfl;omega
 have bx:q.length<=26:=by rw [<-Q,zAi];omega
 have ch:r.length<=37:=by rw [<-R,zAi];omega
 have bC:(⟨o.toArray⟩:ByteArray).size=o.length:=cW o;have bD:(⟨q.toArray⟩:ByteArray).size=q.length:=cW q;have aY:=lhd (show r=gA++b1++b2++m by rw [P,Q,R]);clear a3 a4 a5 aM ac P Q R;go_enter func11,ntmps11;go_wp2_with fail;refine (gM _ al oM).mono ?_;rintro d w1 ⟨rfl,D⟩;go_wp2_with fail;refine (gM _ am oM).mono ?_;rintro d cg ⟨rfl,ag⟩;go_wp2_with fail;refine (gM _ an oM).mono ?_;rintro d bs ⟨rfl,aP⟩;have Z:=((D.trans (ag.mono D.size)).trans (aP.mono (D.trans (ag.mono D.size)).size));clear D ag aP;go_wp2_with fail;clear ao ap aq bz bA bB bC bD bn bo bp bw bx ar a2 b4 b5 b6 b7 b8;refine (qQ bs Hn oM).mono ?_;rintro d bt ⟨bE,bh,bF,rfl,C,z,aw⟩;obtain rfl:=C.unique v;have a0:=(Z.trans (aw.mono Z.size));clear aw C Z;go_wp2_with fail;refine (qR bt Hn oM).mono ?_;rintro d aR ⟨aW,bj,b,rfl,C,aK,a6⟩;obtain rfl:=C.unique v;have z:=(z.below a6);have a1:=(a0.trans (a6.mono a0.size));have aJ:=dR (rs:=b) (eX t);have au:(aH (aG t) b).length=n+1:=by rw [bY,v.len,aO,Hn.out]
 obtain ⟨j,O⟩:=eqx (gS (aH (aG t) b));have bb:=oK (aH (aG t) b);rw [O,au] at bb;have ae:=aAz aJ;rw [O] at ae;have aL:Rd aR aR.heap.size 1 aW (n+1) ((jC (aH (aG t) b)).map iv):=by have:=aK.rd;unfold jC;rw [zCh];exact this
 have aX:=lhd O;have B:=aBy bj ae aL nL oM;clear aK a6 C a0 aJ au ae aL O;go_wp2_with fail;refine B.mono ?_;clear B;rintro d aS ⟨rfl,g⟩;have z:=(z.below g);have b3:=(a1.trans (g.mono a1.size));clear g a1;go_wp2_with fail;go_loopw [12,13] (λbq ak wr=>∃e,e<=n / rate+1/\bq=.string ⟨(uC b rate e).toArray⟩/\ak=.int .i64 (e*rate:Nat)/\Below J.heap.size J wr/\Below aS.heap.size aS wr) (λ_ ak _=>n+65 -(intOf ak).toNat)
 case atStart=>exact ⟨0,zAp _,rfl,by simp,b3,kg _ _⟩
 case round=>
  obtain ⟨e,bI,rfl,rfl,c,g⟩:=hrel;obtain ⟨f,A⟩:=eqx (e*rate);have aI:(uC b rate e).length<=12000:=by have q:=pM b rate e;have r:n / rate<=n:=zDZ _ _;omega
  by_cases ad:f<=n
  .obtain ⟨aa,ab⟩:=aMy v (p:=f) (by rw [Hn.out];exact ad);have bc:b.idxOf f<=1000:=(by have:=List.idxOf_le_length (a:=f) (l:=b);rw [v.len,aO,Hn.out] at this;omega);have u:=qZ b rate e;have bJ:=aK8 bd (show e*rate<=n by omega);have B:(e+1)*rate=f+rate:=(by rw [Nat.add_mul,A,Nat.one_mul]);rw [A] at u⊢;obtain ⟨Y,aQ⟩:=eqx (b.idxOf f);rw [aQ] at aa ab bc u;obtain ⟨w,a7⟩:=eqx (bW Y);have bG:w.length<=11:=(by rw [<-a7];exact bX Y);rw [a7] at u;obtain ⟨N,aD⟩:=eqx (uC b rate e);rw [aD] at u aI⊢;have av:=aJI bh ((z.below g).rd) aa ab oM;have bH:=cZ N w;have ar:IntKind.u64.wrap Y=(Y:Int):=zv;have a2:IntKind.i64.wrap (f+rate)=((f+rate:Nat):Int):=zu;have cj:(⟨N.toArray⟩:ByteArray).size=N.length:=cW N;have ck:(⟨w.toArray⟩:ByteArray).size=w.length:=cW w;have b9:=zy ((f:Int)<=n);have ba:=zBz ad;obtain ⟨aZ,b0⟩:=hqq2 u B;clear aa ab u aQ aD B A;go_wp2_with fail;refine av.mono ?_;rintro d aT ⟨rfl,rfl⟩;clear av;go_wp2_with fail;refine (gM _ a7 oM).mono ?_;rintro d aU ⟨rfl,s⟩;have c:=(c.trans (s.mono c.size));have g:=(g.trans (s.mono g.size));clear s;go_wp2_with fail;go_roundw
   case rel=>exact ⟨e+1,by omega,by rw [aZ.out],by rw [b0.out];first | rfl | exact congrArg (Value.int .i64) a2,c,g⟩
   case measure=>exact zr
  .have aF:e=n / rate+1:=(by have o:n / rate < e:=(zEP oM).2 oM;omega);have af:uC b rate e=yO b rate n:=(by rw [aF];rfl);obtain ⟨k,aE⟩:=eqx (uC b rate e);rw [aE] at af aI⊢;have b9:=zn ((f:Int)<=n);have ba:=zBy ad;rw [A];obtain ⟨x,a8⟩:=eqx (bW j.length);obtain ⟨y,a9⟩:=eqx (bW k.length);obtain ⟨K,ah⟩:=eqx (nD (lP j));obtain ⟨L,ai⟩:=eqx (nD (lP k));obtain ⟨E,S⟩:=eqx (r++x);obtain ⟨F,T⟩:=eqx (E++j);obtain ⟨G,U⟩:=eqx (F++K);obtain ⟨H,V⟩:=eqx (G++y);obtain ⟨I,W⟩:=eqx (H++k);obtain ⟨i,X⟩:=eqx (I++L);obtain ⟨M,aj⟩:=eqx (nD (lP i));have aC:i=qI (aH (aG t) b) b aA rate n:=(by rw [aAH,aX.out,<-af];unfold eE;rw [a8,a9,ah,ai,al.out,am.out,an.out,<-X,<-W,<-V,<-U,<-T,<-S,aY.out];simp only [zCo]);have aN:i++M=fC (aH (aG t) b) b aA rate n:=(by unfold fC;rw [<-aC,aj]);have be:=cZ r x;have bf:=cZ E j;have bg:=cZ F K;have bi:=cZ G y;have bk:=cZ H k;have bl:=cZ I L;have bm:=cZ i M;rw [S] at be;rw [T] at bf;rw [U] at bg;rw [V] at bi;rw [W] at bk;rw [X] at bl;rw [aN] at bm;have ce:x.length<=11:=(by rw [<-a8];exact bX _);have cf:y.length<=11:=(by rw [<-a9];exact bX _);have cb:K.length=4:=(by rw [<-ah];exact lM _);have cc:L.length=4:=(by rw [<-ai];exact lM _);have cd:M.length=4:=(by rw [<-aj];exact lM _);have bO:E.length<=48:=(by rw [<-S,zAi];omega);have bP:F.length<=40000:=(by rw [<-T,zAi];omega);have bQ:G.length<=40004:=(by rw [<-U,zAi];omega);have bR:H.length<=40015:=(by rw [<-V,zAi];omega);have bS:I.length<=52015:=(by rw [<-W,zAi];omega);have bT:i.length<=52019:=(by rw [<-X,zAi];omega);have c4:(⟨r.toArray⟩:ByteArray).size=r.length:=cW _;have c5:(⟨E.toArray⟩:ByteArray).size=E.length:=cW _;have c6:(⟨F.toArray⟩:ByteArray).size=F.length:=cW _;have c7:(⟨G.toArray⟩:ByteArray).size=G.length:=cW _;have c8:(⟨H.toArray⟩:ByteArray).size=H.length:=cW _;have c9:(⟨I.toArray⟩:ByteArray).size=I.length:=cW _;have ca:(⟨i.toArray⟩:ByteArray).size=i.length:=cW _;have bU:(⟨x.toArray⟩:ByteArray).size=x.length:=cW _;have bV:(⟨j.toArray⟩:ByteArray).size=j.length:=cW _;have bZ:(⟨K.toArray⟩:ByteArray).size=K.length:=cW _;have c0:(⟨y.toArray⟩:ByteArray).size=y.length:=cW _;have c1:(⟨k.toArray⟩:ByteArray).size=k.length:=cW _;have c2:(⟨L.toArray⟩:ByteArray).size=L.length:=cW _;have c3:(⟨M.toArray⟩:ByteArray).size=M.length:=cW _;clear A aF aE S T U V W X aN aC af g;go_wp2_with fail;refine (gM _ a8 oM).mono ?_;rintro d aT ⟨rfl,ax⟩;have c:=(c.trans (ax.mono c.size));clear ax;go_wp2_with fail;refine (pP j j.length rfl oM aT).mono ?_;rintro d aU ⟨rfl,rfl⟩;go_wp2_with fail;refine (pQ _ ah (vA _)).mono ?_;rintro d aU ⟨rfl,s⟩;have c:=(c.trans (s.mono c.size));clear s;go_wp2_with fail;refine (gM _ a9 oM).mono ?_;rintro d bu ⟨rfl,ay⟩;have c:=(c.trans (ay.mono c.size));clear ay;go_wp2_with fail;refine (pP k k.length rfl oM bu).mono ?_;rintro d aV ⟨rfl,rfl⟩;go_wp2_with fail;refine (pQ _ ai (vA _)).mono ?_;rintro d aV ⟨rfl,az⟩;have c:=(c.trans (az.mono c.size));clear az;go_wp2_with fail;refine (pP i i.length rfl oM aV).mono ?_;rintro d bv ⟨rfl,rfl⟩;go_wp2_with fail;refine (pQ _ aj (vA _)).mono ?_;rintro d bv ⟨rfl,aB⟩;have c:=(c.trans (aB.mono c.size));clear aB;go_wp2_with fail;go_ret2;exact ⟨rfl,c⟩
def StAt.mono {f B B' c b aA d own e} (a:StAt f B own c b aA d e) (hB:B'<=B):StAt f B' own c b aA d e:=
 ⟨a.a,zAk hB a.low,a.x,a.live.low hB,a.n127,a.len,a.max,a.r1,a.r2⟩
def Two.new {c t k d l n p e m o q i j r s} (f:StAt c k i d l n p r) (g:StAt t c.heap.size j e m o q s):Two i d j e:=λb a=>by
 have w:b < c.heap.size:=by rcases a with a | a;exact (f.live.q b a).2;rw [a];exact f.a.lt
 refine ⟨zFi λv=>?_,λu=>?_⟩;have:=(g.live.q b oM).1;omega;have:=g.low;omega
def aNh {T} (a) (aA:Nat) {p:Nat} (d:Int) (f:p<=T.length) (e:T.length+a.length<=aA):doM T (aA:Int) 1 (p:Int) d a=(T.take p++(a++T.drop p),⟨0,0, [], []⟩):=by
 have b:dK T.length (p:Int) 0=true:=zBz oM;have c:¬(aA:Int) -T.length < a.length:=oM;unfold doM;rw [zBx rfl,b,zBw dC,zBw c,zBr]
def Rd.one {l:World} {g b e a:Nat} {f:Option Addr} {c:List UInt8} {d:UInt8} (i:Rd l g 1 f b (c.map bv)) (j:c[a]?=some d) (q:b<=e):Rd l g 1 (dH f e a 1) 1 (([d]:List UInt8).map bv):=by
 have r:c.length=b:=by simpa using i.1
 have s:a < b:=by rw [<-r];exact (zAc.1 j).1
 have n:=(i.cut (k:=a) (cap:=e) oM q).cut_hi (k:=1) oM;have m:((c.map bv).drop (a*1)).take (1*1)=([d]:List UInt8).map bv:=by rw [zBl,zBl,<-zEb,<-zDw];congr 1;obtain ⟨o,p⟩:=zAc.1 j;rw [zAx o,p];rfl
 rwa [m] at n
def nQ (n a) (d:0 < a):∃k:Nat,(IntKind.u64.wrap n).tmod a=(k:Int)/\(k:Int) < a:=by
 have c:0<=IntKind.u64.wrap n:=zv
 refine ⟨((IntKind.u64.wrap n).tmod a).toNat,?_,?_⟩;have:=Int.tmod_nonneg a c;omega;have f:=Int.tmod_nonneg a c;have i:=Int.tmod_lt_of_pos (IntKind.u64.wrap n) d;omega
section
variable {P : Program} (t e : TypeId) (sz : Nat) (ht : P.underlying t = some (.slice e)) (hs : ∀ w, (sizeOf e).run P w = .ok sz w)
include ht hs
end
section
variable {P : Program} {ops : Array Oper} {Q : Exit -> Act -> World -> Prop} {md : Region.Mode}
def xN (n j i d c) (s:(ops.toList.take n).filterMap (·.dst)=j) (C:n<=ops.size) (z:kL md ops d.tmps.size=true) (H:((List.range ops.size).all λk=>decide (k < n)||(List.range n).all λa=>upB md ops ops.size k a)=true) (D:∀I∈i,Stb I) (E:∀m q,m < n->ops[m]?=some q->dN P ops Q md (Grow c) (λ_=>Grow) (λ_ _=>True) (Vs i) d m q) (u:∀(p:Operand->Value) w f,Grow c w->(∀a o,a < n->((ops[a]?).bind (·.dst))=some o->Vs i a (p (.tmp o)) w)->wpAny P md ops Q (ops.size - n+f) (bT n ops.size) (dJ p j d) w):
 wpAny P md ops Q ops.size (Array.replicate ops.size false) d c:=
 iG n j (Grow c) (λ_=>Grow) (λ_ _=>True) (Vs i) d c s C z H bR (λ_=>trivial) (λ_ _ _ _ l k=>l.trans k) (λ_ _ _ _ _ _ _ _ _ _=>trivial) (λa _ v w w' _ _ _ l _ k=>eY D a v w w' l k) E u
end
section
variable {w w' : World} {g : Nat} {t : TypeId} {cs : Array Value} (hx : Bk w g t cs) (k : Keep (λb => b = g) w w')
include hx k
end
end Go.Proofs.YtlghmcogeipojaaGreatDoor
