/- Lemmas of the walk. Conditions: each its own. -/
import Derived.Test.YtnmapianpjamnaaGreatDoorPc12
import Derived.Test.YtnmapianpjamnaaGreatDoorProg
set_option linter.all false
set_option maxRecDepth 100000
set_option maxHeartbeats 2000000
open Go.Proofs.Tryz
namespace Go.Proofs.YtnmapianpjamnaaGreatDoor
section
open Go.RowKit
def Tr.mkO (a:List Bool):Option Tr:=if a.length=0 then none else some (Tr.mk a)
def Tr.mkO_bits (a:List Bool):bK (Tr.mkO a)=a:=by
 unfold Tr.mkO;split
 · rename_i b
   exact (zBk b).symm
 exact Tr.mk_bits oM
def xE {w:World} {F:Nat->Prop} {c b:Nat} {e:Int} (i:F c) (g:F b) (ht:Bk w c 205 #[b,.slice none 0 0,.int .i64 (-1),.int .i64 e]) (f:Bk w b 228 #[.slice none 0 0,.slice none 0 0,.int .i64 268435456]):TX w F c b none 0 0 [] [] [] (-1) e:=
 ⟨i,⟨ht,World.ownsRow_nil _ _ _ _⟩,(fun d a=>by cases a),⟨g,none,0,none,0,f,World.ownsRow_nil _ _ _ _,World.ownsRow_nil _ _ _ _,(fun d a=>by cases a),fun d a=>by cases a⟩,rfl,fun k j=>by omega⟩
def aCe (r:Option Addr) (b t B:Nat) (d:List Bool) (w:World) (z:Rd w B 1 r b (d.map Value.bool)) (hB:B<=w.heap.size) (Z:b<=1100) (ap:b<=t):
 Calls prog 94 #[.slice r b t] w fun j w'=>∃S,j=.returned (.pointer (some ⟨S,0,none⟩))/\TreeEo w' (fun c=>w.heap.size<=c) S (Tr.mkO d)/\Below w.heap.size w w':=by
 have W:d.length=b:=by simpa using z.1
 obtain ⟨af,f⟩:=hqq2 z W;clear z W;go_enter func94,ntmps94;go_wp2_with fail;refine (nQ _).mono ?_;rintro j w1 ⟨rfl,V,x⟩;obtain ⟨E,G⟩:=hqq2 V x;have k:=x.size;clear V x;rcases zBa b with u | u
 · subst u;have aq:Tr.mkO d=none:=(by unfold Tr.mkO;rw [zBx f.out]);go_wp2_with fail;go_ret;have al:=G.out.alloc k (.cells #[w.heap.size,.slice none 0 0,.int .i64 (-1),.int .i64 0] 205);rw [aq];exact ⟨_,rfl,⟨_,_,_,_,_,_,_,_,_,xE k nL (Bk.new _ _ _) (E.out.alloc _),by omega,.inl ⟨rfl,rfl,List.Perm.refl _⟩⟩,al⟩
 · obtain ⟨a,y⟩:=eqx (Tr.lvs b);have X:(b+127)/ 128=a:=y;have aF:((b:Int)+128 - 1)/ 128=(a:Int):=oM;have aG:(0:Int) < (a:Int):=oM;have n:=G.out.alloc k (.cells #[w.heap.size,.slice none 0 0,.int .i64 (-1),.int .i64 0] 205);have C:=Bk.new w1 205 #[w.heap.size,.slice none 0 0,.int .i64 (-1),.int .i64 0];have v:=E.out.alloc (.cells #[w.heap.size,.slice none 0 0,.int .i64 (-1),.int .i64 0] 205);have A:=(af.out.mono hB).below n;obtain ⟨D,ar⟩:=eqx (w1.alloc (.cells #[w.heap.size,.slice none 0 0,.int .i64 (-1),.int .i64 0] 205));rw [ar] at C v A n;have U:TS D (fun c=>w.heap.size<=c) w1.heap.size 0 [] [] (-1) 0:=⟨_,_,_,_,xE k nL C v⟩;obtain ⟨ac,ag,H,ad,s⟩:=hqq5 U A n y X;clear C v A n y X U;go_wp2_with fail;have o:0 < a:=(by have:=s.out;omega);have aC:a<=9:=(by have:=s.out;omega);have m:=H.out.size;have ao:∀l,l < a->(Tr.cut d a l (l+1)).length<=128:=(by intro l aD;rw [Tr.cut_len o oM,f.out];exact Tr.leaf_len o (by have:=s.out;omega));refine (aCn (fun c=>w.heap.size<=c) w1.heap.size (-1) 0 r b t w.heap.size a d ap oM o oM f.out (fun c i aB=>by omega) ao (a - 1) 0 a 0 [] [] D o oM nL ac.out (fun c i=>zAk m i) oM (List.Perm.refl _) ag.out m).mono ?_;rintro j a2 ⟨e,au,aw,rfl,⟨ak,a3,ai,av,g⟩,I,J,K,L,M,N,aj,O⟩;have ax:=g.rd.c2;have aA:=g.rd.blk.frozen 2;have aE:=g.rd.blk.lt;have a4:=lhd (g.setrt (e.num:Int));have a5:=lhd (J.keep (w':=a2.setCell ⟨w1.heap.size,2,none⟩ (.int .i64 (e.num:Int))) (fun _ _ _ ah=>ah) fun R _ ay i=>i.far (p:=⟨w1.heap.size,2,none⟩) (Bk.ne i g.rd.blk dC) _);have Y:Below w.heap.size D a2:=O.keep.to_below m (fun c i j=>by have az:w.heap.size<=c:=j;omega);have aa:=lhd ((H.out.trans Y).setCell (p:=⟨w1.heap.size,2,none⟩) k (.int .i64 (e.num:Int)));have q:e.er=Tr.mk d:=(by rw [I];unfold Tr.mk;rw [f.out,ad.out]);have a1:0 < d.length:=(by rw [f.out];exact u);have a0:e.er.Ok:=(by rw [q];exact Tr.mk_ok a1 (by rw [f.out];exact Z));have an:e.len<=1100:=(by show e.er.bits.length<=1100;rw [q,Tr.mk_bits a1,f.out];exact Z);have T:Tr.mkO d=some e.er:=(by unfold Tr.mkO;rw [zBw oM,q]);obtain ⟨ab,a8,a9,a6,ae,a7⟩:=hqq6 T M N K a0 L;clear g I J K M N aj O Y q a0 T L;go_wp2_with fail;go_ret;exact ⟨_,rfl,ab.out ▸⟨ak,a3,ai,au,aw,av, [],_,0,a4.out,by have:=a7.out;omega,.inr ⟨e,rfl,a5.out,rfl,ae.out,an,a6.out,a8.out,fun R am=>zAk m (a9.out R am)⟩⟩,aa.out⟩
def yT (d:Option Addr) (a e B:Nat) (b:List Bool) (w:World) (m:Rd w B 1 d a (b.map Value.bool)) (hB:B<=w.heap.size) (k:a<=1100) (l:a<=e):
 Calls prog 94 #[.slice d a e] w fun f w'=>∃c,f=.returned (.pointer (some ⟨c,0,none⟩))/\TreeB w' w.heap.size c b/\Below w.heap.size w w':=by
 refine (aCe d a e B b w m hB k l).mono ?_;rintro f w' ⟨c,g,i,j⟩;exact ⟨c,g,⟨_,Tr.mkO_bits b,i⟩,j⟩
def shT (a:Tr):Shp:=⟨(a.bits.length:Int),(a.ht:Int),(a.lv:Int),2*(a.lv:Int) - 1⟩
def shE:Option Tr->List Shp
 | none=> []
 | some a=> [shT a]
def shL (a:Nat->Option Tr):Nat->List Shp
 | 0=> []
 | p+1=>shL a p++shE (a p)
def shA (a:Nat->Nat->Option Tr):Nat->List Shp
 | 0=> []
 | lv+1=>shA a lv++shL (a lv) (2 ^ lv)
def aDD (d:List Nat) (c:Nat->Nat->Option Tr):Prop:=∀lv a,lv < 9->a < 2 ^ lv->bK (c lv a)=aF d lv a/\∀b,c lv a=some b->b.Ok/\b.bits.length<=1100
def aDT {e:Nat->Option Tr} {b:Nat} {g:Shp} (a:g∈shL e b):∃d c,d < b/\e d=some c/\g=shT c:=by
 induction b with
 | zero=>cases a
 | succ b j=>
   unfold shL at a;rcases zCm.1 a with a | a;obtain ⟨d,c,k,i⟩:=j a;exact ⟨d,c,by omega,i⟩
   · cases f:e b with
     | none=>
       rw [f] at a;cases a
     | some c=>
       rw [f] at a;exact ⟨b,c,by omega,f,List.mem_singleton.1 a⟩
def aA6 {f:Nat->Nat->Option Tr} {d:Nat} {i:Shp} (a:i∈shA f d):∃lv b c,lv < d/\b < 2 ^ lv/\f lv b=some c/\i=shT c:=by
 induction d with
 | zero=>cases a
 | succ d j=>
   unfold shA at a;rcases zCm.1 a with a | a;obtain ⟨lv,b,c,g,e⟩:=j a;exact ⟨lv,b,c,by omega,e⟩;obtain ⟨b,c,g,e⟩:=aDT a;exact ⟨d,b,c,by omega,g,e⟩
def uN (b:Nat->Option Tr) (a:Nat):(shL b a).length<=a:=by
 induction a with
 | zero=>exact zAs _
 | succ a c=>
   unfold shL;rw [zAi];cases b a with
   | none=>show _+0<=_;omega
   | some d=>show _+1<=_;omega
def aA7 (b:Nat->Nat->Option Tr):(shA b 9).length<=511:=by
 have a:=fun lv=>uN (b lv) (2 ^ lv);have:=a 0;have:=a 1;have:=a 2;have:=a 3;have:=a 4;have:=a 5;have:=a 6;have:=a 7;have:=a 8;simp only [shA,zAi,List.length_nil];omega
def aB7 (b:List Nat) (c:∀a∈b,a < 257):(aF b 0 0).length=b.length:=by
 rw [eW,List.countP_eq_length];intro a d;have e:=c a d;have:aP a 0=0:=by unfold aP;omega
 rw [this];rfl
def aCF {e:List Nat} {a:Nat->Nat->Option Tr} (o:aDD e a) (n:∀q∈e,q < 257) (k:e≠ []):∃d b,shA a 9=shT d::b/\d.bits.length=e.length:=by
 have j:=aB7 e n;have f:=(o 0 0 dC dC).1;cases g:a 0 0 with
 | none=>
   rw [g] at f;rw [<-f] at j;exact absurd (List.length_eq_zero_iff.1 j.symm) k
 | some d=>
   rw [g] at f;have l:shA a 1= [shT d]:=(by show []++([]++shE (a 0 0))=_;rw [g];rfl);have m:∀c,∃b,shA a (1+c)=shT d::b:=fun c=>by
    induction c with
    | zero=>exact ⟨[],l⟩
    | succ c p=>
      obtain ⟨b,i⟩:=p;refine ⟨b++shL (a (1+c)) (2 ^(1+c)),?_⟩;show shA a (1+c)++_=_;rw [i];rfl
   obtain ⟨b,i⟩:=m 8;exact ⟨d,b,i,by rw [<-j,<-f];rfl⟩
def aAd (a:List Shp):∀b:Shp,(a.foldl Shp.add b).nodes=b.nodes+(bZ a).nodes:=by
 have c:∀(a:List Shp) (b:Shp),(a.foldl Shp.add b).nodes=b.nodes+(a.map Shp.nodes).sum:=by
  intro a
  induction a with
  | nil=>intro b;simp
  | cons e a d=>
    intro b;rw [List.foldl_cons,d];unfold Shp.add;simp only [List.map_cons,List.sum_cons];omega
 intro b;rw [c a b];unfold bZ;rw [c a Shp.zero];show _=_+((0:Int)+_);omega
def iF (a b:List Shp):(bZ (a++b)).nodes=(bZ a).nodes+(bZ b).nodes:=by
 show ((a++b).foldl Shp.add Shp.zero).nodes=_;rw [List.foldl_append,aAd];rfl
def Tr.Ok.nodes {a:Tr} (b:a.Ok):16*(2*a.lv)<=a.bits.length+32:=by
 cases a with
 | lf c=>simp only [Tr.lv];omega
 | nd d e=>have:=Tr.full_lv b.2;omega
def tF {b:List Nat} {d:Nat->Nat->Option Tr} (i:aDD b d) {lv:Nat} (p:lv < 9):∀a,a<=2 ^ lv->16*(bZ (shL (d lv) a)).nodes<=((b.countP fun c=>decide (aP c lv < a):Nat):Int)+16*(a:Int)
 | 0,_=>by show 16*(0:Int)<=_;omega
 | a+1,hp=>by
   have j:=tF i p a oM;obtain ⟨m,n⟩:=i lv a p oM;have o:(b.countP fun c=>decide (aP c lv < a+1))=(b.countP fun c=>decide (aP c lv < a))+(b.countP fun c=>aP c lv==a):=by
    clear m n j i
    induction b with
    | nil=>rfl
    | cons e b j=>
      simp only [zBn,j];by_cases l:aP e lv < a;have f:¬aP e lv=a:=oM;have g:aP e lv < a+1:=oM;simp [l,f,g];omega
      · by_cases f:aP e lv=a;simp [f];omega
        · have g:¬aP e lv < a+1:=oM;simp [l,f,g]
   rw [<-eW,<-m] at o;have q:(bZ (shL (d lv) (a+1))).nodes=(bZ (shL (d lv) a)).nodes+(bZ (shE (d lv a))).nodes:=iF _ _;rw [q,o];cases ht:d lv a with
   | none=>
     show 16*(_+(0:Int))<=_;omega
   | some k=>
     have r:=(n k ht).1.nodes;show 16*(_+((0:Int)+(2*(k.lv:Int) - 1)))<=(((_+k.bits.length:Nat)):Int)+_;omega
def tG {b:List Nat} {c:Nat->Nat->Option Tr} (n:aDD b c):16*(bZ (shA c 9)).nodes<=9*(b.length:Int)+8176:=by
 have p:∀a,a<=9->16*(bZ (shA c a)).nodes<=(a:Int)*(b.length:Int)+16*((2 ^ a - 1:Nat):Int):=fun a=>by
  induction a with
  | zero=>
    intro _;show 16*(0:Int)<=_;omega
  | succ a o=>
    intro q;have e:=o oM;have f:=tF n (show a < 9 by omega) (2 ^ a) nL;have g:(b.countP fun d=>decide (aP d a < 2 ^ a))<=b.length:=zBh;have i:(bZ (shA c (a+1))).nodes=(bZ (shA c a)).nodes+(bZ (shL (c a) (2 ^ a))).nodes:=iF _ _;rw [i];have k:(2:Nat)^(a+1)=2*2 ^ a:=(by rw [Nat.pow_succ];omega);have l:=Nat.two_pow_pos a;have m:((a+1:Nat):Int)*(b.length:Int)=(a:Int)*(b.length:Int)+(b.length:Int):=(by rw [Int.natCast_add,Int.add_mul];simp);rw [m];generalize (a:Int)*(b.length:Int)=z at e⊢;rw [k];generalize (2:Nat)^ a=u at e f g l⊢;generalize (b.countP fun d=>decide (aP d a < u))=v at f g;omega
 have:=p 9 oM;have j:(2:Nat)^ 9=512:=dC;rw [j] at this;omega
def uL (a b:List Shp):bJ (a++b)=bJ a++bJ b:=by simp [bJ]
def ix9 (a:Nat->Value) (lv:Nat) (b:lv < 9) (w:World):(Instr.index 133 (.agg #[a 0,a 1,a 2,a 3,a 4,a 5,a 6,a 7,a 8]) (.int .i64 (lv:Int))).run prog w=.ok (a lv) w:=by
 rcases lv with _ | _ | _ | _ | _ | _ | _ | _ | _ | lv
 all_goals first |(exfalso;omega)| kernel_rfl
def jF (B b:Nat) (e:List Nat) (f a:Nat) (w:World) (aC:WaveAt w B b e) (s:a < 257) (af:f<=e.length) (G:∀n∈e,n < 257) (aG:e.length<=1000):
 Calls prog 219 #[b,(f:Int),(a:Int)] w fun p w'=>p=.returned (.int .i64 (((e.take f).count a:Nat):Int))/\VB B w w':=by
 have ab:=iP e f a af G s;have ac:=tW e f a;obtain ⟨ad,g,aj,l,ah⟩:=aC;have t:=l.set 10 (.int .i64 0);rw [bN] at t;have S:=VB.set_wave l ad 0;obtain ⟨v,M⟩:=eqx e.length;rw [M] at l t af aG;have bp:max (f:Int) 0=(f:Int):=oM;have bq:min (f:Int) (v:Int)=(f:Int):=oM;have aB:=l.frozen 10;have aS:w.cell? ⟨b,10,none⟩=some (.int .i64 aj):=(l.cell 10).trans (aT g v aj).2.2.2.2.2.2.2.2.2.2;have bl:=l.lt;obtain ⟨aW,H⟩:=eqx (w.setCell ⟨b,10,none⟩ (.int .i64 0));rw [H] at t S;obtain ⟨C,Z,au,al,am,aU,aV,an⟩:=hqq8 t S ah ab ac G M H;clear l ah t S ab ac G M H;go_enter func219,ntmps219;go_wp2_with fail;rw [an.out];refine (eP a _ s).mono ?_;rintro p w1 ⟨rfl,I⟩;have j:=C.out.below I C.out.lt;have ai:=Z.out.below I;obtain ⟨a1,a2,a3,a4,a5,a6,a7,a8,a9,aa,ay⟩:=aT g (v:Int) 0;have b1:w1.cell? b=some (g 0):=(j.cell 0).trans a1;have b2:w1.cell? ⟨b,1,none⟩=some (g 1):=(j.cell 1).trans a2;have b3:w1.cell? ⟨b,2,none⟩=some (g 2):=(j.cell 2).trans a3;have b4:w1.cell? ⟨b,3,none⟩=some (g 3):=(j.cell 3).trans a4;have b5:w1.cell? ⟨b,4,none⟩=some (g 4):=(j.cell 4).trans a5;have b6:w1.cell? ⟨b,5,none⟩=some (g 5):=(j.cell 5).trans a6;have b7:w1.cell? ⟨b,6,none⟩=some (g 6):=(j.cell 6).trans a7;have b8:w1.cell? ⟨b,7,none⟩=some (g 7):=(j.cell 7).trans a8;have b9:w1.cell? ⟨b,8,none⟩=some (g 8):=(j.cell 8).trans a9;have ba:w1.cell? ⟨b,9,none⟩=some (.int .i64 (v:Int)):=(j.cell 9).trans aa;obtain ⟨ap,D⟩:=hqq2 j ai;clear a1 a2 a3 a4 a5 a6 a7 a8 a9 aa ay j ai I C Z aS aB;go_wp2_with fail;go_loopw [1,28] (fun n W wr=>∃lv:Nat,lv<=9/\W=.int .i64 lv/\n=.int .i64 ((dZ e f a lv:Nat):Int)/\VB B w1 wr) (fun _ W _=>9 -(intOf W).toNat)
 case atStart=>exact ⟨0,by omega,rfl,by rw [al.out],VisK.refl _ _⟩
 case round=>
  obtain ⟨lv,bm,rfl,rfl,R⟩:=hrel;by_cases y:lv < 9
  · have aE:=ix9 g lv y;obtain ⟨A,q,O⟩:=au.out lv y;obtain ⟨u,L⟩:=eqx (2 ^ lv);obtain ⟨c,r⟩:=eqx (aP a lv);have ag:c < u:=(by rw [<-L,<-r];exact iY a lv s oM);rw [L] at q O;obtain ⟨o,a0,ae,bn,bk⟩:=World.ownsRow.form q oM;rw [ae] at aE q;obtain ⟨n,z⟩:=eqx (dZ e f a lv);obtain ⟨X,V⟩:=eqx (dZ e f a (lv+1));obtain ⟨E,K⟩:=eqx (eH a lv);have U:=iQ e f a lv y;have T:=aBs e f a lv;rw [r,z,K,V] at U;rw [r,z] at T;rw [z];have bo:(c:Int) < (u:Int):=oM;obtain ⟨aw,av,aq,Y,ar,ao,ax,x⟩:=hqq8 U T q (O c ag) r K V R;clear q O ae L r z V K U T R;go_wp2_with fail;refine wp_region_any kR ?_;refine cJ [32,33,34,35,36,37,38,39,40,41,42,43,1] (VB B) (Vs [is b,is (.slice (some o) u a0),is (a:Int),is (lv:Int),is (c:Int),is (.pointer (some ⟨o,c*3,none⟩)),is (.agg #[.pointer (some ⟨A c,0,none⟩),(lv:Int),(c:Int)]),is (n:Int),is (a:Int),is (lv:Int),is (.bool E),is (X:Int),is (X:Int)]) _ _ rfl kR vR (fun _ _=>VisK.trans) (eE tA1) ?_ ?_
    · refine aZ ?_;refine pH 0 (.pointer (some b)) ?_;refine pH 8 (.slice (some o) u a0) ?_;refine pH 2 (.int .i64 (a:Int)) ?_;refine pH 7 (.int .i64 (lv:Int)) ?_;refine sC (fun _ k _ _ _ _ d _ _ _ m=>?_) ?_
      · have bc:_=_:=d 2 34 kR rfl;have bd:_=_:=d 3 35 kR rfl;go_simp;refine (hQ a lv k s oM).mono ?_;rintro p ak ⟨rfl,J⟩;rw [ar.out];exact m _ _ (VisK.of_below J) rfl
      refine pW 1 33 4 36 ?_;refine sC (fun _ k i _ _ _ d _ _ _ m=>?_) ?_
      · have be:_=_:=d 5 37 kR rfl;replace i:(VB B) wr k:=bD i;have N:=(D.out.trans (x.out.trans i)).1.own aq.out dC dC;obtain ⟨aM,aN,aO⟩:=dV A lv u c ag;have aX:k.cell? ⟨o,c*3,none⟩=_:=(World.ownsRow.cellAt N (c*3) oM).trans aM;have aY:k.cell? ⟨o,c*3+1,none⟩=_:=(World.ownsRow.cellAt N (c*3+1) oM).trans aN;have b0:k.cell? ⟨o,c*3+2,none⟩=_:=(World.ownsRow.cellAt N (c*3+2) oM).trans aO;go_simp;exact m _ _ vR rfl
      refine pH 1 (.int .i64 (n:Int)) ?_;refine pH 2 (.int .i64 (a:Int)) ?_;refine pH 7 (.int .i64 (lv:Int)) ?_;refine sC (fun _ k _ _ _ _ d _ _ _ m=>?_) ?_
      · have bh:_=_:=d 8 40 kR rfl;have bi:_=_:=d 9 41 kR rfl;go_simp;refine (jH a lv k s y).mono ?_;rintro p ak ⟨rfl,J⟩;rw [ao.out];exact m _ _ (VisK.of_below J) rfl
      refine sC (fun _ k i _ _ _ d _ _ _ m=>?_) ?_
      · have bb:_=_:=d 0 32 kR rfl;have bf:_=_:=d 6 38 kR rfl;have bg:_=_:=d 7 39 kR rfl;have bj:_=_:=d 10 42 kR rfl;replace i:(VB B) wr k:=bD i;go_simp;obtain ⟨aQ,aL⟩:=(x.out.trans i).1.waveC ap.out;have aI:=Y.out.2.vis (D.out.trans (x.out.trans i)).1;refine (lY b (A c) g v aQ lv c (aF e lv c) n E k aL aI av.out).mono ?_;rintro p ak ⟨rfl,aK⟩;rw [aw.out];exact m _ _ (aK.mono fun E l=>by rcases l with rfl | rfl;exact ad;exact Y.out.1) rfl
      refine pV 11 43 ?_;exact aH
    · intro aA aR i d;replace i:(VB B) wr aR:=bD i;have az:aA (.tmp 1)=.int .i64 (X:Int):=d 12 1 rfl;simp only [zqq];rw [az];clear d;have aJ:=x.out.trans i;go_wp2_with fail;go_roundw
      case rel=>exact ⟨lv+1,by omega,by go_num,by rw [ax.out],aJ⟩
      case measure=>simp [intOf];omega
  · have aD:lv=9:=oM;subst aD;rw [am.out];go_wp2_with fail;go_ret;exact ⟨rfl,D.out.trans R⟩
end
section
open Go.RowKit Go
section
variable {P : Program} {ops : Array Oper} {Q : Exit -> Act -> World -> Prop} {md : Region.Mode}
def xB (c:Nat) (t:List Nat) (e:World->Prop) (k:Nat->World->World->Prop) (l:Nat->World->Prop) (f:Nat->Value->World->Prop) (g:Act)
 (o:World) (K:(ops.toList.take c).filterMap (·.dst)=t) (y:c<=ops.size) (O:fM md ops g.tmps.size=true) (W:((List.range ops.size).all fun q=>decide (q < c)||(List.range c).all fun a=>upB md ops ops.size q a)=true) (E:e o) (I:∀a,l a o) (D:∀b w w',b < c->e w->k b w w'->e w')
 (H:∀a b w w',b < c->a≠b->upB md ops ops.size b a=false->l a w->e w->k b w w'->l a w')
 (T:∀a b d w w',b < c->a≠b->qX md ops a b=false->f a d w->e w->k b w w'->f a d w')
 (U:∀b r,b < c->ops[b]?=some r->cE P ops Q md e k l f g b r)
 (L:∀(x:Operand->Value) w u,e w->(∀a m,a < c->((ops[a]?).bind (·.dst))=some m->f a (x (.tmp m)) w)->(∀a,a < c->∃d,f a d w)->wpAny P md ops Q (ops.size - c+u) (bS c ops.size) (cQ x t g) w):
 wpAny P md ops Q ops.size (Array.replicate ops.size false) g o:=by
 refine pP c e k l f g o y O W E I D H (fun a b d w w' i n C _=>T a b d w w' i n C) U fun s w u G V J R z=>?_;have i:=L s.eval w u G (fun a m p j=>by
  cases v:ops[a]? with
  | none=>rw [v] at j;cases j
  | some r=>
    rw [v] at j;obtain ⟨d,i,n⟩:=z a r p v;have:=i m j;change f a (s.tmps.getD m undef) w;rw [this];exact n) (fun a p=>by
  obtain ⟨d,_,n⟩:=z a _ p (zAq (zAl p y));exact ⟨d,n⟩)
 rw [<-kC s g t V J fun X ht=>R X fun q A M S j=>ht ?_] at i;exact i;rw [<-K];refine List.mem_filterMap.2 ⟨A,?_,j⟩;have N:(ops.toList.take c)[q]?=some A:=(by rw [zBs,zBx M,Array.getElem?_toList];exact S);exact zAd N
end
def VFB (B:Nat) (F:Nat->Prop) (w w':World):Prop:=VisF F w w'/\Keep (fun a=>F a∨B<=a) w w'
def fD {B:Nat} {F:Nat->Prop} {w w':World} (a:VFB B F w.drew w'):VFB B F w w':=⟨⟨a.1.os,a.1.tape,a.1.output,a.1.size,a.1.block⟩,⟨a.2.os,a.2.tape,a.2.output,a.2.size,a.2.block⟩⟩
section
variable {B : Nat} {F : Nat -> Prop} {w w1 w' : World}
def VFB.of_vb (a:VB B w w'):VFB B F w w':=⟨VisF.of_vis a.1,a.2.mono fun _ _ b=>.inr b⟩
def VFB.trans (a:VFB B F w w1) (b:VFB B F w1 w'):VFB B F w w':=⟨a.1.trans b.1,a.2.trans b.2⟩
def VFB.put (b:VFB B F w w1) {p:Addr} (c:F p.block∨w.heap.size<=p.block) (a:Value):VFB B F w (w1.setCell p a):=⟨VisF.put b.1 c a,b.2.setCell (c.elim (fun d=>.inl (.inl d)) .inr) a⟩
def VFB.to_vb (c:VFB B F w w') (d:∀a,a < w.heap.size->¬F a):VB B w w':=⟨c.1.to_vis d,c.2.mono fun a e b=>b.elim (fun b=>absurd b (d a e)) id⟩
end
def yR (B:Nat) (F:Nat->Prop) (a b:Nat) (w w':World):Prop:=(b=a->VFB B F w w')/\(b≠a->VB B w w')
def tA {B:Nat} {F:Nat->Prop} {a d:Nat} {w w':World} (b:yR B F a d w w'):VFB B F w w':=by
 by_cases c:d=a;exact b.1 c;exact VFB.of_vb (b.2 c)
def aL {B:Nat} {F:Nat->Prop} {b c:Nat} {w w':World} (a:VB B w w'):yR B F b c w w':=⟨fun _=>VFB.of_vb a,fun _=>a⟩
def aCs {B:Nat} {F:Nat->Prop} {a:Nat} {w w':World} (c:VFB B F w w'):yR B F a a w w':=⟨fun _=>c,fun b=>absurd rfl b⟩
def dT {P:Program} {ops:Array Oper} {Q:Exit->Act->World->Prop} {md:Region.Mode} (B c:Nat) (p:List Nat) (F:Nat->Prop) (b:Nat) (r:List Nat) (n:World->Prop) (m:Value->World->Prop) (l:List (Value->World->Prop)) (i:Act) (e:World)
 (E:(ops.toList.take c).filterMap (·.dst)=p) (I:c<=ops.size) (H:fM md ops i.tmps.size=true) (O:((List.range ops.size).all fun d=>decide (d < c)||(List.range c).all fun a=>upB md ops ops.size d a)=true)
 (L:(r.all fun a=>a==b||upB md ops ops.size b a)=true)
 (K:n e) (J:∀w w',n w->VFB B F e w->VB B w w'->n w') (D:aCg (VB B) m) (M:∀S∈l,aCg (VFB B F) S)
 (N:∀g y,g < c->ops[g]?=some y->cE P ops Q md (VFB B F e) (yR B F b) (fun a w=>r.contains a=true->n w) (VsJ b m l) i g y)
 (G:∀(t:Operand->Value) w f,VFB B F e w->(∀a s,a < c->((ops[a]?).bind (·.dst))=some s->VsJ b m l a (t (.tmp s)) w)->(∀a,a < c->∃o,VsJ b m l a o w)->wpAny P md ops Q (ops.size - c+f) (bS c ops.size) (cQ t p i) w):
 wpAny P md ops Q ops.size (Array.replicate ops.size false) i e:=by
 refine xB c p (VFB B F e) (yR B F b) (fun a w=>r.contains a=true->n w) (VsJ b m l) i e E I H O (VFB.of_vb vR) (fun _ _=>K) (fun g w w' _ A d=>A.trans (tA d)) (fun a g w w' _ q R j C d v=>?_) (fun a g o w w' _ q _ k _ d=>?_) N G;by_cases x:g=b;exfalso;subst x;have u:=zBf.1 L a (by simpa using v);simp only [R,Bool.or_false,zCn] at u;exact q u;exact J w w' (j v) C (d.2 x);unfold VsJ at k⊢;by_cases j:a=b;rw [zBx j] at k⊢;exact D o w w' k (d.2 fun z=>q (j.trans z.symm));rw [zBw j] at k⊢;exact eE M a o w w' k (tA d)
end
section
open Go.RowKit
def oK {a b:List Nat} (c:a.Perm b):tcells a=tcells b:=by
 refine lO _ _ (dI a) (fun e d=>?_) ?_
 · rw [cV a d,c.count_eq]
 · rw [fB,c.length_eq]
def zZ (b d:List Nat) (a:Nat) (k:a < 257) (e:b.Perm (a::d)):((tcells b).setIfInBounds a (.int .i64 (((b.count a - 1:Nat)):Int))).setIfInBounds 257 (.int .i64 ((b.length - 1:Nat):Int))=tcells d:=by
 have f:=e.count_eq;have g:=e.length_eq;rw [zCf] at g;apply lO
 · simp [dI]
 · intro i j;rw [zCe oM];by_cases c:a=i
   · subst c;rw [Array.getElem?_setIfInBounds_self_of_lt (by rw [dI];omega),f a];simp
   · rw [zCe c,cV b j,f i,List.count_cons_of_ne c]
 rw [Array.getElem?_setIfInBounds_self_of_lt (by simp [dI]),g];rfl
def wI (b:Nat) (c v:List Nat) (a:Nat) (w:World) (x:c.Perm (a::v)) (f:Bk w b 236 (tcells c)) (o:a < 257) (I:c.length<=1000):
 Calls prog 177 #[b,(a:Int),.int .i64 (-1)] w fun G w'=>G=.returned (.int .i64 0)/\Bk w' b 236 (tcells v)/\Keep (fun g=>g=b) w w':=by
 have t:=lhd f;clear f;have a7:¬((a:Int) < 0):=oM;have a8:((a:Int) < 257):=oM;obtain ⟨d,n⟩:=eqx (c.count a);obtain ⟨i,l⟩:=eqx c.length;have ac:d<=1000:=by rw [<-n];exact zAk zBv I
 rw [l] at I;have ab:1<=d:=by rw [<-n,x.count_eq];simp
 have aa:1<=i:=by rw [<-l,x.length_eq];simp
 have z:=zZ c v a o x;rw [n,l] at z;obtain ⟨J,u,E⟩:=hqq3 z n l;clear z n l;go_enter func177,ntmps177;go_wp2_with fail;refine (eP a _ o).mono ?_;rintro G w1 ⟨rfl,A⟩;have s:=t.out.below A t.out.lt;have T:w1.cell? ⟨b,a,none⟩=some (.int .i64 (d:Int)):=by rw [<-u.out];exact (s.cell a).trans (cV c o)
 have U:w1.cell? ⟨b,257,none⟩=some (.int .i64 (i:Int)):=by rw [<-E.out];exact (s.cell 257).trans (fB c)
 have ad:¬((-1:Int) < -(d:Int)):=oM;have ae:¬((-1:Int) > 2147483648 -(i:Int)):=oM;obtain ⟨K,M⟩:=hqq2 A s;clear A s t;go_wp2_with fail;refine wp_region_any kR ?_;refine bL [33,34,35,36,37,38,39,40,41,42,43] (fun g=>g=b) 11 [5,11] (fun j=>Bk j b 236 (tcells c)) (fun _ j=>Bk j b 236 ((tcells c).setIfInBounds a (.int .i64 ((d - 1:Nat):Int)))) [is b,is (a:Int),is b,is b,is (.pointer (some ⟨b,a,none⟩)),is (d:Int),is (.int .i64 (-1)),is (.int .i64 ((d - 1:Nat):Int)),is b,is b,is (.pointer (some ⟨b,a,none⟩)),cR] _ _ rfl kR kR (M.out) (fun j ag f _ O=>Bk.below f O f.lt) (fun _ _ _ f R=>Bk.below f R f.lt) tA0 ?_ ?_
 · refine aZ ?_;refine pH3 0 (.pointer (some b)) ?_;refine pH3 1 (.int .i64 (a:Int)) ?_;refine pV3 0 33 ?_;refine pV3 2 35 ?_;refine pW3 3 36 1 34 ?_;refine sC3 (fun _ C _ y _ _ _ e _ _ _ k=>?_) ?_
   · have m:=y rfl;have Y:_=_:=e 4 37 kR rfl;have W:C.cell? ⟨b,a,none⟩=some (.int .i64 (d:Int)):=(by rw [<-u.out];exact (m.cell a).trans (cV c o));go_simp;exact kq k rfl
   refine pH3 2 (.int .i64 (-1)) ?_;refine sC3 (fun _ _ _ _ _ _ _ e _ _ _ k=>?_) ?_
   · have Z:_=_:=e 5 38 kR rfl;have a0:_=_:=e 6 39 kR rfl;go_simp;exact k _ _ (aG bR) (dF (by rw [IntKind.wrap_i64];omega))
   refine pV3 0 33 ?_;refine pV3 8 41 ?_;refine pW3 9 42 1 34 ?_;refine sC3 (fun _ C _ y _ _ _ e _ _ _ k=>?_) ?_
   · have m:=y rfl;have a2:_=_:=e 10 43 kR rfl;have a1:_=_:=e 7 40 kR rfl;have X:C.cell? ⟨b,a,none⟩=some (.int .i64 (d:Int)):=(by rw [<-u.out];exact (m.cell a).trans (cV c o));have a6:=m.frozen a;go_simp;exact k (.bool true) _ (aW (Keep.setCell (F:=fun g=>g=b) (Keep.refl _ _) (p:=⟨b,a,none⟩) (.inl rfl) _)) (m.set a _)
   exact aH
 · intro a4 D r e H;replace r:Keep (fun g=>g=b) w1 D:=kD r;obtain ⟨af,q⟩:∃S,(fun _ j=>Bk j b 236 ((tcells c).setIfInBounds a (.int .i64 ((d - 1:Nat):Int)))) S D:=H 11 dC;simp only [zqq];clear e H;have V:D.cell? ⟨b,257,none⟩=some (.int .i64 (i:Int)):=(by refine (q.cell 257).trans ?_;rw [zCe oM,<-E.out];exact fB c);have a5:=q.frozen 257;have a3:(i:Int)+-1=((i - 1:Nat):Int):=oM;obtain ⟨N,L⟩:=hqq2 q r;have a9:=q.lt;clear q r;go_wp2_with fail;go_ret;refine ⟨rfl,?_,?_⟩;rw [<-J.out];exact N.out.set 257 _;exact ((Keep.of_below K.out).trans L.out).setCell (.inl rfl) _
@[irreducible] def cntL (c:List Nat):List Value:=(List.range 257).map fun a=>.int .i64 ((c.count a:Nat):Int)
def vL (b:List Nat) {a:Nat} (c:a < 257):(cntL b)[a]?=some (.int .i64 ((b.count a:Nat):Int)):=by
 unfold cntL;rw [zAf,List.getElem?_range c];rfl
def yE (a:List Nat):(cntL a).length=257:=by unfold cntL;simp
def aDc {w:World} {b:Nat} {a:List Nat} (f:Bk w b 236 (tcells a)):(loadCells ⟨b,0,none⟩ 257).run prog w=.ok (cntL a).toArray w:=by
 have:=run_loadCells_list (P:=prog) w ⟨b,0,none⟩ (cntL a) (fun c i e=>by
  have g:(⟨b,0,none⟩:Addr).add c=⟨b,c,none⟩:=by unfold Addr.add;split <;> simp_all
  have d:c < 257:=by rw [<-yE a];exact (zAc.1 e).1
  rw [g,f.cell c,cV a d,<-vL a d,e])
 rw [yE] at this;exact this
def rY {i:Oper} {b:Act} {w:World} {j:Act->World->Prop} {Q:Exit->Act->World->Prop} (a:TypeId) (l:Operand) (p:i.op=.load a l)
 (c:Addr) (t:b.eval l=.pointer (some c)) (d:Array Value) (g:Nat) (e:TypeDesc)
 (r:prog.underlying a=some e) (v:(match e with | .struct _ | .array _ _=>true | _=>false)=true) (k:(prog.info? a).map (·.size)=some g)
 (o:(loadCells c g).run prog w=.ok d w) (m:j (b.put i.dst (.agg d)) w):i.wp prog b w j Q:=by
 have s:(loadVar a c).run prog w=.ok (.agg d) w:=by
  cases f:prog.info? a with
  | none=>simp [f] at k
  | some u=>
    have q:u.size=g:=(by simpa [f] using k);have n:(isAgg a).run prog w=.ok true w:=(by unfold isAgg;rw [Sem.run_bind,run_underlying r w];cases e <;> simp_all);simp [loadVar,Sem.run_bind,n,sizeOf,typeInfo,f,q,o]
 unfold Oper.wp execOp;simp only [p,t,Instr.loadAt,Instr.sureAddr,Sem.run_bind,Sem.run_pure,Result.andThen_ok,s];exact m
def aEY (b:List Nat) (a:Nat) (c:a < 257) (w:World):(Instr.index 202 (.agg (cntL b).toArray) (.int .i64 (a:Int))).run prog w=.ok (.int .i64 ((b.count a:Nat):Int)) w:=by
 have j:(cntL b).toArray[a]?=some (.int .i64 ((b.count a:Nat):Int)):=by rw [List.getElem?_toArray];exact vL b c
 have d:(0:Int)<=(a:Int)/\(a:Int) < ((257:Nat):Int):=oM;have g:=underlying202;have i:=underlying3;have f:=vL b c;have e:(isAgg 3).run prog w=.ok false w:=by unfold isAgg;rw [Sem.run_bind,run_underlying i w];rfl
 simp [Instr.index,asIntOf,Sem.run_bind,run_underlying g w,d,Tryz.sizeOf3,c,part,e,f]
def rI (v:Nat) (b:List Nat) (c d:Nat) (w:World) (m:Bk w v 236 (tcells b)) (a1:d < 257) (j:b.countP (fun a=>decide (a < d))<=c) (g:c < b.countP (fun a=>decide (a < d))+b.count d) (a0:b.length<=1000):
 Calls prog 200 #[v,(c:Int)] w fun M w'=>M=.returned (.int .i64 (d:Int))/\Below w.heap.size w w':=by
 have G:=aDc m;have W:=lhd m;clear m;have Y:decide ((c:Int) < 0)=false:=by simp
 go_enter func200,ntmps200;go_wp2_with fail;refine rY 202 (.tmp 15) rfl ⟨v,0,none⟩ rfl (cntL b).toArray 257 _ underlying202 rfl kR G ?_;have x:=fun a=>oP b a;have E:∀a,a < d->b.countP (fun e=>decide (e < a))+b.count a<=b.countP (fun e=>decide (e < d)):=fun a U=>by rw [<-x a];exact List.countP_mono_left fun e _ m=>by simp at m⊢;omega
 obtain ⟨C,J,I,A⟩:=hqq4 x E j g;clear x E j g G;have Z:c<=1000:=by
  have g:=A.out;have n:b.countP (fun a=>decide (a < d))+b.count d<=b.length:=by rw [<-C.out d];exact zBh
  omega
 simp only [Act.put,List.setIfInBounds_toArray,List.set_cons_zero,List.set_cons_succ];go_wp2_with fail;go_loopw [1,17] (fun i z wr=>∃a:Nat,a<=d/\z=.int .i64 (a:Int)/\i=.int .i64 ((c - b.countP (fun e=>decide (e < a)):Nat):Int)/\wr=w) (fun _ z _=>257 -(intOf z).toNat)
 case atStart=>exact ⟨0,by omega,rfl,by simp,rfl⟩
 case round=>
  obtain ⟨a,U,rfl,rfl,rfl⟩:=hrel;have T:=aEY b a oM;have j:=I.out;have g:=A.out;have n:=C.out a;have k:=J.out a;obtain ⟨f,s⟩:∃f,b.countP (fun e=>decide (e < d))=f:=⟨_,rfl⟩;obtain ⟨i,l⟩:∃f,b.countP (fun e=>decide (e < a))=f:=⟨_,rfl⟩;obtain ⟨H,t⟩:∃f,b.countP (fun e=>decide (e < a+1))=f:=⟨_,rfl⟩;obtain ⟨q,o⟩:=eqx (b.count a);rw [s] at j g k;rw [l] at n k;rw [t,o] at n;rw [o] at k T;by_cases V:a < d
  · have S:=k V;have r:¬c - i < q:=oM;have N:decide (c - i < q)=false:=zBy r;have D:IntKind.i64.wrap (((c - i:Nat):Int) -(q:Int))=((c - H:Nat):Int):=(by rw [IntKind.wrap_i64];omega);have O:a < 257:=oM;have R:(a:Int) < 257:=oM;rw [l];obtain ⟨u,p⟩:=eqx (c - i);obtain ⟨X,y⟩:∃u,c - H=u:=⟨_,rfl⟩;rw [p] at r N D⊢;rw [y] at D;obtain ⟨K,L⟩:=hqq2 y t;clear j g n k S s l t o p y;go_wp2_with fail;go_roundw
    case rel=>exact ⟨a+1,by omega,by go_num,by rw [L.out,K.out],by first | rfl | trivial⟩
    case measure=>simp [intOf];omega
  · obtain rfl:a=d:=oM;rw [l];obtain rfl:f=i:=(by rw [<-s,<-l]);rw [o] at g;have r:c - f < q:=oM;have O:a < 257:=oM;have R:(a:Int) < 257:=oM;obtain ⟨u,p⟩:=eqx (c - f);rw [p] at r⊢;clear j g n k s l t o p;go_wp2_with fail;go_ret;exact ⟨rfl,Below.refl _ _⟩
end
end Go.Proofs.YtnmapianpjamnaaGreatDoor
