/- Lemmas of the walk. Conditions: each its own. -/
import Derived.Test.YtcoooelofcejbaaGreatDoorPd17
import Derived.Test.YtcoooelofcejbaaGreatDoorPd20
import Derived.Test.YtcoooelofcejbaaGreatDoorProg
import Derived.Test.YtcoooelofcejbaaGreatDoorShl
set_option linter.all false
set_option maxRecDepth 100000
set_option maxHeartbeats 4000000
open Go.Proofs.Tryz
namespace Go.Proofs.YtcoooelofcejbaaGreatDoor
section
open Go.RowKit Go.Shelf
attribute [local go_sem] Oper.semAt_some
def aBK (b:Option Addr) (d c:Nat) (a:World):
 Calls prog 162 #[.slice b d c] a fun e f=>e=.returned (.func (.func 229) #[] #[a.heap.size])/\f=a.alloc (.cells #[.slice b d c] 34):=by
 go_enter func162,ntmps162;go_wp2_with fail;go_ret;exact ⟨rfl,rfl⟩
def mQ (a:List Nat) (c:Nat×Nat) (b:UInt8):Nat×Nat:=(cB a (b.toNat+1) c.1,cB a (b.toNat+1) c.2)
def gE (a:List Nat) (b:List UInt8):Nat×Nat:=b.reverse.foldl (mQ a) (0,a.length)
def aE9 (b:List Nat) (c:List UInt8):∀a:Nat×Nat,a.1<=a.2->a.2<=b.length->(c.foldl (mQ b) a).1<=(c.foldl (mQ b) a).2/\(c.foldl (mQ b) a).2<=b.length:=by
 induction c with
 | nil=>intro a d e;exact ⟨d,e⟩
 | cons g c f=>intro a d e;exact f _ (aF5 b _ d) (uT b _ _)
def aJO (a:List UInt8):(bkL a a.length).map (·.2)=a.reverse:=by
 apply List.ext_getElem
 · simp [bkL]
 · intro b c e;have d:b < a.length:=(by simpa [bkL] using c);simp [bkL,List.getElem_reverse,d,show a.length - 1 - b < a.length by omega]
def aEZ (a:Oper):Bool:=match a.op with
 | .defer _=>false
 | _=>true
def aHY {d:Array Oper} (e:d.toList.all aEZ=true):∀(c:Nat) (a:Oper),d[c]?=some a->∀b,a.op≠.defer b:=by
 intro c a g b f;have:=zBf.1 e a (Array.mem_toList_iff.2 (Array.mem_of_getElem? g));unfold aEZ at this;rw [f] at this;cases this
structure FInv (w0:World) (Bw gl gb glo gs b3:Nat) (sl:Value) (L:List Nat) (pre:List (Nat×UInt8)) (W:World):Prop where
 lo:Bk W glo 3 #[.int .i64 ((((pre.map (·.2)).foldl (mQ L) (0,L.length)).1:Nat):Int)]
 hi:Bk W (glo+1) 3 #[.int .i64 ((((pre.map (·.2)).foldl (mQ L) (0,L.length)).2:Nat):Int)]
 lv:LvW W Bw gl L
 box:Bk W gb 43 #[gl]
 bs:Bk W gs 34 #[sl]
 dat:∃t cs,Bk W b3 t cs/\t∈ [5,34]
 vis:VB Bw w0 W
def FInv.own {w0:World} {q v u w x t p:Nat} {C:Value} {r:List Nat} (D:w0.heap.size<=p):OwnFrom p (fun B k=>FInv w0 q v u w x t C r B k):=by
 intro F k s row a d n;have g:∀b i f,Bk k b i f->Bk s b i f:=by intro b i f e;refine (d.block b e.lt fun c=>?_).trans e;obtain ⟨_,E,j,A⟩:=n b c.symm;unfold Bk at e;rw [e] at j;injection j with j;subst j;cases A
 obtain ⟨i,f,y,z⟩:=a.dat;refine ⟨g _ _ _ a.lo,g _ _ _ a.hi,a.lv.same g,g _ _ _ a.box,g _ _ _ a.bs,⟨i,f,g _ _ _ y,z⟩,⟨d.os.trans a.vis.1.os,d.tape.trans a.vis.1.tape,d.output.trans a.vis.1.output,zAk a.vis.1.size d.size,fun b e m=>?_⟩,⟨d.os.trans a.vis.1.os,d.tape.trans a.vis.1.tape,d.output.trans a.vis.1.output,zAk a.vis.1.size d.size,fun b e m=>(d.block b (zAl e a.vis.1.size) fun c=>?_).trans (a.vis.2.block b e m)⟩⟩;rcases a.vis.1.block b e m with c |⟨f,o,c,l⟩|⟨f,o,c,l⟩;refine .inl ((d.block b (zAl e a.vis.1.size) fun c=>?_).trans c);have:=(n b c.symm).1;omega;exact .inr (.inl ⟨f,o,c,g _ _ _ l⟩);exact .inr (.inr ⟨f,o,c,g _ _ _ l⟩);have:=(n b c.symm).1;omega
def yI {g:Nat->Prop} {f k:World} (j:VisF g f k) (m:∀b e,g b->f.heap[b]?=some e->e.isCells=true):KeepsOthers f k:=by
 refine ⟨j.size,fun b e c d=>?_⟩;by_cases i:g b
 · rw [m b e i c] at d;cases d
 · have n:b < f.heap.size:=(zAh.1 c).1;rcases j.block b n i with a |⟨l,o,a,_⟩|⟨l,o,a,_⟩;exact a.trans c
   · unfold Bk at a;rw [c] at a;injection a with a;subst a;cases d
   · unfold Bk at a;rw [c] at a;injection a with a;subst a;cases d
def sJ {u y:Nat} {d:List Nat} {n:Nat} {ai:Option Addr} {af:Nat} (ap:Nat) {aJ:Nat} {b8:List Sl} {t:List UInt8} {C:Nat} (ck:gK b8=t) (bm:t.length=C) {l:World} (o:LvW l u y d) (X:d.length=n+1) (cr:n<=900) (bl:∀H∈d,H < 257) (bI:Rd l aJ 1 ai af (b8.map slV)) (bP:∀ag∈b8,Rd l aJ 1 ag.A ag.n (ag.l.map bv)) (cV:aJ<=l.heap.size) (d4:af<=1000000) (d5:C<=1000000):
 Calls prog 91 #[y,.slice ai af ap] l fun c c0=>c=.returned (.tuple #[.int .i64 (((gE d t).1:Nat):Int),.int .i64 (((gE d t).2:Nat):Int)])/\VB u l c0:=by
 refine (callsIn_wide (n:=6)).1 ?_;refine callsIn_of_wp_marks func91 rfl trivial ?_ rfl;simp only [ntmps91,List.size_toArray,zCg,List.length_nil,Nat.reduceAdd,Nat.reduceSub,Array.replicate_succ,Array.replicate_zero,List.push_toArray,List.append_toArray,List.nil_append,List.cons_append];refine wpIn_wide.2 ?_;have d1:=o.lt;obtain ⟨ba,c5,c9,ca⟩:=hqq4 o bl bI bP;clear o bl bI bP;go_wp2_with fail;have aB:Below l.heap.size l (l.alloc (.cells #[y] 43)):=bR.alloc nL _;refine (bM (ba.out.vis (Vis.of_below aB)) X oM).mono ?_;rintro c c0 ⟨rfl,rfl⟩;have N:IntKind.i64.wrap ((n:Int)+1)=((n+1:Nat):Int):=by rw [IntKind.wrap_i64];omega
 obtain ⟨a4,bG⟩:=eqx (n+1);have aq:(n:Int)+1=(a4:Int):=oM;have aw:=Bk.new l 43 #[y];obtain ⟨a2,aX⟩:=eqx l.heap.size;rw [aX] at aw;rw [aX];generalize l.alloc (.cells #[y] 43)=w1 at aB aw⊢;obtain ⟨aQ,aM,c8,bg⟩:=hqq4 aB aw bG X;clear aB aw bG X aX;go_wp2_with fail;have O:=(Bk.new w1 3 #[.int .i64 0]).alloc (.cells #[(a4:Int)] 3);have K:=Bk.new (w1.alloc (.cells #[.int .i64 0] 3)) 3 #[(a4:Int)];rw [World.size_alloc] at K;have au:Below w1.heap.size w1 ((w1.alloc (.cells #[.int .i64 0] 3)).alloc (.cells #[(a4:Int)] 3)):=(bR.alloc nL _).alloc (by simp) _;obtain ⟨g,aa⟩:=eqx w1.heap.size;rw [aa] at O K;rw [aa];generalize (w1.alloc (.cells #[.int .i64 0] 3)).alloc (.cells #[(a4:Int)] 3)=aI at O K au⊢;have ac:=aQ.out.trans (au.mono aQ.out.size);have bq:=aM.out.below au aM.out.lt;have cq:l.heap.size<=g:=by rw [<-aa];exact aQ.out.size
 have d0:a2 < g:=by rw [<-aa];exact aM.out.lt
 have bt:=mG ap ck bm (c9.out.keep fun b7 E=>ac.cell oM) (fun ag b3=>(ca.out ag b3).keep fun b7 E=>ac.cell oM) (by have:=ac.size;omega) oM oM;obtain ⟨I,M,an,al⟩:=hqq4 O K ac bq;clear O K au ac bq aa N aq;refine bt.mono ?_;clear bt;rintro c a5 ⟨L,W,rfl,bE,S⟩;obtain ⟨bf,R⟩:=hqq2 bE S;clear bE S;go_wp2_with fail;refine (aBK L C W a5).mono ?_;rintro c Z ⟨rfl,aC⟩;have ax:=Bk.new a5 34 #[.slice L C W];rw [<-aC] at ax;have T:Below a5.heap.size a5 Z:=aC ▸bR.alloc nL _;have d6:Z.heap.size=a5.heap.size+1:=by rw [aC];simp
 obtain ⟨J,az⟩:=eqx a5.heap.size;rw [az] at ax;rw [az];have cA:=lhd az;clear aC az;have bC:=(I.out.below R.out I.out.lt).below T (zAl I.out.lt R.out.size);have bA:=(M.out.below R.out M.out.lt).below T (zAl M.out.lt R.out.size);have br:=(al.out.below R.out al.out.lt).below T (zAl al.out.lt R.out.size);have bS:Below l.heap.size l Z:=(an.out.trans (R.out.mono an.out.size)).trans (T.mono (by have:=an.out.size;have:=R.out.size;omega));have bF:=bf.out.below T;obtain ⟨be,aN,bc,ao,am,a0⟩:=hqq6 bC bA br bS bF ax;clear bC bA br bS bF ax T I M an al bf;go_wp2_with fail;obtain ⟨B,S⟩:∃B,(∀b aG,L=some ⟨b,aG,none⟩->0 < C->b=B)/\∃w z,Bk Z B w z/\w∈ [5,34]:=by rcases am.out.own.2 with ⟨c,ch⟩|⟨aU,cf,cg,c,_,bz,_⟩;exact ⟨J,fun b aG _ ar=>by omega,_,_,a0.out,by simp⟩;injection c with c;exact ⟨aU,fun b aG o _=>by rw [c] at o;injection o with o;injection o with o _;exact o.symm,_,_,bz,by simp⟩
 have aV:0 < C->L=some ⟨B,0,none⟩:=by
  intro ar;rcases am.out.own.2 with ⟨c,ch⟩|⟨aU,cf,cg,c,_,bz,_⟩;omega
  · injection c with c;rw [c,S.1 aU 0 c ar]
 have bu:∀U,U < t.length->Z.cell? ⟨B,0+U,none⟩=some (.int .u8 ((t.getD U 0).toNat:Int)):=by intro U aA;have cu:=am.out.rd;obtain ⟨b,aG,c,_,cn⟩:=cu.2 oM;rw [aV oM] at c;injection c with c;injection c with N aq;subst N aq;refine cn U _ ?_;rw [zAf,zAa aA];simp [bv,zAb,zAa aA]
 have bJ:SeqStopsK Fence.wide (6 - 1) prog 229 #[J] (fun H:Nat×UInt8=>#[(H.1:Int),.int .u8 (H.2.toNat:Int)]) (KpB J B) (fun c1=>c1=bkL t t.length) (fun _=>True) C Z:=by intro aF cC cd j bn cX cY cl ar;have co:=S.2;obtain ⟨w,z,a9,ay⟩:=co;exact aBL Fence.wide (6 - 1) trivial rfl oM aF J B 0 W L t (fun o=>aV oM) oM cd (fun G H ce a6 bh=>cl G H ce a6 oM) (by rw [bm];exact (a0.out.below bn a0.out.lt).cell 0) (fun U aA=>(bn.cell (p:=⟨B,0+U,none⟩) a9.lt).trans (bu U aA)) ar
 have bj:FInv l u y a2 g J B (.slice L C W) d [] Z:=⟨be.out,by
  have:=aN.out;rw [show (([]:List (Nat×UInt8)).map (·.2)).foldl (mQ d) (0,d.length)=(0,d.length) from rfl,bg.out,c8.out];exact this,ba.out.vis (Vis.of_below ao.out),bc.out,a0.out,S.2,VisK.of_below ao.out⟩
 have d3:=a0.out.lt;have T:=S.2;obtain ⟨aK,aP⟩:=hqq2 bj bJ;have d2:=aN.out.lt;obtain ⟨d9,cF,bw,cp⟩:=T;have cZ:=bw.lt;clear bJ bj bu aV S bw cp be aN bc am a0;refine (wpIn_wide (n:=6)).1 ?_
 refine wpIn_rangeFunc_ownF (F:=Fence.wide) (n:=6) rfl oM (gf:=229) (lb:=#[.pointer (some J)]) rfl trivial (enters_of func229 kR rfl) aP.out (fun o ad=>o.trans ad)
  (fun j aF cx d7 cr b0 _ _ b7 E=>World.cell?_of_block (World.putObj_heap_other (fun c=>by rcases E with E | E <;> omega))) bR (fun _=>rfl)
  (fun G j=>FInv l u y a2 g J B (.slice L C W) d G j) (fun _ _ _=>False) (FInv.own ao.out.size) (fun _ _ _ _ _ b3 _ _=>b3) aK.out
  (fun H=> { tmps:=#[.pointer (some y),.slice ai af ap,.pointer (some a2),undef,.int .i64 0,.int .i64 0,.pointer (some g),.pointer (some ⟨g+1,0,none⟩),undef,.int .u8 (H.2.toNat:Int),.pointer (some y),.bool false,.pointer (some y),.int .i64 (n:Int),.int .i64 (a4:Int),.slice ai af ap,.slice L C W,.func (.func 229) #[] #[J],.int .i64 (H.1:Int),.int .u8 (H.2.toNat:Int),undef,undef,undef,undef,undef,undef,undef,undef,undef,undef,undef,undef,undef,undef],defers:= [] }) ?assign ?body ?done ?stop
 case assign=>
  intro aF H j cD e
  gi_wp2
  exact e
 case body=>
  rintro aF G ⟨bU,x⟩ j r _;obtain ⟨gk,bW,bZ,d8,bB,bT⟩:=r.lv;obtain ⟨ae,O⟩:=eqx (((G.map (·.2)).foldl (mQ d) (0,d.length)).1);obtain ⟨ab,K⟩:=eqx (((G.map (·.2)).foldl (mQ d) (0,d.length)).2);have aW:=aE9 d (G.map (·.2)) (0,d.length) (zAp _) nL;rw [O,K] at aW;obtain ⟨Y,bo⟩:=eqx (cB d (x.toNat+1) ae);obtain ⟨V,s⟩:=eqx (cB d (x.toNat+1) ab);have aZ:=r.lo;have aY:=r.hi;rw [O] at aZ;rw [K] at aY;obtain ⟨aO,cc,I,M,c6,bd⟩:=hqq6 bB bT aZ aY r.box aW;have ak:Hid (cB d (x.toNat+1) ae=Y/\cB d (x.toNat+1) ab=V):=lhd ⟨bo,s⟩;have c2:=lhd r;have c7:Hid (((G.map (·.2)).foldl (mQ d) (0,d.length))=(ae,ab)):=lhd (by rw [<-O,<-K]);clear bB bT aZ aY aW bo s r O K aK aP
  gi_wp2
  refine wpIn_region_any kR ?_;refine aDo (fun ⟨_,_,o⟩=>o) (aHY kR) _ _ _ _ ?_;refine bQ (pJ:=(fun _ aI=>Bk aI g 3 #[(Y:Int)])) u 13 [21,22,23,24,25,26,27,28,29,20,30,31] (fun b=>b=g) 12 [0,1,2,3,4,5,6,7,8,9,10,12] [is y,is y,is y,is gk,is (ae:Int),is (ab:Int),is (.int .u8 (x.toNat:Int)),is (.int .i64 ((x.toNat+1:Nat):Int)),is (.tuple #[(Y:Int),(V:Int)]),is (.tuple #[(Y:Int),(V:Int)]),is (Y:Int),is (V:Int),dJ] _ rfl dC kR kR kR (VisK.of_below bR.drew) (fun _ _ o _ ad=>o.trans ad) (fun _ _ _ o ad=>ad.1.bk o dC dC) tA0 ?_ ?_
  · refine bH ?_;refine sC3 (fun D v _ k _ _ P _ _ _ _ e=>?_) ?_
    · have a:=k rfl;have aq:D (.tmp 2)=.pointer (some a2):=P 2 kR;replace a:VB u j v:=(by first|exact a|exact bD a);have a1:=(a.1.bk c6.out dC dC).cell 0;go_simp;exact e _ _ (aE vR) rfl
    refine sC3 (fun _ v _ k _ _ _ q _ _ _ e=>?_) ?_
    · have a:=k rfl;have cH:_=_:=q 0 21 kR rfl;replace a:VB u j v:=(by first|exact a|exact bD a);have a1:=(a.1.bk aO.out dC dC).cell 0;go_simp;exact e _ _ (aE vR) rfl
    refine sC3 (fun _ v _ k _ _ _ q _ _ _ e=>?_) ?_
    · have a:=k rfl;have cI:_=_:=q 1 22 kR rfl;replace a:VB u j v:=(by first|exact a|exact bD a);have a1:=(a.1.bk aO.out dC dC).cell 0;go_simp;exact e _ _ (aE vR) rfl
    refine sC3 (fun _ v _ k _ _ _ q _ _ _ e=>?_) ?_
    · have a:=k rfl;have cJ:_=_:=q 2 23 kR rfl;replace a:VB u j v:=(by first|exact a|exact bD a);have a1:=(a.1.bk aO.out dC dC).cell 0;go_simp;exact e _ _ (aE vR) rfl
    refine sC3 (fun D v _ k _ _ P _ _ _ _ e=>?_) ?_
    · have a:=k rfl;have cj:D (.tmp 6)=.pointer (some g):=P 6 kR;replace a:VB u j v:=(by first|exact a|exact bD a);have a1:=(a.1.bk I.out dC dC).cell 0;go_simp;exact e _ _ (aE vR) rfl
    refine sC3 (fun D v _ k _ _ P _ _ _ _ e=>?_) ?_
    · have a:=k rfl;have cR:D (.tmp 7)=.pointer (some ⟨g+1,0,none⟩):=P 7 kR;replace a:VB u j v:=(by first|exact a|exact bD a);have a1:=(a.1.bk M.out dC dC).cell 0;go_simp;exact e _ _ (aE vR) rfl
    refine sC3 (fun D _ _ k _ _ P _ _ _ _ e=>?_) ?_
    · have a:=k rfl;have cS:D (.tmp 9)=.int .u8 (x.toNat:Int):=P 9 kR;go_simp;exact e _ _ (aE vR) rfl
    refine sC3 (fun _ v _ k _ _ _ q _ _ _ e=>?_) ?_
    · have a:=k rfl;have cN:_=_:=q 6 27 kR rfl;go_simp;refine (oN x v).mono ?_;rintro c cz ⟨rfl,cm⟩;exact e _ _ (aE (VisK.of_below cm)) rfl
    refine sC3 (fun _ v _ k _ _ _ q _ _ _ e=>?_) ?_
    · have a:=k rfl;have cK:_=_:=q 3 24 kR rfl;have cL:_=_:=q 4 25 kR rfl;have cM:_=_:=q 5 26 kR rfl;have cO:_=_:=q 7 28 kR rfl;replace a:VB u j v:=(by first|exact a|exact bD a);go_simp;refine (xE (x.toNat+1) (cc.out.vis a.1) (by have:=x.toNat_lt;omega) bd.out.1 bd.out.2 c5.out (by rw [bg.out];omega)).mono ?_;rintro c cz ⟨rfl,cw⟩;rw [ak.out.1,ak.out.2];exact e _ _ (aE cw) rfl
    refine sC3 (fun _ _ _ k _ _ _ q _ _ _ e=>?_) ?_
    · have a:=k rfl;have cP:_=_:=q 8 29 kR rfl;go_simp;exact e _ _ (aE vR) rfl
    refine sC3 (fun _ _ _ k _ _ _ q _ _ _ e=>?_) ?_
    · have a:=k rfl;have cG:_=_:=q 9 20 kR rfl;go_simp;exact e _ _ (aE vR) rfl
    refine pV3 9 20 ?_;refine sC3 (fun D v _ k _ _ P q _ _ _ e=>?_) ?_
    · have a:=k rfl;have cj:D (.tmp 6)=.pointer (some g):=P 6 kR;have cQ:_=_:=q 10 30 kR rfl;replace a:VB u j v:=(by first|exact a|exact bD a);have b5:=a.1.bk I.out dC dC;have a1:=b5.cell 0;have cU:=b5.frozen 0;go_simp;exact e (.bool true) _ (iX (VFB.put (F:=fun b=>b=g) (VFB.of_vb vR) (p:=g) (.inl rfl) _)) (b5.set 0 _)
    exact aH
  · intro D ah m a7 q bp;replace a7:VFB u (fun b=>b=g) j ah:=fD a7;have ci:D (.tmp 31)=.int .i64 (V:Int):=q 11 31 dC rfl;obtain ⟨cy,bV⟩:=bp 12 dC;have b6:(fun _ aI=>Bk aI g 3 #[(Y:Int)]) cy ah:=bV;clear bV bp;simp only [zqq];rw [ci];clear q;have aD:=a7.1.bk M.out dC dC (fun c=>by omega);have cE:=aD.cell 0;have cT:=aD.frozen 0;change wpAny prog Region.Mode.any _ _ (1+m) (bX 13 14) _ ah;rw [zCt 1 m];refine bL (f:=m) (i:=13) kR ?_;refine bY rfl rfl ?_;generalize e:wpAny prog _ _ _ m _=K5;go_simp;subst e;refine bO kR ?_;have bx:((G++ [(bU,x)]).map (·.2)).foldl (mQ d) (0,d.length)=(Y,V):=(by rw [zAz,List.foldl_append,c7.out];show (cB d (x.toNat+1) ae,cB d (x.toNat+1) ab)=_;rw [ak.out.1,ak.out.2]);have b4:l.heap.size<=g:=cq;have ct:g≠g+1:=oM;have bN:VFB u (fun b=>b=g∨b=g+1) j (ah.setCell ⟨g+1,0,none⟩ (.int .i64 (V:Int))):=(by exact VFB.put (a7.wider fun b c=>.inl c) (.inl (.inr rfl)) _);have bK:=bN.1;have r:=c2.out;obtain ⟨w,z,a9,ay⟩:=r.dat;have a3:w≠266/\w≠206/\w≠3:=by simp at ay;rcases ay with rfl | rfl <;> decide
    have a8:∀b w z,Bk j b w z->w≠266->w≠206->w≠3->Bk (ah.setCell ⟨g+1,0,none⟩ (.int .i64 (V:Int))) b w z:=fun b w z s a6 bh bi=>bK.bk s a6 bh (fun m=>by
        rcases m with m | m;subst m;exact bi (aL s I.out).1
        · subst m;exact bi (aL s M.out).1)
    have cs:=r.lv.visI a7.1 I.out b6;change KeepsOthers j _/\KpB J B j _/\FInv l u y a2 g J B (.slice L C W) d (G++ [(bU,x)]) _;refine ⟨yI bK (fun b cx m b0=>?_),?_,?_,?_,?_,a8 _ _ _ r.box dC dC dC,a8 _ _ _ r.bs dC dC dC,⟨w,z,a8 _ _ _ a9 a3.1 a3.2.1 a3.2.2,ay⟩,?_⟩;rcases m with m | m;subst m;have:=I.out;unfold Bk at this;rw [b0] at this;injection this with this;subst this;rfl;subst m;have:=M.out;unfold Bk at this;rw [b0] at this;injection this with this;subst this;rfl
    · intro b7 E;rcases E with E | E
      · have N:=(a8 _ _ _ r.bs dC dC dC).trans r.bs.symm;rw [<-E] at N;exact World.cell?_of_block N
      · have N:=(a8 _ _ _ a9 a3.1 a3.2.1 a3.2.2).trans a9.symm;rw [<-E] at N;exact World.cell?_of_block N
    rw [bx];exact b6.far (p:=⟨g+1,0,none⟩) ct _;rw [bx];exact aD.set 0 _;exact cs.sameT fun b w z cv s=>s.far (p:=⟨g+1,0,none⟩) (fun c=>by subst c;exact cv (aL s aD).1) _;have a6:VFB u (fun b=>b=g∨b=g+1) l j:=VFB.of_vb r.vis;exact (a6.trans bN).to_vb (fun b s m=>by rcases m with m | m <;> omega)
 case done=>
  rintro aj c1 j cW rfl r e;have aR:=r.lo.cell 0;have aS:=r.hi.cell 0;rw [aJO] at aR aS;change j.cell? g=some (.int .i64 (((gE d t).1:Nat):Int)) at aR;change j.cell? ⟨g+1,0,none⟩=some (.int .i64 (((gE d t).2:Nat):Int)) at aS;obtain ⟨bW,b1⟩:=eqx ((gE d t).1);obtain ⟨bZ,b2⟩:=eqx ((gE d t).2);rw [b1] at aR;rw [b2] at aS;obtain ⟨cb,c3⟩:=hqq2 r.vis e;have bb:Hid ((gE d t).1=bW/\(gE d t).2=bZ):=lhd ⟨b1,b2⟩;clear r aK aP b1 b2 e;go_wp2_with fail;go_quiet (fail);go_wp2_with fail;have c4:(j.drewN nq).heap[aj]?=some (.deferred (some [])):=c3.out;refine ⟨by simp,.inl ⟨_,_,rfl,run_takeDeferred c4,?_⟩⟩;refine ⟨_,results_tmp2 rfl _ _ _,by rw [bb.out.1,bb.out.2];rfl,?_⟩;have Q:=cb.out;have av:∀b,b < l.heap.size->((j.drewN nq).putObj aj (.deferred none)).heap[b]?=j.heap[b]?:=fun b s=>World.putObj_heap_other (by have:=ao.out.size;omega);have b4:l.heap.size<=((j.drewN nq).putObj aj (.deferred none)).heap.size:=by have:=Q.1.size;simpa using this
  refine ⟨⟨Q.1.os,Q.1.tape,Q.1.output,b4,fun b s X=>?_⟩,⟨Q.1.os,Q.1.tape,Q.1.output,b4,fun b s X=>(av b s).trans (Q.2.block b s X)⟩⟩;rcases Q.1.block b s X with c |⟨z,b9,c,aT⟩|⟨z,b9,c,aT⟩;exact .inl ((av b s).trans c);exact .inr (.inl ⟨z,b9,c,(av b s).trans aT⟩);exact .inr (.inr ⟨z,b9,c,(av b s).trans aT⟩)
 case stop=>intro aj x G j _ _ o _;exact o.elim
end
section
def aB7 {a d:List Nat} {l:Nat} (c:IsSuf a d) (f:EndOk a l) (b:List UInt8):gE (aD a d) b=(Nq a false (cZ b),Nq a true (cZ b)):=by
 have j:(aD a d).length=a.length:=by rw [bF,c.len]
 unfold gE;rw [j]
 induction b with
 | nil=>
   obtain ⟨g,i⟩:=aKK a;show (0,a.length)=(Nq a false [],Nq a true []);rw [g,i]
 | cons e b k=>
   rw [List.reverse_cons,List.foldl_append,k];show (cB _ (e.toNat+1) (Nq a false (cZ b)),cB _ (e.toNat+1) (Nq a true (cZ b)))=_;rw [aE1 c f _ _ _ oM,aE1 c f _ _ _ oM];rfl
def aGo {a:List UInt8} {c:List Nat} (d:IsSuf (aF a) c) (b:List UInt8):(gE (aD (aF a) c) b).2 -(gE (aD (aF a) c) b).1=occ (aF a) (cZ b):=by
 rw [aB7 d (eK a),aEE];omega
end
section
open Go.RowKit Go.Shelf
def zB {m q:Nat} {a:List Nat} {z:Nat} {k:Option Addr} {g:Nat} (o:Nat) {e:Nat} {j:List Sl} {b:List UInt8} {n:Nat} (E:gK j=b) (D:b.length=n) {c:World} (r:LvW c m q a) (H:a.length=z+1) (F:z<=900) (s:∀K∈a,K < 257) (w:Rd c e 1 k g (j.map slV)) (x:∀i∈j,Rd c e 1 i.A i.n (i.l.map bv)) (C:e<=c.heap.size) (G:g<=1000000) (I:n<=1000000):
 Calls prog 51 #[q,.slice k g o] c fun p B=>p=.returned (.int .i64 (((gE a b).2 -(gE a b).1:Nat):Int))/\VB m c B:=by
 have v:=sJ o E D r H F s w x C G I;have d:=aE9 a b.reverse (0,a.length) (zAp _) nL;change (gE a b).1<=(gE a b).2/\(gE a b).2<=a.length at d;obtain ⟨y,u⟩:=eqx ((gE a b).1);obtain ⟨f,t⟩:=eqx ((gE a b).2);rw [u,t] at v d⊢;have M:=d.1;have N:f<=1000:=oM;have L:IntKind.i64.wrap ((f:Int) -(y:Int))=((f - y:Nat):Int):=by rw [IntKind.wrap_i64];omega
 clear r w x u t d s;go_enter func51,ntmps51;go_wp2_with fail;refine v.mono ?_;rintro p B ⟨rfl,J⟩;go_wp2_with fail;go_ret;exact ⟨eS oM,J⟩
end
section
open Go.RowKit
def aDO (e b:List UInt8):e.isPrefixOf b=true↔∀(d:Nat) (c:UInt8),e[d]?=some c->b[d]?=some c:=by
 rw [List.isPrefixOf_iff_prefix];constructor;rintro ⟨i,rfl⟩ d c a;rw [zAn (by obtain ⟨j,_⟩:=zAc.1 a;exact j)];exact a
 · intro a
   induction e generalizing b with
   | nil=>exact List.nil_prefix
   | cons f e m=>
     cases b with
     | nil=>exact absurd (a 0 f rfl) (by simp)
     | cons n b=>
       have g:=a 0 f rfl;simp at g;subst g;obtain ⟨i,l⟩:=m b fun d c k=>by simpa using a (d+1) c (by simpa using k)
       exact ⟨i,by rw [List.cons_append,l]⟩
def aCh (g f:List UInt8) (e:Nat):sW (aF g) (cZ f) e=f.isPrefixOf (g.drop e):=by
 rw [Bool.eq_iff_iff,aDP,aDO];constructor;intro b d a c;rw [zBt];exact b d a c;intro b d a c;have:=b d a c;rw [zBt] at this;exact this
def aD7 (b c:List UInt8):∀a,b.length+1 - c.length<=a->a<=b.length+1->nD b c a=dD b c:=by
 intro a e
 induction a with
 | zero=>
   intro _;have:b.length+1 - c.length=0:=oM;rw [dD,this]
 | succ a g=>
   intro i;rcases Nat.eq_or_lt_of_le e with d | d
   · rw [dD,d]
   · rw [aGf,g oM oM];cases f:c.isPrefixOf (b.drop a) with
     | false=>rfl
     | true=>
       exfalso;have:=(List.isPrefixOf_iff_prefix.1 f).length_le;rw [zAw] at this;omega
def qR (a b:List UInt8):fL a b=dD a b:=by
 rw [<-aD7 a b (a.length+1) oM nL];unfold fL nD;congr 1;funext i;exact aCh a b i
def aDQ (b a:List UInt8):(fL b a).length=occ (aF b) (cZ a):=by
 unfold fL occ;rw [List.countP_eq_length_filter,aK]
end
end Go.Proofs.YtcoooelofcejbaaGreatDoor
