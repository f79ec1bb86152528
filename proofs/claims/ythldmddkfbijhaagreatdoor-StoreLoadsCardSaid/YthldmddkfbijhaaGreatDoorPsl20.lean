/- Lemmas of the walk. Conditions: each its own. -/
import Derived.Test.YthldmddkfbijhaaGreatDoorPsl17
import Derived.Test.YthldmddkfbijhaaGreatDoorPsl18
import Derived.Test.YthldmddkfbijhaaGreatDoorProg
import Derived.Test.YthldmddkfbijhaaGreatDoorShl
import Derived.Test.YthldmddkfbijhaaGreatDoorShi
set_option linter.all false
set_option maxRecDepth 100000
set_option maxHeartbeats 4000000
open Go.Proofs.Tryz
namespace Go.Proofs.YthldmddkfbijhaaGreatDoor
open Go.RowKit
def aAD (S:Nat->Prop) (i g:Nat):Prop:=(i=0/\g=0)∨∃a,S a/\a < i/\g+a+1=i/\∀b,a < b->b < i->¬S b
section
variable {S : Nat -> Prop} {r N i g : Nat}
def aJp (a:S i):aAD S (i+1) 0:=.inr ⟨i,a,by omega,by omega,fun d b c=>by omega⟩
def aKe (d:S 0) (a:¬S i) (j:aAD S i g):aAD S (i+1) (g+1):=by
 rcases j with ⟨rfl,rfl⟩|⟨l,e,m,n,f⟩;exact absurd d a;refine .inr ⟨l,e,by omega,by omega,fun b k o=>?_⟩;by_cases c:b=i;rw [c];exact a;exact f b k oM
def aKf (e:oY S r N) (p:1<=r) (a:aAD S (i+1) g) (o:i<=N):g < r:=by
 rcases a with ⟨a,_⟩|⟨k,c,m,n,d⟩;omega;by_cases b:g < r;exact b;obtain ⟨l,f,j,q⟩:=e k c oM;exact absurd f (d l j oM)
end
def mkB (b:List (Nat×Nat)) (a i:Nat):Bool:=decide (∃c∈b.take a,c.2=i)
def mkV (c:List (Nat×Nat)) (b a:Nat):Array Value:=((List.range b).map fun i=>Value.bool (mkB c a i)).toArray
def aH2 (c:List (Nat×Nat)) (b:Nat):mkV c b 0=Array.replicate b (.bool false):=by
 apply Array.ext';unfold mkV;rw [Array.toList_replicate];refine List.ext_getElem? fun i=>?_;rw [zAf,List.getElem?_replicate];by_cases a:i < b
 · rw [zBx a,zCk a];simp [mkB]
 rw [zBw a,List.getElem?_eq_none_iff.2 (by rw [zCi];omega)];rfl
def qV (c:List (Nat×Nat)) (a b:Nat):(mkV c a b).size=a:=by simp [mkV]
def lQ (c:List (Nat×Nat)) (a:Nat) {b i:Nat} (d:i < b):(mkV c b a)[i]?=some (.bool (mkB c a i)):=by
 unfold mkV;rw [zCw,zAf,zCk d];rfl
def aFp {b:List (Nat×Nat)} {j a:Nat} {f:Nat×Nat} (m:b[a]?=some f):(mkV b j a).setIfInBounds f.2 (.bool true)=mkV b j (a+1):=by
 apply Array.ext_getElem?;intro i;rw [zCd];by_cases l:i < j
 · rw [lQ b (a+1) l,lQ b a l,qV];have c:mkB b (a+1) i=(mkB b a i||decide (f.2=i)):=(by unfold mkB;rw [Bool.eq_iff_iff,Bool.or_eq_true,zCa,zCa,zCa,zAv,m];constructor;rintro ⟨k,e,c⟩;rcases zCp.1 e with e | e;exact .inl ⟨k,e,c⟩;have:k=f:=(by simpa using e);subst this;exact .inr c;rintro (⟨k,e,c⟩| c);exact ⟨k,zCp.2 (.inl e),c⟩;exact ⟨f,zCp.2 (.inr (by simp)),c⟩);rw [c];by_cases d:f.2=i
   · rw [zBx d,zBx oM];simp [d]
   · rw [zBw d];simp [d]
 · have n:(mkV b j a)[i]?=none:=Array.getElem?_eq_none (by rw [qV];omega);have o:(mkV b j (a+1))[i]?=none:=Array.getElem?_eq_none (by rw [qV];omega);rw [n,o,qV];by_cases d:f.2=i
   · rw [zBx d,zBw oM]
   · rw [zBw d]
def aJi (a:List (Nat×Nat)) (i:Nat):mkB a a.length i=true↔Smp a i:=by
 unfold mkB Smp;rw [List.take_length,zCa]
def aF5 (a:Nat) (l:a<=1000000) (b:World):(Instr.makeSlice 175 (.int .i64 (a:Int)) (.int .i64 (a:Int))).run prog b=.ok (.slice (some b.heap.size) a a) (b.alloc (.cells (Array.replicate a (.bool false)) 4)):=by
 obtain ⟨k,d,e,f,j⟩:=info_parts oJ;have:=run_make (P:=prog) b 175 4 k (.bool false) underlying175 d e .i64 .i64 a a oM (Int.le_refl _) (by rw [j];omega) oM;rw [this,f];have c:madeCells #[.bool false] a=Array.replicate a (.bool false):=by apply Array.ext';rw [toList_madeCells_one];simp
 simp only [Value.cells,zBr,zBl];rw [c]
structure SampOk (C:List (Nat×Nat)) (rs:List Nat) (r N:Nat):Prop where
 right:∀k,k < C.length->aB C k < N+1/\aI C k < N+1/\rs[aB C k]?=some (aI C k)
 rise:∀k,k+1 < C.length->aB C k < aB C (k+1)
 zero:Smp C 0
 gap:oY (Smp C) r N
 len:rs.length=N+1
 rate:1<=r
def aDd (ak aL:Option Addr) (k t m I aM aN:Nat) (l:List (Nat×Nat)) (bf:List Nat) (r N:Nat) (E:World) (aY:Rd E aM 2 ak k (bW l)) (aZ:Rd E aN 1 aL m (bf.map sv)) (b1:aM<=E.heap.size) (b2:aN<=E.heap.size)
 (b0:l.length=k) (b8:N+1=m) (bK:k<=1000) (bI:N<=1000) (bM:r<=64) (aE:SampOk l bf r N):
 Calls prog 69 #[.slice ak k t,.slice aL m I,(r:Int)] E fun ar bA=>ar=.returned (.bool true)/\Below E.heap.size E bA:=by
 obtain ⟨y,W⟩:=eqx E.heap.size;obtain ⟨aT,ae⟩:=eqx (E.alloc (.cells (Array.replicate m (.bool false)) 4));have b4:Bk aT y 4 (mkV l m 0):=by rw [aH2,<-ae,<-W];exact Bk.new _ _ _
 have b3:Below y E aT:=by rw [<-ae,<-W];exact bR.alloc nL _
 have b9:0 < m:=oM;obtain ⟨A,D,rfl,aA,bb⟩:=(aZ.mono b2).2 b9;have bc:∀a,a < k->∀wr,Below y E wr->wr.cell? ⟨A,D+aB l a,none⟩=some (.int .i64 ((aI l a:Nat):Int)):=fun a ag wr aj=>by rw [W] at aA;refine (aj.cell aA).trans (bb _ _ ?_);rw [zAf,(aE.right a oM).2.2];rfl
 have ah:∃f j,0 < k->ak=some ⟨f,j,none⟩/\∀a,a < k->∀wr,Below y E wr->wr.cell? ⟨f,j+a*2,none⟩=some (.int .i64 ((aB l a:Nat):Int))/\wr.cell? ⟨f,j+a*2+1,none⟩=some (.int .i64 ((aI l a:Nat):Int)):=by rcases zBa k with aX | aX;exact ⟨0,0,fun q=>by omega⟩;obtain ⟨f,j,ar,az,H⟩:=(aY.mono b1).2 aX;rw [W] at az;refine ⟨f,j,fun _=>⟨ar,fun a ag wr aj=>?_⟩⟩;obtain ⟨a6,aH⟩:=cK l a oM;exact ⟨(aj.cell az).trans (H _ _ a6),(aj.cell az).trans (H _ _ aH)⟩
 obtain ⟨f,j,ah⟩:=ah;have bz:=aF5 m oM;have bL:m<=1001:=oM;obtain ⟨an,bm,P,bh,am,bj,bi,a9,aS⟩:=hqq9 bc ah aE ae W b4 b3 b0 b8;clear bc ah aE ae W b4 b3 b0 b8 aY aZ aA bb b1 b2;go_enter func69,ntmps69;rw [am.out];go_wp2_with fail;rw [bh.out]
 try rw [am.out]
 clear bz;go_loopw [8] (fun i wr=>∃a:Nat,a<=k/\i=.int .i64 (a:Int)/\Bk wr y 4 (mkV l m a)/\Below y E wr) (fun i _=>k -(intOf i).toNat)
 case atStart=>exact ⟨0,zAp _,rfl,bj.out,bi.out⟩
 case round=>
  obtain ⟨a,ag,rfl,J,v⟩:=hrel;by_cases L:a < k
  · obtain ⟨au,H⟩:=bm.out oM;subst au;obtain ⟨ap,aq⟩:=H a L wr v;have ac:=an.out a L wr v;have a1:=aS.out;obtain ⟨aJ,aK,be⟩:=P.out.right a (by rw [a9.out];exact L);obtain ⟨F,a4⟩:∃F,l[a]?=some F:=⟨_,zAa (by rw [a9.out];exact L)⟩;obtain ⟨u,U⟩:=eqx (aB l a);obtain ⟨n,V⟩:=eqx (aI l a);have a5:F.2=n:=(by rw [<-V];unfold aI;rw [zAb,a4];rfl);have G:=J.set n (.bool true);rw [<-a5,aFp a4,a5] at G;rw [U] at ap ac aJ;rw [V] at aq ac aK;have ad:=J.frozen n;have ab:wr.cell? ⟨y,n,none⟩=some (.bool (mkB l a n)):=(J.cell n).trans (lQ l a oM);have O:=v.setCell (p:=⟨y,n,none⟩) nL (.bool true);have aU:decide ((u:Int)>=(m:Int))=false:=zBy oM;have aW:decide (m<=u)=false:=zBy oM;have bd:(u:Int) < (m:Int):=oM;have bO:(n:Int) < (m:Int):=oM;have bP:(a:Int) < (k:Int):=oM;have b7:(mkV l m a).setIfInBounds n (.bool true)=mkV l m (a+1):=(by rw [<-a5];exact aFp a4);obtain ⟨aR,aQ⟩:=hqq2 b7 (show n < m by omega);have ai:y<=wr.heap.size:=(by rw [<-am.out];exact v.size);clear b7;by_cases b6:a=0
    · have bu:decide ((a:Int) > 0)=false:=zBy oM;have bv:decide (0 < a)=false:=zBy oM;have a0:∀e,Grow wr e->e.cell? ⟨f,j+a*2,none⟩=some (.int .i64 (u:Int))/\e.cell? ⟨f,j+a*2+1,none⟩=some (.int .i64 (n:Int))/\e.cell? ⟨A,D+u,none⟩=some (.int .i64 (n:Int)):=fun e c=>by have X:=v.trans (c.mono ai);obtain ⟨a7,a8⟩:=H a L e X;have T:=an.out a L e X;rw [U] at a7 T;rw [V] at a8 T;exact ⟨a7,a8,T⟩
      obtain ⟨x,Z,M⟩:=hqq3 a0 v J;clear a0 a1 H aJ aK be a4 a5 U V J v G O ag b6 ap aq ac ad ab;go_wp2_with fail;refine wp_region_any kR ?_;refine aV [20,21,22,23,24,25,26,27,28,29,30,31,32,33,34,35,36,37,38,39,40,41,42,43,44,45,46,47,48,49,50,51,52,53,54,55,56,57,58,59,60,61,62,63,64,65,66,67,68,69] Grow (Vs [is (.slice (some ⟨f,j,none⟩) k t),is (a:Int),is (.pointer (some ⟨f,j+a*2,none⟩)),is (.pointer (some ⟨f,j+a*2,none⟩)),is (u:Int),is (.bool false),is (.bool false),is (.slice (some ⟨f,j,none⟩) k t),is (a:Int),is (.pointer (some ⟨f,j+a*2,none⟩)),is (.pointer (some ⟨f,j+a*2,none⟩)),is (u:Int),is (.slice (some ⟨A,D,none⟩) m I),is (m:Int),is (.bool false),is (.bool false),is (.bool false),is (.slice (some ⟨A,D,none⟩) m I),is (.slice (some ⟨f,j,none⟩) k t),is (a:Int),is (.pointer (some ⟨f,j+a*2,none⟩)),is (.pointer (some ⟨f,j+a*2,none⟩)),is (u:Int),is (.pointer (some ⟨A,D+u,none⟩)),is (n:Int),is (.slice (some ⟨f,j,none⟩) k t),is (a:Int),is (.pointer (some ⟨f,j+a*2,none⟩)),is (.pointer (some ⟨f,j+a*2+1,none⟩)),is (n:Int),is (.bool false),is (.bool false),is (.bool false),is (a:Int),is (.bool false),is (.bool false),is undef,is undef,is undef,is undef,is undef,is undef,is undef,is undef,is undef,is undef,is undef,is undef,is (.bool false),is (.bool false)]) _ _ rfl kR bR (fun _ _=>Grow.trans) (nP tA2) ?_ ?_
      · refine aO ?_;refine pH 0 (.slice (some ⟨f,j,none⟩) k t) ?_;refine pH 8 (.int .i64 (a:Int)) ?_;refine pW 0 20 1 21 ?_;refine pV 2 22 ?_;refine sC (fun _ e c _ _ _ o _ _ _ s=>?_) ?_
        · have bo:_=_:=o 3 23 kR rfl;replace c:Grow wr e:=gD c;obtain ⟨k0,B,C⟩:=x.out e c;go_simp;exact s _ _ bR rfl
        refine pV 4 24 ?_;refine pV 5 25 ?_;refine gH 26 false 0 (.slice (some ⟨f,j,none⟩) k t) ?_;refine gH 26 false 8 (.int .i64 (a:Int)) ?_;refine gW 26 false 7 27 8 28 ?_;refine gV 26 false 9 29 ?_;refine sG 26 false (fun _ e c _ _ _ o _ _ _ s=>?_) ?_
        · have bp:_=_:=o 10 30 kR rfl;replace c:Grow wr e:=gD c;obtain ⟨k0,B,C⟩:=x.out e c;go_simp;exact s _ _ bR rfl
        refine gH 26 false 1 (.slice (some ⟨A,D,none⟩) m I) ?_;refine gV 26 false 12 32 ?_;refine gW 26 false 11 31 13 33 ?_;refine pW 6 26 14 34 ?_;refine pV 15 35 ?_;refine gH 36 false 1 (.slice (some ⟨A,D,none⟩) m I) ?_;refine gH 36 false 0 (.slice (some ⟨f,j,none⟩) k t) ?_;refine gH 36 false 8 (.int .i64 (a:Int)) ?_;refine gW 36 false 18 38 19 39 ?_;refine gV 36 false 20 40 ?_;refine sG 36 false (fun _ e c _ _ _ o _ _ _ s=>?_) ?_
        · have bq:_=_:=o 21 41 kR rfl;replace c:Grow wr e:=gD c;obtain ⟨k0,B,C⟩:=x.out e c;go_simp;exact s _ _ bR rfl
        refine gW 36 false 17 37 22 42 ?_;refine sG 36 false (fun _ e c _ _ _ o _ _ _ s=>?_) ?_
        · have br:_=_:=o 23 43 kR rfl;replace c:Grow wr e:=gD c;obtain ⟨k0,B,C⟩:=x.out e c;go_simp;exact s _ _ bR rfl
        refine gH 36 false 0 (.slice (some ⟨f,j,none⟩) k t) ?_;refine gH 36 false 8 (.int .i64 (a:Int)) ?_;refine gW 36 false 25 45 26 46 ?_;refine gV 36 false 27 47 ?_;refine sG 36 false (fun _ e c _ _ _ o _ _ _ s=>?_) ?_
        · have bs:_=_:=o 28 48 kR rfl;replace c:Grow wr e:=gD c;obtain ⟨k0,B,C⟩:=x.out e c;go_simp;exact s _ _ bR rfl
        refine gW 36 false 24 44 29 49 ?_;refine pW 16 36 30 50 ?_;refine pV 31 51 ?_;refine gH 52 false 8 (.int .i64 (a:Int)) ?_;refine gV 52 false 33 53 ?_;refine gV 52 false 34 54 ?_;refine aC ?_ ?_;exact dO (d:=55) (b:=false) rfl rfl rfl kR (fun _ _ _ q=>q) (fun _=>Below.refl _ _) (fun _=>rfl);refine aC ?_ ?_;exact dO (d:=55) (b:=false) rfl rfl rfl kR (fun _ _ _ q=>q) (fun _=>Below.refl _ _) (fun _=>rfl);refine aC ?_ ?_;exact dO (d:=55) (b:=false) rfl rfl rfl kR (fun _ _ _ q=>q) (fun _=>Below.refl _ _) (fun _=>rfl);refine aC ?_ ?_;exact dO (d:=55) (b:=false) rfl rfl rfl kR (fun _ _ _ q=>q) (fun _=>Below.refl _ _) (fun _=>rfl);refine aC ?_ ?_;exact dO (d:=55) (b:=false) rfl rfl rfl kR (fun _ _ _ q=>q) (fun _=>Below.refl _ _) (fun _=>rfl);refine aC ?_ ?_;exact dO (d:=55) (b:=false) rfl rfl rfl kR (fun _ _ _ q=>q) (fun _=>Below.refl _ _) (fun _=>rfl);refine aC ?_ ?_;exact dO (d:=55) (b:=false) rfl rfl rfl kR (fun _ _ _ q=>q) (fun _=>Below.refl _ _) (fun _=>rfl);refine aC ?_ ?_;exact dO (d:=55) (b:=false) rfl rfl rfl kR (fun _ _ _ q=>q) (fun _=>Below.refl _ _) (fun _=>rfl);refine aC ?_ ?_;exact dO (d:=55) (b:=false) rfl rfl rfl kR (fun _ _ _ q=>q) (fun _=>Below.refl _ _) (fun _=>rfl);refine aC ?_ ?_;exact dO (d:=55) (b:=false) rfl rfl rfl kR (fun _ _ _ q=>q) (fun _=>Below.refl _ _) (fun _=>rfl);refine aC ?_ ?_;exact dO (d:=55) (b:=false) rfl rfl rfl kR (fun _ _ _ q=>q) (fun _=>Below.refl _ _) (fun _=>rfl);refine aC ?_ ?_;exact dO (d:=55) (b:=false) rfl rfl rfl kR (fun _ _ _ q=>q) (fun _=>Below.refl _ _) (fun _=>rfl);refine gW 52 false 35 55 47 67 ?_;refine pW 32 52 48 68 ?_;exact aD
      · intro aw R c o;replace c:Grow wr R:=gD c;have av:aw (.tmp 69)=.bool false:=o 49 69 rfl;simp only [zqq];rw [av];clear o;have a3:=Z.out.trans (c.mono ai);have K:=M.out.below c M.out.lt;obtain ⟨k0,B,C⟩:=x.out R c;have ad:=K.frozen n;have ab:R.cell? ⟨y,n,none⟩=some (.bool (mkB l a n)):=(K.cell n).trans (lQ l a aQ.out);have G:=K.set n (.bool true);rw [aR.out] at G;have O:=a3.setCell (p:=⟨y,n,none⟩) nL (.bool true);obtain ⟨ao,al⟩:=hqq2 G O;clear c a3 K G O;go_wp2_with fail;go_roundw
        case rel=>exact ⟨a+1,by omega,by go_num,ao.out,al.out⟩
        case measure=>simp [intOf];omega
    · have aG:=P.out.rise (a - 1) (by rw [a9.out];omega);rw [show a - 1+1=a by omega,U] at aG;obtain ⟨a6,aH⟩:=H (a - 1) oM wr v;obtain ⟨aa,ax⟩:=eqx (aB l (a - 1));rw [ax] at a6 aG;have bu:decide ((a:Int) > 0)=true:=zBz oM;have bv:decide (0 < a)=true:=zBz oM;obtain ⟨Y,aF⟩:=eqx (a - 1);rw [aF] at a6;have au:IntKind.i64.wrap ((a:Int) - 1)=(Y:Int):=(by rw [IntKind.wrap_i64];omega);have bF:decide ((u:Int)<=(aa:Int))=false:=zBy oM;have bG:decide (u<=aa)=false:=zBy oM;have bQ:(Y:Int) < (k:Int):=oM;have a0:∀e,Grow wr e->e.cell? ⟨f,j+a*2,none⟩=some (.int .i64 (u:Int))/\e.cell? ⟨f,j+a*2+1,none⟩=some (.int .i64 (n:Int))/\e.cell? ⟨A,D+u,none⟩=some (.int .i64 (n:Int))/\e.cell? ⟨f,j+Y*2,none⟩=some (.int .i64 (aa:Int)):=fun e c=>by have X:=v.trans (c.mono ai);obtain ⟨a7,a8⟩:=H a L e X;have T:=an.out a L e X;have bg:=(H (a - 1) oM e X).1;rw [U] at a7 T;rw [V] at a8 T;rw [ax,aF] at bg;exact ⟨a7,a8,T,bg⟩
      obtain ⟨x,Z,M⟩:=hqq3 a0 v J;clear a0 a1 H aJ aK be a4 a5 U V J v G O ag b6 aG ax aF a6 aH ap aq ac ad ab;go_wp2_with fail;refine wp_region_any kR ?_;refine aV [20,21,22,23,24,25,26,27,28,29,30,31,32,33,34,35,36,37,38,39,40,41,42,43,44,45,46,47,48,49,50,51,52,53,54,55,56,57,58,59,60,61,62,63,64,65,66,67,68,69] Grow (Vs [is (.slice (some ⟨f,j,none⟩) k t),is (a:Int),is (.pointer (some ⟨f,j+a*2,none⟩)),is (.pointer (some ⟨f,j+a*2,none⟩)),is (u:Int),is (.bool false),is (.bool false),is (.slice (some ⟨f,j,none⟩) k t),is (a:Int),is (.pointer (some ⟨f,j+a*2,none⟩)),is (.pointer (some ⟨f,j+a*2,none⟩)),is (u:Int),is (.slice (some ⟨A,D,none⟩) m I),is (m:Int),is (.bool false),is (.bool false),is (.bool false),is (.slice (some ⟨A,D,none⟩) m I),is (.slice (some ⟨f,j,none⟩) k t),is (a:Int),is (.pointer (some ⟨f,j+a*2,none⟩)),is (.pointer (some ⟨f,j+a*2,none⟩)),is (u:Int),is (.pointer (some ⟨A,D+u,none⟩)),is (n:Int),is (.slice (some ⟨f,j,none⟩) k t),is (a:Int),is (.pointer (some ⟨f,j+a*2,none⟩)),is (.pointer (some ⟨f,j+a*2+1,none⟩)),is (n:Int),is (.bool false),is (.bool false),is (.bool false),is (a:Int),is (.bool true),is (.bool true),is (.slice (some ⟨f,j,none⟩) k t),is (a:Int),is (.pointer (some ⟨f,j+a*2,none⟩)),is (.pointer (some ⟨f,j+a*2,none⟩)),is (u:Int),is (.slice (some ⟨f,j,none⟩) k t),is (a:Int),is (Y:Int),is (.pointer (some ⟨f,j+Y*2,none⟩)),is (.pointer (some ⟨f,j+Y*2,none⟩)),is (aa:Int),is (.bool false),is (.bool false),is (.bool false)]) _ _ rfl kR bR (fun _ _=>Grow.trans) (nP tA2) ?_ ?_
      · refine aO ?_;refine pH 0 (.slice (some ⟨f,j,none⟩) k t) ?_;refine pH 8 (.int .i64 (a:Int)) ?_;refine pW 0 20 1 21 ?_;refine pV 2 22 ?_;refine sC (fun _ e c _ _ _ o _ _ _ s=>?_) ?_
        · have bo:_=_:=o 3 23 kR rfl;replace c:Grow wr e:=gD c;obtain ⟨k0,B,C,Q⟩:=x.out e c;go_simp;exact s _ _ bR rfl
        refine pV 4 24 ?_;refine pV 5 25 ?_;refine gH 26 false 0 (.slice (some ⟨f,j,none⟩) k t) ?_;refine gH 26 false 8 (.int .i64 (a:Int)) ?_;refine gW 26 false 7 27 8 28 ?_;refine gV 26 false 9 29 ?_;refine sG 26 false (fun _ e c _ _ _ o _ _ _ s=>?_) ?_
        · have bp:_=_:=o 10 30 kR rfl;replace c:Grow wr e:=gD c;obtain ⟨k0,B,C,Q⟩:=x.out e c;go_simp;exact s _ _ bR rfl
        refine gH 26 false 1 (.slice (some ⟨A,D,none⟩) m I) ?_;refine gV 26 false 12 32 ?_;refine gW 26 false 11 31 13 33 ?_;refine pW 6 26 14 34 ?_;refine pV 15 35 ?_;refine gH 36 false 1 (.slice (some ⟨A,D,none⟩) m I) ?_;refine gH 36 false 0 (.slice (some ⟨f,j,none⟩) k t) ?_;refine gH 36 false 8 (.int .i64 (a:Int)) ?_;refine gW 36 false 18 38 19 39 ?_;refine gV 36 false 20 40 ?_;refine sG 36 false (fun _ e c _ _ _ o _ _ _ s=>?_) ?_
        · have bq:_=_:=o 21 41 kR rfl;replace c:Grow wr e:=gD c;obtain ⟨k0,B,C,Q⟩:=x.out e c;go_simp;exact s _ _ bR rfl
        refine gW 36 false 17 37 22 42 ?_;refine sG 36 false (fun _ e c _ _ _ o _ _ _ s=>?_) ?_
        · have br:_=_:=o 23 43 kR rfl;replace c:Grow wr e:=gD c;obtain ⟨k0,B,C,Q⟩:=x.out e c;go_simp;exact s _ _ bR rfl
        refine gH 36 false 0 (.slice (some ⟨f,j,none⟩) k t) ?_;refine gH 36 false 8 (.int .i64 (a:Int)) ?_;refine gW 36 false 25 45 26 46 ?_;refine gV 36 false 27 47 ?_;refine sG 36 false (fun _ e c _ _ _ o _ _ _ s=>?_) ?_
        · have bs:_=_:=o 28 48 kR rfl;replace c:Grow wr e:=gD c;obtain ⟨k0,B,C,Q⟩:=x.out e c;go_simp;exact s _ _ bR rfl
        refine gW 36 false 24 44 29 49 ?_;refine pW 16 36 30 50 ?_;refine pV 31 51 ?_;refine gH 52 false 8 (.int .i64 (a:Int)) ?_;refine gV 52 false 33 53 ?_;refine gV 52 false 34 54 ?_;refine gH 55 true 0 (.slice (some ⟨f,j,none⟩) k t) ?_;refine gH 55 true 8 (.int .i64 (a:Int)) ?_;refine gW 55 true 36 56 37 57 ?_;refine gV 55 true 38 58 ?_;refine sG 55 true (fun _ e c _ _ _ o _ _ _ s=>?_) ?_
        · have bD:_=_:=o 39 59 kR rfl;replace c:Grow wr e:=gD c;obtain ⟨k0,B,C,Q⟩:=x.out e c;go_simp;exact s _ _ bR rfl
        refine gH 55 true 0 (.slice (some ⟨f,j,none⟩) k t) ?_;refine gH 55 true 8 (.int .i64 (a:Int)) ?_;refine gV 55 true 42 62 ?_;refine gW 55 true 41 61 43 63 ?_;refine gV 55 true 44 64 ?_;refine sG 55 true (fun _ e c _ _ _ o _ _ _ s=>?_) ?_
        · have bE:_=_:=o 45 65 kR rfl;replace c:Grow wr e:=gD c;obtain ⟨k0,B,C,Q⟩:=x.out e c;go_simp;exact s _ _ bR rfl
        refine gW 55 true 40 60 46 66 ?_;refine gW 52 false 35 55 47 67 ?_;refine pW 32 52 48 68 ?_;exact aD
      · intro aw R c o;replace c:Grow wr R:=gD c;have av:aw (.tmp 69)=.bool false:=o 49 69 rfl;simp only [zqq];rw [av];clear o;have a3:=Z.out.trans (c.mono ai);have K:=M.out.below c M.out.lt;obtain ⟨k0,B,C,Q⟩:=x.out R c;have ad:=K.frozen n;have ab:R.cell? ⟨y,n,none⟩=some (.bool (mkB l a n)):=(K.cell n).trans (lQ l a aQ.out);have G:=K.set n (.bool true);rw [aR.out] at G;have O:=a3.setCell (p:=⟨y,n,none⟩) nL (.bool true);obtain ⟨ao,al⟩:=hqq2 G O;clear c a3 K G O;go_wp2_with fail;go_roundw
        case rel=>exact ⟨a+1,by omega,by go_num,ao.out,al.out⟩
        case measure=>simp [intOf];omega
  · have bx:a=k:=oM;subst bx;have c:∀i,mkB l a i=true↔Smp l i:=fun i=>by rw [<-a9.out];exact aJi l i
    obtain ⟨M,Z,aP⟩:=hqq3 J v c;clear J v c;go_wp2_with fail;go_loopw [9,10] (fun g i bB=>∃w F:Nat,w<=m/\i=.int .i64 (w:Int)/\g=.int .i64 (F:Int)/\aAD (Smp l) w F/\F<=w/\bB=wr) (fun _ i _=>m -(intOf i).toNat)
    case atStart=>exact ⟨0,0,zAp _,rfl,rfl,.inl ⟨rfl,rfl⟩,zAs _,rfl⟩
    case round=>
        obtain ⟨w,F,bJ,rfl,rfl,af,bN,rfl⟩:=hrel;by_cases bw:w < m
        · have bn:wr.cell? ⟨y,w,none⟩=some (.bool (mkB l a w)):=(M.out.cell w).trans (lQ l a bw);have bd:(w:Int) < (m:Int):=oM;have a1:=aS.out;obtain ⟨z,v⟩:=eqx (mkB l a w);rw [v] at bn;have a2:=aP.out w;rw [v] at a2;cases z with
          | true=>
            have b5:aAD (Smp l) (w+1) 0:=aJp (a2.1 rfl);have bH:=P.out.rate;have aU:decide ((0:Int)>=(r:Int))=false:=zBy oM;have aW:decide (r=0)=false:=zBy oM;have bl:=lhd b5;clear a1 v a2 b5 af;go_wp2_with fail;go_roundw
            case rel=>exact ⟨w+1,0,by omega,by go_num,by first | rfl | trivial,bl.out,zAp _,by first | rfl | trivial⟩
            case measure=>simp [intOf];omega
          | false=>
            have ba:¬Smp l w:=fun bt=>by have:=a2.2 bt;cases this
            have ay:=aKe P.out.zero ba af;have L:=aKf P.out.gap P.out.rate ay oM;have au:((F+1:Nat):Int)=(F:Int)+1:=oM;have aU:decide ((F:Int)+1>=(r:Int))=false:=zBy oM;have aW:decide (r<=F+1)=false:=zBy oM;have bk:=lhd ay;clear a1 v a2 ay af ba;go_wp2_with fail;go_roundw
            case rel=>exact ⟨w+1,F+1,by omega,by go_num,by go_num,bk.out,by omega,by first | rfl | trivial⟩
            case measure=>simp [intOf];omega
        · have bC:wr.cell? ⟨y,0,none⟩=some (.bool true):=(by rw [M.out.cell 0];have:mkB l a 0=true:=(aP.out 0).2 P.out.zero;rw [<-this];exact lQ l a b9);have bd:(0:Int) < (m:Int):=oM;clear af;go_wp2_with fail;go_ret;exact ⟨rfl,Z.out⟩
end Go.Proofs.YthldmddkfbijhaaGreatDoor
