/- Lemmas of the walk. Conditions: each its own. -/
import Derived.Test.YtihaijbgmjdhgaaGreatDoorPp10
import Derived.Test.YtihaijbgmjdhgaaGreatDoorPp11
import Derived.Test.YtihaijbgmjdhgaaGreatDoorProg
import Derived.Test.YtihaijbgmjdhgaaGreatDoorShl
set_option linter.all false
set_option maxRecDepth 100000
set_option maxHeartbeats 4000000
open Go.Proofs.Tryz
namespace Go.Proofs.YtihaijbgmjdhgaaGreatDoor
section
open Go.RowKit
def fF (a:List Nat) (b:Nat):Nat:=a.getD ((b+a.length - 1)% a.length) 0
def aS (a b:List Nat):List Nat:=b.map (fF a)
theorem dZ (b a:List Nat):(aS b a).length=a.length:=by simp [aS]
theorem aBI {a:List Nat} (d:∀e∈a,e < 257) (b:Nat):fF a b < 257:=by
 unfold fF;rw [zAb];cases c:a[(b+a.length - 1)% a.length]? with
 | none=>simp
 | some f=>simpa using d f (zAd c)
theorem iR {b rs:List Nat} (c:∀a∈b,a < 257):∀a∈aS b rs,a < 257:=by
 intro a d;obtain ⟨e,_,rfl⟩:=zAx.1 d;exact aBI c e
theorem aAe (a:Nat) (g:a<=1000000) (w:World):(Instr.makeSlice 39 (.int .i64 0) (.int .i64 (a:Int))).run prog w=.ok (.slice (some w.heap.size) 0 a) (w.alloc (.cells (madeCells #[.int .i64 0] a) 3)):=by
 obtain ⟨f,b,c,d,e⟩:=info_parts gQ;have:=run_make (P:=prog) w 39 3 f (.int .i64 0) underlying39 b c .i64 .i64 0 a oM oM (by rw [e];omega) oM;rw [this,d];simp only [Value.cells,zBp,zBk];rfl
theorem uO {w b:World} {j i:Nat} {a:Option Addr} {k:List Value} {row:Option Nat} (e:Rd w w.heap.size j a i k) (g:w.grownBy b row) (m:∀c,a=some c->row≠some c.block):Rd b b.heap.size j a i k:=by
 refine ⟨e.1,fun o=>?_⟩;obtain ⟨d,r,rfl,f,n⟩:=e.2 o;refine ⟨d,r,rfl,zAl f g.size,fun q s p=>?_⟩;rw [World.cell?_of_block (w:=w) (g.block d f (fun l=>m _ rfl l.symm))];exact n q s p
def Apt (c:Value) (b:Option Addr):Prop:=∀a,b=some a->c.ownBlock≠some a.block
theorem Apt.next {i e:Value} {c:Option Addr} {f:Nat} (j:Apt i c) (l:e.ownBlock=i.ownBlock∨e.ownBlock=some f) (k:∀a,c=some a->a.block < f):Apt e c:=by
 intro a g b;rcases l with d | d;exact j a g (d.symm.trans b);rw [d] at b;injection b with b;have:=k a g;omega
theorem jB (n:Option Addr) (f u B:Nat) (d:List UInt8) (w:World) (U:Rd w B 1 n f (d.map bv)) (ab:B<=w.heap.size) (b6:f<=200):
 Calls prog 107 #[.slice n f u] w fun J au=>∃i k l,IsSuf (aJ d) i/\J=.returned (.slice k (f+1) l)/\Made au w.heap.size 3 1 k (f+1) l ((aS (aJ d) i).map sv)/\Below w.heap.size w au:=by
 obtain ⟨bd,b2,ba,bb,bc⟩:=info_parts gQ;have aq:d.length=f:=by simpa using U.1
 obtain ⟨a9,aK⟩:=hqq2 U aq;clear U aq;go_enter func107,ntmps107;go_wp2_with fail;obtain ⟨a,y⟩:=eqx (f+1);have W:=pF w.heap.size 0 n f u w.heap.size d (w.alloc (.cells #[.slice n f u] 22)) (Bk.new _ _ _) ((a9.out.mono ab).alloc nL _) (by simp) oM;have V:=fun aa (m:Below w.heap.size w aa)=>jA n f u w.heap.size d aa ((a9.out.mono ab).below m) m.size b6;simp only [y] at W V;have bm:a<=201:=oM;have bl:1<=a:=oM;have ai:(aJ d).length=a:=by rw [aT,aK.out,y]
 obtain ⟨a2,F,a3⟩:=hqq3 y ai V;clear y ai V;refine W.mono ?_;clear W;rintro J w1 ⟨D,bi,rfl,ak,af⟩;have ag:=((Below.refl w.heap.size w).alloc nL _).trans (af.mono (by simp));have be:=aAe a oM;obtain ⟨G,t⟩:=hqq2 ak ag;clear ak af ag;go_wp2_with fail;clear be;have q:=t.out.alloc t.out.size (.cells (madeCells #[.int .i64 0] a) 3);have N:=G.out.below (bR.alloc nL (.cells (madeCells #[.int .i64 0] a) 3));have g:(w1.alloc (.cells (madeCells #[.int .i64 0] a) 3)).ownsRow w.heap.size 3 1 (.slice (some w1.heap.size) 0 a) 0 []:=World.ownsRow_made _ _ _ t.out.size (by unfold maxLen;omega) (by simp [madeCells]);obtain ⟨p,L⟩:=eqx w1.heap.size;have b1:p < (w1.alloc (.cells (madeCells #[.int .i64 0] a) 3)).heap.size:=by rw [<-L];simp
 have ac:Apt (.slice (some p) 0 a) D:=by
  intro b c m;obtain ⟨aw,aO,j,_,K⟩:=aQ G.out.own;injection j with j;have:=(K b (j.symm.trans c)).2;have aR:p=b.block:=by simpa [Value.ownBlock] using m
  omega
 have ax:=lhd ac;clear ac;rw [L] at g⊢;generalize w1.alloc (.cells (madeCells #[.int .i64 0] a) 3)=W2 at q N g b1⊢;obtain ⟨a5,a4⟩:=hqq2 g N;clear g N G t L;refine (a3.out W2 q).mono ?_;rintro J bu ⟨i,E,bj,ao,rfl,O,v⟩;have ah:=q.trans (v.mono q.size);have am:=aH a5.out v;have al:=a4.out.below v;have ad:Apt (.slice (some p) 0 a) E:=by
  intro b c m;obtain ⟨aw,aO,j,_,K⟩:=aQ O.own;injection j with j;have:=(K b (j.symm.trans c)).1;have aR:p=b.block:=by simpa [Value.ownBlock] using m
  omega
 have ay:=lhd ad;clear ad;obtain ⟨H,aC,aB,aD,az⟩:=hqq5 ao O.rd al.rd am ah;clear ao O al am ah v q a5 a4 a3;go_wp2_with fail;go_loopw [4,6,16] (fun a1 _ Z wr=>∃e:Nat,e<=a/\Z=.int .i64 e/\wr.ownsRow w.heap.size 3 1 a1 e ((aS (aJ d) (i.take e)).map sv)/\Below w.heap.size w wr/\Apt a1 D/\Apt a1 E/\Rd wr wr.heap.size 1 D a ((aJ d).map sv)/\Rd wr wr.heap.size 1 E a (i.map sv)) (fun _ _ Z _=>a -(intOf Z).toNat)
 case atStart=>exact ⟨0,by omega,rfl,aD.out,az.out,ax.out,ay.out,aB.out,aC.out⟩
 case round=>
  obtain ⟨e,bk,rfl,g,x,S,T,z,A⟩:=hrel;by_cases b5:e < a
  · obtain ⟨aM,bf,bq,rfl,aU,X,aX⟩:=A.get b5;rw [zAf] at X;obtain ⟨s,Q,rfl⟩:=Option.map_eq_some_iff.1 X;have bn:s < a:=(by have:=H.out.lt (zAd Q);rw [F.out] at this;exact this);obtain ⟨a0,r⟩:=eqx ((s+a - 1)% a);have b9:a0 < a:=(by rw [<-r];exact Nat.mod_lt _ oM);obtain ⟨aN,bg,br,rfl,aV,Y,aZ⟩:=z.get b9;rw [zAf] at Y;obtain ⟨av,ar,rfl⟩:=Option.map_eq_some_iff.1 Y;have an:fF (aJ d) s=av:=(by unfold fF;rw [F.out,r,zAb,ar];rfl);have ap:aS (aJ d) (i.take (e+1))=aS (aJ d) (i.take e)++ [av]:=(by rw [zAu,Q,aS,zAy,<-an];rfl);unfold sv at aX aZ;have b8:((s:Int)+(a:Int) - 1)%(a:Int)=(a0:Int):=(by rw [<-r,Int.natCast_emod];congr 1;omega);have bo:((s:Int)+(a:Int) - 1).tmod (a:Int)=(a0:Int):=(by rw [Int.tmod_eq_emod_of_nonneg oM];exact b8);obtain ⟨aI,a6,a7,a8,o,aE,aG,bh⟩:=hqq8 ap g S T x z A r;clear X Y ar an ap g x S T z A r Q;go_wp2_with (at_builtin;refine aY _ rfl (.tmp 20) (.tmp 32) _ rfl w.heap.size 3 bd (.int .i64 0) 1 8 underlying39 b2 ba bb bc rfl dC _ e _ rfl a6.out rfl rfl (by simp [Value.oneCell']) (by unfold maxLen;omega) oM o.out.size ?_;intro bs bt b7 M bp ae);have aW:=aL o.out a6.out M o.out.size;have b3:∀b,some (⟨aN,bg,none⟩:Addr)=some b->b.block < _:=fun b c=>by injection c with c;subst c;exact aV
    have b4:∀b,some (⟨aM,bf,none⟩:Addr)=some b->b.block < _:=fun b c=>by injection c with c;subst c;exact aU
    go_roundw
    case rel=>refine ⟨e+1,by omega,by go_num,?_,aW,a7.out.next ae (fun b c=>Nat.lt_succ_of_lt (b3 b c)),a8.out.next ae (fun b c=>Nat.lt_succ_of_lt (b4 b c)),uO aE.out M a7.out,uO aG.out M a8.out⟩;rw [aI.out,zAy];exact b7
    case measure=>simp [intOf];omega
  · obtain rfl:a=e:=oM;rw [zAg (by rw [H.out.len,F.out];omega)] at g;obtain ⟨k,l,rfl,aj⟩:=aF g;obtain ⟨aA,o⟩:=hqq2 aj x;clear g aj x S T z A;go_wp2_with fail;go_ret;have b0:∀I,Made wr w.heap.size 3 1 k a l I->Made wr w.heap.size 3 1 k (f+1) l I:=fun I aP=>by rw [a2.out];exact aP
    exact ⟨i,k,l,H.out,by rw [a2.out];rfl,b0 _ aA.out,o.out⟩
theorem WaveAt.mono {w:World} {B B' b:Nat} {a:List Nat} (e:WaveAt w B b a) (c:B'<=B):WaveAt w B' b a:=by
 obtain ⟨f,d,l,g,i⟩:=e;exact ⟨zAk c f,d,l,g,fun k j=>(i k j).mono c⟩
def WalkAt (w:World) (B gk:Nat) (a:List Nat):Prop:=
 ∃c b,Bk w gk 176 #[.pointer (some ⟨c,0,none⟩),.pointer (some ⟨b,0,none⟩)]/\WaveAt w B c a/\Bk w b 245 (tcells a)
theorem WalkAt.vis {w w':World} {B gk:Nat} {b:List Nat} (e:WalkAt w B gk b) (a:Vis w w'):WalkAt w' B gk b:=by
 obtain ⟨d,c,f,g,i⟩:=e;exact ⟨d,c,a.bk f dC dC,g.vis a,a.bk i dC dC⟩
theorem WalkAt.mono {w:World} {B B' gk:Nat} {a:List Nat} (d:WalkAt w B gk a) (i:B'<=B):WalkAt w B' gk a:=by
 obtain ⟨c,b,e,f,g⟩:=d;exact ⟨c,b,e,f.mono i,g⟩
theorem vL (B b:Nat) (a:List Nat) (w:World) (f:WaveAt w B b a):
 Calls prog 151 #[b] w fun e i=>e=.returned (.int .i64 (a.length:Int))/\w=i:=by
 obtain ⟨_,d,g,c,_⟩:=f;have j:w.cell? ⟨b,9,none⟩=some (.int .i64 (a.length:Int)):=by rw [c.cell];have:=bJ d (a.length:Int) g;simp [this]
 clear c;go_enter func151,ntmps151;go_wp2;go_ret;exact ⟨rfl,rfl⟩
theorem nE (B gk:Nat) (a:List Nat) (w:World) (f:WalkAt w B gk a):
 Calls prog 87 #[gk] w fun b d=>b=.returned (.int .i64 (a.length:Int))/\w=d:=by
 obtain ⟨e,k,c,g,i⟩:=f;have j:=c.cell 0;clear c i;go_enter func87,ntmps87;go_wp2_with fail;refine (vL B e a _ g).mono ?_;rintro b d ⟨rfl,rfl⟩;go_wp2_with fail;go_ret;exact ⟨rfl,rfl⟩
theorem qC (B gk:Nat) (a:List Nat) (b:Nat) (w:World) (m:WalkAt w B gk a) (q:b < 257) (p:a.length<=1000):
 Calls prog 159 #[gk,(b:Int)] w fun d j=>d=.returned (.int .i64 ((a.countP (fun c=>decide (c < b)):Nat):Int))/\Below w.heap.size w j:=by
 obtain ⟨s,l,e,n,f⟩:=m;have r:=e.cell 1;clear e n;have k:=lhd f;clear f;go_enter func159,ntmps159;go_wp2_with fail;refine (iZ l a b _ k.out q p).mono ?_;rintro d j ⟨rfl,o⟩;obtain ⟨i,g⟩:∃i,a.countP (fun c=>decide (c < b))=i:=⟨_,rfl⟩;rw [g];go_wp2_with fail;go_ret;exact ⟨by rw [g];rfl,o⟩
def fB (a:List Nat) (b c:Nat):Nat:=a.countP (fun d=>decide (d < b))+(a.take c).count b
end
section
open Go.RowKit Go.Shelf
def iJ (a:Nat×Nat):List Value:= [.int .i64 (a.1:Int),.int .i64 (a.2:Int)]
def cX (C:List (Nat×Nat)):List Value:=C.flatMap iJ
def bC (C:List (Nat×Nat)) (a:Nat):Nat:=(C.getD a (0,0)).1
def eB (C:List (Nat×Nat)) (a:Nat):Nat:=(C.getD a (0,0)).2
theorem jY (C:List (Nat×Nat)):(cX C).length=C.length*2:=by
 induction C with
 | nil=>rfl
 | cons b a c=>
   have:cX (b::a)=iJ b++cX a:=rfl;rw [this,zAi,c];simp [iJ];omega
theorem iC (C:List (Nat×Nat)) (a:Nat) (c:a < C.length):(cX C)[a*2]?=some (.int .i64 ((bC C a:Nat):Int))/\(cX C)[a*2+1]?=some (.int .i64 ((eB C a:Nat):Int)):=by
 induction C generalizing a with
 | nil=>cases c
 | cons b d f=>
   have e:cX (b::d)=iJ b++cX d:=rfl;rcases a with _ | a;exact ⟨rfl,rfl⟩;have:=f a (by simpa using c);rw [e,zAo (by simp [iJ];omega),zAo (by simp [iJ];omega)];rw [show (a+1)*2 -(iJ b).length=a*2 by simp [iJ];omega,show (a+1)*2+1 -(iJ b).length=a*2+1 by simp [iJ];omega];exact this
structure PRd (W:World) (gb gp:Nat) (A:Option Addr) (n c:Nat) (C:List (Nat×Nat)):Prop where
 box:W.cell? gb=some (.pointer (some gp))
 sl:W.cell? ⟨gp,1,none⟩=some (.slice A n c)
 rd:Rd W W.heap.size 2 A n (cX C)
theorem PRd.below {a f:World} {c gp i g:Nat} {e:Option Addr} {C:List (Nat×Nat)} (d:PRd a c gp e i g C) (j:c < a.heap.size) (k:gp < a.heap.size) (b:Below a.heap.size a f):PRd f c gp e i g C:=
 ⟨(b.cell j).trans d.box,(b.cell k).trans d.sl,(d.rd.below b).mono b.size⟩
theorem PRd.drewN {c:World} {e gp f d:Nat} {b:Option Addr} {C:List (Nat×Nat)} (a:PRd c e gp b f d C) (g:Nat):PRd (c.drewN g) e gp b f d C:=⟨a.box,a.sl,a.rd⟩
theorem PRd.at {d:World} {l gp e j:Nat} {f:Option Addr} {C:List (Nat×Nat)} (g:PRd d l gp f e j C) {a:Nat} (o:a < C.length):
 a < e/\∃b c,f=some ⟨b,c,none⟩/\d.cell? ⟨b,c+a*2,none⟩=some (.int .i64 ((bC C a:Nat):Int))/\d.cell? ⟨b,c+a*2+1,none⟩=some (.int .i64 ((eB C a:Nat):Int)):=by
 have p:=g.rd.1;rw [jY] at p;have q:a < e:=oM;obtain ⟨b,c,k,_,i⟩:=g.rd.2 oM;obtain ⟨m,n⟩:=iC C a o;exact ⟨q,b,c,k,i _ _ m,by rw [Nat.add_assoc];exact i _ _ n⟩
theorem vX (f gp:Nat) (i:Option Addr) (m j:Nat) (C:List (Nat×Nat)) (a row:Nat) (b:World) (c:PRd b f gp i m j C) (l:a < C.length):
 Calls prog 183 #[(a:Int),(row:Int),f] b fun e g=>e=.returned (.int .i64 (Lib.compareInt (bC C a:Nat) row))/\b=g:=by
 obtain ⟨s,n,t,rfl,q,k⟩:=c.at l;have o:=c.box;have p:=c.sl;have d:=AnyG.cmp_Compare_int shCmp ((bC C a:Nat):Int) (row:Int) b;change Calls prog 184 _ _ _ at d;generalize Lib.compareInt (bC C a:Nat) row=r at d⊢;clear c k;go_enter func183,ntmps183;go_wp2_with fail;refine d.mono ?_;rintro e g ⟨rfl,rfl⟩;go_wp2_with fail;go_ret;exact ⟨rfl,rfl⟩
theorem tE (f g gp:Nat) (k:Option Addr) (p l:Nat) (C:List (Nat×Nat)) (d e:Nat) (a:World) (c:PRd a f gp k p l C) (y:a.cell? g=some (.int .i64 (e:Int))) (o:d < C.length):
 Calls prog 186 #[(d:Int),f,g] a fun b r=>b=.returned (.bool (decide (eB C d=e)))/\∃q,r=a.drewN q:=by
 obtain ⟨x,s,z,rfl,m,n⟩:=c.at o;have t:=c.box;have u:=c.sl;obtain ⟨j,i⟩:=eqx (eB C d);rw [i] at n⊢;clear c m i;by_cases b:j=e
 · subst b;go_enter func186,ntmps186;go_wp2;go_quiet (fail);go_wp2;go_ret;exact ⟨by simp,_,rfl⟩
 · have v:((j:Int)==(e:Int))=false:=(by simp;omega);go_enter func186,ntmps186;go_wp2;go_quiet (fail);go_wp2;go_ret;exact ⟨by simp [b],_,rfl⟩
end
section
open Go.RowKit Go.Shelf
open Go.Sort (Holds)
structure PermAt (w:World) (B gp ga:Nat) (vl vo vt vf:Value) (R P:Nat) (ks:List Nat) (C:List (Nat×Nat)) (tk:List Bool) (fr:List Nat):Prop where
 blk:Bk w gp 152 #[ga,vl,vo,(R:Int),(P:Int)]
 lrow:w.ownsRow B 146 2 vl C.length (cX C)
 orow:w.ownsRow B 3 1 vo ks.length (ks.map sv)
 ar:Bk w ga 204 #[vt,vf,.int .i64 268435456]
 trow:w.ownsRow B 4 1 vt tk.length (tk.map Value.bool)
 frow:w.ownsRow B 3 1 vf fr.length (fr.map sv)
 apart:vo.ownBlock=none∨vo.ownBlock≠vf.ownBlock
 lt:∀k∈ks,k < C.length
 lo:B<=gp/\B<=ga
theorem aCe {d:List Nat} {b:Nat->Nat} (j:d.Pairwise (fun i n=>b i < b n)) (g:Nat):∀(a e:Nat),d[a]?=some e->(b e < g↔a < d.countP fun k=>decide (b k < g)):=by
 induction d with
 | nil=>intro a e j;cases j
 | cons r d q=>
   obtain ⟨m,o⟩:=List.pairwise_cons.1 j;intro a e c;rw [zBl];by_cases f:b r < g
   · rcases a with _ | a
     · simp at c;subst c;simp [f]
     have:=q o a e (by simpa using c);simp only [f,decide_true,if_true];omega
   · have l:(d.countP fun k=>decide (b k < g))=0:=(by rw [List.countP_eq_zero];intro i p;have:=m i p;simp;omega);rcases a with _ | a
     · simp at c;subst c;simp [f,l]
     have s:=m e (zAd (by simpa using c));simp only [l,f,decide_false];simp;omega
theorem aAF {a:List Nat} {f:Nat->Nat} (i:a.Pairwise (fun o p=>f o < f p)) (k:Nat):(∃g,a[a.countP fun b=>decide (f b < k)]?=some g/\f g=k)↔∃b∈a,f b=k:=by
 constructor;rintro ⟨g,j,e⟩;exact ⟨g,zAd j,e⟩
 · rintro ⟨b,s,rfl⟩;obtain ⟨c,m,rfl⟩:=List.getElem_of_mem s;have l:=zAa m;have j:=aCe i (f a[c]) c _ l;have v:¬c < a.countP fun b=>decide (f b < f a[c]):=fun d=>by have:=j.2 d;omega
   rcases zBd (a.countP fun b=>decide (f b < f a[c])) c with e | e
   · have n:(a.countP fun b=>decide (f b < f a[c])) < a.length:=oM;have q:=zAa n;have r:=aCe i (f a[c]) _ _ q;have t:¬f a[a.countP fun b=>decide (f b < f a[c])] < f a[c]:=fun d=>by have:=r.1 d;omega
     have u:=zAr.1 i _ _ n m e;omega
   have d:(a.countP fun b=>decide (f b < f a[c]))=c:=oM;rw [d];exact ⟨_,l,rfl⟩
def fA (a:Nat) (ks:List Nat):Array (Fin (a+1)):=(ks.map fun b=>(⟨b %(a+1),Nat.mod_lt _ (Nat.succ_pos a)⟩:Fin (a+1))).toArray
theorem iQ {d:Nat} {ks:List Nat} (g:∀a∈ks,a < d+1) {c a:Nat} (b:ks[c]?=some a):((fA d ks)[c]!).val=a:=by
 have e:c < ks.length:=(zAc.1 b).1;have i:=g a (zAd b);have f:ks[c]=a:=by rw [zAa e] at b;injection b
 rw [aBW _ _ (by simpa [fA] using e)];simp [fA,f,zBs i]
theorem wZ {b:Nat} {ks:List Nat} (d:∀a∈ks,a < b+1) (c:Nat->Bool):(fA b ks).toList.countP (fun f=>c f.val)=ks.countP c:=by
 unfold fA;rw [List.countP_map];refine List.countP_congr fun a e=>?_;simp [zBs (d a e)]
theorem oQ {w:World} {b f:Nat} {ks:List Nat} {c:Array Value} (g:Bk w f 3 c) (i:∀l∈ks,l < b+1) (k:c.toList.take ks.length=ks.map sv):Holds (eK b) w f 0 (fA b ks):=by
 intro a j;have d:a < ks.length:=by simpa [fA] using j
 rw [zBh];refine ⟨?_,g.frozen a⟩;have e:(c.toList.take ks.length)[a]?=(ks.map sv)[a]?:=by rw [k]
 rw [zBq,zBv d,zAf,zAa d,Array.getElem?_toList] at e;rw [g.cell,e];have:=iQ i (zAa d);simp [eK,this,sv]
theorem aBq {w e:World} {a c:Nat} {b:Array (Fin (a+1))} (i:Holds (eK a) w c 0 b) (g:SW (eK a) w c 0 b e):Below w.heap.size w e:=by
 obtain ⟨d,k,rfl⟩:=g;unfold sortWorld;have f:Go.Sort.putRow (eK a) (Go.Sort.ahead w d) c 0 b=Go.Sort.ahead w d:=Go.Sort.putRow_self (eK a) _ c 0 b i;rw [f];exact ⟨rfl,rfl,rfl,by show w.heap.size<=(w.heap++k).size;simp,fun l j=>Go.Sort.heap_grow_old _ _ j⟩
theorem sP (a b:Int):Lib.compareInt a b < 0↔a < b:=by
 unfold Lib.compareInt;split
 · simp [*]
 · split <;> simp [*]
theorem aCf (a b:Int):Lib.compareInt a b=0↔a=b:=by
 unfold Lib.compareInt;split;simp;omega;split;simp;omega;simp;omega
section
variable {w : World} {B gp ga : Nat} {vl vo vt vf : Value} {R P : Nat} {ks : List Nat} {C : List (Nat × Nat)} {tk : List Bool} {fr : List Nat}
theorem PermAt.prd (c:PermAt w B gp ga vl vo vt vf R P ks C tk fr) {e:Nat} {w':World} (j:w'.cell? e=some (.pointer (some gp))) (g:Below w.heap.size w w'):∃a i b,vl=.slice a i b/\PRd w' e gp a i b C:=by
 obtain ⟨a,b,d,_⟩:=aQ c.lrow;refine ⟨a,C.length,b,d,j,?_,?_⟩;have:=(c.blk.below g c.blk.lt).cell 1;rw [d] at this;exact this;have f:=aH c.lrow g;rw [d] at f;exact Rd.of_own f
end
theorem aDK {ks:List Nat} {C:List (Nat×Nat)} {c row:Nat} (m:C.length=c+1) (o:∀a∈ks,a < C.length) (p:ks.Pairwise (fun k l=>bC C k < bC C l)):
 ((fA c ks).toList.countP (fun b=>decide (Lib.compareInt (bC C b.val:Nat) row < 0)))=ks.countP (fun a=>decide (bC C a < row))/\
 (decide (((fA c ks).toList.countP (fun b=>decide (Lib.compareInt (bC C b.val:Nat) row < 0))) < (fA c ks).size)&&decide (Lib.compareInt (bC C ((fA c ks)[((fA c ks).toList.countP (fun b=>decide (Lib.compareInt (bC C b.val:Nat) row < 0)))]!).val:Nat) row=0))=decide (∃a∈ks,bC C a=row):=by
 have g:∀a∈ks,a < c+1:=fun a n=>by rw [<-m];exact o a n
 have i:(fA c ks).toList.countP (fun b=>decide (Lib.compareInt (bC C b.val:Nat) row < 0))=ks.countP (fun a=>decide (bC C a < row)):=by rw [<-wZ g (fun a=>decide (bC C a < row))];congr 1;funext b;rw [decide_eq_decide,sP];omega
 refine ⟨i,?_⟩;rw [i,Bool.eq_iff_iff];simp only [zBc,zBy,aCf];rw [<-aAF (f:=bC C) p row];constructor;rintro ⟨d,j⟩;have e:(ks.countP fun a=>decide (bC C a < row)) < ks.length:=(by simpa [fA] using d);refine ⟨_,zAa e,?_⟩;rw [iQ g (zAa e)] at j;omega;rintro ⟨b,d,j⟩;have e:=(zAc.1 d).1;refine ⟨by simpa [fA] using e,?_⟩;rw [iQ g d];omega
theorem yO (B gp ga:Nat) (vl vo vt vf:Value) (R P:Nat) (ks:List Nat) (C:List (Nat×Nat)) (tk:List Bool) (fr:List Nat) (row:Nat) (w:World) (d:PermAt w B gp ga vl vo vt vf R P ks C tk fr) (G:ks.Pairwise (fun k e=>bC C k < bC C e)) (Q:ks.length<=1099511627776):
 Calls prog 114 #[gp,(row:Int)] w fun a l=>a=.returned (.tuple #[.int .i64 ((ks.countP (fun b=>decide (bC C b < row)):Nat):Int),.bool (decide (∃b∈ks,bC C b=row))])/\Below w.heap.size w l:=by
 have ak:=d.blk.lt;have n:Below w.heap.size w (w.alloc (.cells #[gp] 106)):=bR.alloc nL _;have Z:w.cell? ⟨gp,2,none⟩=some vo:=(d.blk.cell 2).trans rfl;have O:∀g o f,vo=.slice g o f->Calls prog 182 #[.slice g o f,(row:Int),.func (.func 183) #[] #[w.heap.size]] (w.alloc (.cells #[gp] 106)) fun a l=>a=.returned (.tuple #[.int .i64 ((ks.countP (fun b=>decide (bC C b < row)):Nat):Int),.bool (decide (∃b∈ks,bC C b=row))])/\Below w.heap.size w l:=by
  intro g o f J;rcases zAz ks.length with r | r;have a8:ks= []:=zBj r;obtain ⟨Y,a0,i,_⟩:=aQ d.orow;rw [J] at i;injection i with _ i _;rw [r] at i;subst i;subst a8;refine (Any.slices_BinarySearchFunc_none shBin g f (.int .i64 (row:Int)) (.func (.func 183) #[] #[w.heap.size]) _).mono ?_;rintro a l ⟨rfl,rfl⟩;exact ⟨by simp,n⟩
  · rcases d.orow.2 with ⟨_,a⟩|⟨m,ae,a1,a,ai,a6,am,al,an,V⟩;omega
    · rw [J] at a;injection a with e1 e2 e3;subst e1 e2 e3;rw [zBk] at V;obtain ⟨k0,a7⟩:∃b,b∈ks:=(by obtain ⟨j,ad⟩:=List.exists_mem_of_length_pos r;exact ⟨j,ad⟩);obtain ⟨c,z⟩:∃c,C.length=c+1:=⟨C.length - 1,by have:=d.lt k0 a7;omega⟩;have F:∀b∈ks,b < c+1:=fun b Q=>by rw [<-z];exact d.lt b Q
      have t:Bk w m 3 a1:=a6;have s:=t.below n t.lt;have M:=oQ s F V;have a4:(w.alloc (.cells #[gp] 106)).cell? w.heap.size=some (.pointer (some gp)):=(Bk.new w 106 #[gp]).cell 0;have a5:CmpLaysT prog 183 #[w.heap.size] (eK c) (.int .i64 (row:Int)) (fun j=>Lib.compareInt (bC C j.val:Nat) row) m 0 (fA c ks).size (w.alloc (.cells #[gp] 106)):=(by intro I H u aj j;have E:=jF (enc:=eK c) s.lt 0 I u H;obtain ⟨g,o,f,a,U⟩:=d.prd a4 n;have ab:PRd (sortWorld (eK c) (w.alloc (.cells #[gp] 106)) m 0 I u H) w.heap.size gp g o f C:=(by refine ⟨?_,?_,?_⟩;exact (E.cell (p:=w.heap.size) (by simp) (fun a=>by have:=t.lt;have ag:w.heap.size=m:=a;omega)).trans U.box;exact (E.cell (p:=⟨gp,1,none⟩) (by simp;omega) (Bk.ne d.blk t dC)).trans U.sl;have a9:=aH d.lrow n;have S:=aB (w':=sortWorld (eK c) (w.alloc (.cells #[gp] 106)) m 0 I u H) a9 fun e af _ q=>E.bk q (Bk.ne q s dC);obtain ⟨Y,a0,i,_⟩:=aQ d.lrow;rw [a] at i S;injection i with e91 e92 e93;subst e92;exact Rd.of_own S);exact (vX w.heap.size gp g o f C j.val row _ ab (by rw [z];exact j.isLt)).mono fun _ _ ⟨a2,a3⟩=>⟨a2,0,#[],by rw [<-a3,Go.Sort.grow_empty];rfl⟩);have aa:∀k e,k<=e->e < (fA c ks).size->Lib.compareInt (bC C ((fA c ks)[e]!).val:Nat) row < 0->Lib.compareInt (bC C ((fA c ks)[k]!).val:Nat) row < 0:=(by intro k e x y T;have q:e < ks.length:=(by simpa [fA] using y);rw [iQ F (zAa q),sP] at T;rw [iQ F (zAa (show k < ks.length by omega)),sP];rcases Nat.eq_or_lt_of_le x with rfl | x;exact T;have:=zAr.1 G k e oM q x;omega);have W:(fA c ks).size=ks.length:=(by simp [fA]);have v:=Any.slices_BinarySearchFunc shBin (eK c) (lA c) (.int .i64 (row:Int)) (fun j=>Lib.compareInt (bC C j.val:Nat) row) 183 #[w.heap.size] m 0 f (fA c ks) (w.alloc (.cells #[gp] 106)) (enters_of func183 kR rfl) a5 M s.lt (by rw [W];omega) aa;obtain ⟨K,L⟩:=aDK (row:=row) z d.lt G;rw [K] at L;rw [K,L] at v;rw [W] at v;refine v.mono ?_;rintro a l ⟨rfl,ac⟩;exact ⟨rfl,n.trans ((aBq M ac).mono (by simp))⟩
 obtain ⟨g,f,a,_⟩:=aQ d.orow;have N:=O _ _ _ a;rw [a] at Z;obtain ⟨X,D⟩:∃X,ks.countP (fun b=>decide (bC C b < row))=X:=⟨_,rfl⟩;obtain ⟨ah,A⟩:∃e,decide (∃b∈ks,bC C b=row)=e:=⟨_,rfl⟩;rw [D,A] at N;rw [D,A];clear O d G D A n a;go_enter func114,ntmps114;go_wp2_with fail;refine N.mono ?_;rintro a l ⟨rfl,y⟩;go_wp2_with fail;go_ret2;exact ⟨rfl,y⟩
def fW (b:Nat->Bool):List Nat->Nat->Int
 | [],_=>-1
 | k::l,a=>if b k then (a:Int) else fW b l (a+1)
theorem uZ {e:Nat->Bool} {b:List Nat} (c:∀a∈b,e a=false) (d:Nat):fW e b d=-1:=by
 induction b generalizing d with
 | nil=>rfl
 | cons a b g=>
   unfold fW;rw [zBu (by rw [c a (by simp)];simp)];exact g (fun a f=>c a (by simp [f])) _
theorem uY {p:Nat->Bool} {l:List Nat} (b:∃a∈l,p a=true) (d:Nat):∃(e a:Nat),fW p l d=((d+e:Nat):Int)/\l[e]?=some a/\p a=true:=by
 induction l generalizing d with
 | nil=>obtain ⟨a,f,_⟩:=b;cases f
 | cons i l o=>
   unfold fW;by_cases c:p i=true;rw [zBv c];exact ⟨0,i,rfl,rfl,c⟩;rw [zBu c];obtain ⟨a,f,g⟩:=b;have n:a∈l:=(by rcases List.mem_cons.1 f with rfl | b;exact absurd g c;exact b);obtain ⟨e,q,j,k,m⟩:=o ⟨a,n,g⟩ (d+1);exact ⟨e+1,q,by rw [j];congr 1;omega,by simpa using k,m⟩
theorem aAt {b:Nat} {ks:List Nat} (d:∀a∈ks,a < b+1) (e:Nat->Bool) (f:Fin (b+1)) (c:Nat):Lib.idxByFrom (fun (_ j:Fin (b+1))=>e j.val) f ((ks.map fun a=>(⟨a %(b+1),Nat.mod_lt _ (Nat.succ_pos b)⟩:Fin (b+1)))) c=fW e ks c:=by
 induction ks generalizing c with
 | nil=>rfl
 | cons a k i=>
   rw [List.map_cons];unfold Lib.idxByFrom fW;simp only [zBs (d a (by simp))];rw [i (fun a g=>d a (by simp [g]))]
theorem nK (B gp ga:Nat) (vl vo vt vf:Value) (R P:Nat) (ks:List Nat) (C:List (Nat×Nat)) (tk:List Bool) (fr:List Nat) (d:Nat) (w:World) (f:PermAt w B gp ga vl vo vt vf R P ks C tk fr) (G:ks.length<=1099511627776):
 Calls prog 115 #[gp,(d:Int)] w fun b l=>b=.returned (.int .i64 (fW (fun a=>decide (eB C a=d)) ks 0))/\Below w.heap.size w l:=by
 have a4:=f.blk.lt;have K:w.cell? ⟨gp,2,none⟩=some vo:=(f.blk.cell 2).trans rfl;obtain ⟨g,p⟩:∃g,g=(w.alloc (.cells #[gp] 106)).alloc (.cells #[(d:Int)] 3):=⟨_,rfl⟩;have e:Below w.heap.size w g:=p ▸(bR.alloc nL _).alloc (by simp) _;have r:Bk g w.heap.size 106 #[gp]:=p ▸(Bk.new _ _ _).alloc _;have s:Bk g (w.heap.size+1) 3 #[(d:Int)]:=by have:=Bk.new (w.alloc (.cells #[gp] 106)) 3 #[(d:Int)];rw [<-p] at this;simpa using this
 have D:∀k n i,vo=.slice k n i->Calls prog 185 #[.slice k n i,.func (.func 186) #[] #[w.heap.size,.pointer (some ⟨w.heap.size+1,0,none⟩)]] g fun b l=>b=.returned (.int .i64 (fW (fun a=>decide (eB C a=d)) ks 0))/\Below w.heap.size w l:=by
  intro k n i x;rcases zAz ks.length with o | o;have X:ks= []:=zBj o;obtain ⟨a0,a1,m,_⟩:=aQ f.orow;rw [x] at m;injection m with _ m _;rw [o] at m;subst m;subst X;refine (AnyE.slices_IndexFunc_empty shIdx k i (.func (.func 186) #[] #[w.heap.size,.pointer (some ⟨w.heap.size+1,0,none⟩)]) _).mono ?_;rintro b l ⟨rfl,rfl⟩;exact ⟨rfl,e⟩
  · rcases f.orow.2 with ⟨_,b⟩|⟨y,a2,L,b,a3,T,a6,a5,a7,I⟩;omega
    · rw [x] at b;injection b with e1 e2 e3;subst e1 e2 e3;rw [zBk] at I;obtain ⟨k0,W⟩:∃a,a∈ks:=(by obtain ⟨j,Y⟩:=List.exists_mem_of_length_pos o;exact ⟨j,Y⟩);obtain ⟨c,E⟩:∃c,C.length=c+1:=⟨C.length - 1,by have:=f.lt k0 W;omega⟩;have H:∀a∈ks,a < c+1:=fun a G=>by rw [<-E];exact f.lt a G
      have F:Bk w y 3 L:=T;have U:=F.below e F.lt;have N:=oQ U H I;have u:PredAt prog 186 #[w.heap.size,.pointer (some ⟨w.heap.size+1,0,none⟩)] (eK c) (fun j=>decide (eB C j.val=d)) g:=(by intro v j q;have Q:=r.below q r.lt;have S:=s.below q s.lt;obtain ⟨k,n,i,b,u⟩:=f.prd (w':=v) (Q.cell 0) (e.trans (q.mono e.size));exact tE w.heap.size (w.heap.size+1) gp k n i C j.val d v u (S.cell 0) (by rw [E];exact j.isLt));have a8:ks.length=(ks.map fun a=>(⟨a %(c+1),Nat.mod_lt _ (Nat.succ_pos c)⟩:Fin (c+1))).length:=(by simp);have z:=AnyE.slices_IndexFunc shIdx (eK c) (fun j=>decide (eB C j.val=d)) 186 #[w.heap.size,.pointer (some ⟨w.heap.size+1,0,none⟩)] (enters_of func186 kR rfl) y 0 ks.length i (ks.map fun a=>(⟨a %(c+1),Nat.mod_lt _ (Nat.succ_pos c)⟩:Fin (c+1))) g u (by simp) oM (fun Z V=>by
       have M:=(N Z (by simpa [fA] using V)).1;simpa [fA] using M)
      rw [zAg (by simp),Lib.idxBy,aAt H (fun a=>decide (eB C a=d))] at z;refine z.mono ?_;rintro b l ⟨rfl,a9,rfl⟩;exact ⟨rfl,e.os,e.tape,e.output,e.size,e.block⟩
 obtain ⟨k,i,b,_⟩:=aQ f.orow;have A:=D _ _ _ b;rw [b] at K;obtain ⟨J,t⟩:∃J,fW (fun a=>decide (eB C a=d)) ks 0=J:=⟨_,rfl⟩;rw [t] at A;rw [t];subst p;clear D f t e b r s;go_enter func115,ntmps115;go_wp2_with fail;refine A.mono ?_;rintro b l ⟨rfl,O⟩;go_wp2_with fail;go_ret;exact ⟨rfl,O⟩
end
section
open Go.RowKit
theorem qK (ga:Nat) (d:Option Addr) (f:Nat) (e:Option Addr) (g a b:Nat) (w:World) (c:Bk w ga 204 #[.slice d a f,.slice e b g,.int .i64 268435456]) (o:a<=1048576) (n:b<=a):
 Calls prog 187 #[ga] w fun i j=>i=.returned (.int .i64 ((a - b:Nat):Int))/\Below w.heap.size w j:=by
 have k:w.cell? ga=some (.slice d a f):=(c.cell 0).trans rfl;have l:w.cell? ⟨ga,1,none⟩=some (.slice e b g):=(c.cell 1).trans rfl;have m:IntKind.i64.wrap ((a:Int) -(b:Int))=((a - b:Nat):Int):=by rw [IntKind.wrap_i64];omega
 clear c;go_enter func187,ntmps187;go_wp2;go_quiet (fail);go_wp2;go_ret;exact ⟨dR oM,below_drewN bR _⟩
theorem sZ (B ga:Nat) (c:Option Addr) (e:Nat) (m:Option Addr) (n a:Nat) (tk:List Bool) (w:World) (o:Bk w ga 204 #[.slice c a e,.slice m 0 n,.int .i64 268435456]) (v:w.ownsRow B 4 1 (.slice c a e) a (tk.map Value.bool)) (ah:B<=w.heap.size) (ai:a<=1000000):
 Calls prog 116 #[ga] w fun H r=>H=.returned (.tuple #[(a:Int),.int .i64 0])/\Keep (fun d=>d=ga∨(Value.slice c a e).ownBlock=some d) w r/\∃vt,Bk r ga 204 #[vt,.slice m 0 n,.int .i64 268435456]/\r.ownsRow B 4 1 vt (a+1) ((tk++ [true]).map Value.bool)/\(vt.ownBlock=(Value.slice c a e).ownBlock∨∃I,vt.ownBlock=some I/\w.heap.size<=I):=by
 obtain ⟨a9,Z,a6,a7,a8⟩:=info_parts mN;have aj:=o.lt;obtain ⟨i,S,Q⟩:=hqq3 o v (aK v o dC);clear o v;go_enter func116,ntmps116;go_wp2;refine wp_region_any kR ?_;refine aI [10,11,12,13,14,15,16,9] (Grow) (Vs [is ga,is (a:Int),is ga,is ga,is (.pointer (some ⟨ga,2,none⟩)),is (.int .i64 268435456),is (.bool false),is (.bool false)]) _ _ rfl kR bR (fun _ _=>Grow.trans) (fS tA2) ?_ ?_
 · refine aG ?_;refine pH 0 (.pointer (some ga)) ?_;refine sC (fun _ f b _ _ _ g _ _ _ t=>?_) ?_
   · have ad:_=_:=g 0 10 kR rfl;replace b:(Grow) w f:=gD b;go_simp;refine (qK ga c e m n a 0 f (i.out.below b i.out.lt) oM oM).mono ?_;rintro H ao ⟨rfl,Y⟩;exact t _ _ Y rfl
   refine pH 0 (.pointer (some ga)) ?_;refine pV 2 12 ?_;refine pV 3 13 ?_;refine pL 4 14 (fun f b=>have b:(Grow) w f:=gD b;(((i.out.below b i.out.lt).cell 2).trans rfl:f.cell? ⟨ga,2,none⟩=some (.int .i64 268435456))) ?_;refine sC (fun _ _ _ _ _ _ g _ _ _ t=>?_) ?_
   · have ae:_=_:=g 1 11 kR rfl;have af:_=_:=g 5 15 kR rfl;have ak:((a:Int)==268435456)=false:=(by simp;omega);go_simp;exact t _ _ bR (by first | rfl | simp [is] |(simp [is];omega))
   refine pV 6 16 ?_;exact aC
 · intro W l b g;replace b:(Grow) w l:=gD b;have V:W (.tmp 9)=.bool false:=g 7 9 rfl;simp only [zqq];rw [V];clear g;have k:=i.out.below b i.out.lt;have a5:=Below.size b;have M:=aH S.out b;have U:l.cell? ⟨ga,1,none⟩=some (.slice m 0 n):=(k.cell 1).trans rfl;have E:l.cell? ga=some (.slice c a e):=(k.cell 0).trans rfl;have X:=k.frozen 0;have L:ga < l.heap.size:=oM;obtain ⟨s,z,D⟩:=hqq3 b k M;clear b k M;generalize l=W2 at z a5 E U X s L D⊢;have aa:=(World.cell?_alloc_lt W2 (Obj.cells #[.bool true] 4) ⟨ga,0,none⟩ L).trans E;go_wp2_with (at_builtin;refine aY _ rfl (.tmp 53) (.tmp 54) _ rfl B 4 a9 (.bool false) 1 1 underlying144 Z a6 a7 a8 rfl dC (.slice c a e) a _ rfl D.out rfl rfl (by simp [Value.oneCell']) (by unfold maxLen;omega) oM oM ?_;intro an f x u al J;have q:=z.out.grown u Q.out;obtain ⟨T,O,N,A⟩:=hqq4 x u J q;have ac:f.cell? ga=some (.slice c a e):=(q.cell 0).trans rfl;have ag:=q.frozen 0;obtain ⟨y,G,rfl,a3⟩:=aF x;clear x u J q a3);go_ret2;have a4:=Keep.setCell (F:=fun d=>d=ga∨(Value.slice c a e).ownBlock=some d) (Keep.refl _ f) (p:=ga) (.inl (.inl rfl)) (.slice y (a+1) G);have a1:Keep (fun d=>d=ga∨(Value.slice c a e).ownBlock=some d) w W2:=Keep.of_below s.out;have a2:=a1.grown O.out (fun am a0=>.inl (.inr a0));refine ⟨rfl,a2.trans' a4 (fun d _ j=>j),_,A.out.set 0 _,?_,?_⟩;have:=aB (w':=f.setCell ga (.slice y (a+1) G)) T.out fun d ab _ K=>K.far (Bk.ne K A.out dC) _;simpa using this;rcases N.out with j | j;exact .inl j;exact .inr ⟨_,j,by have:=s.out.size;omega⟩
theorem qF (B:Nat) (b:Option Addr) (a c:Nat) (l:List Value) (e:Option Addr) (f j:Nat) (w:World) (g:w.ownsRow B 3 1 (.slice b a c) a l) (i:Rd w w.heap.size 1 e 1 [sv j]) (p:B<=w.heap.size) (A:a<=1000000):
 Calls prog 117 #[.slice b a c,(a:Int),.slice e 1 f] w fun o k=>∃d,o=.returned d/\k.ownsRow B 3 1 d (a+1) (l++ [sv j])/\w.grownBy k (Value.slice b a c).ownBlock/\(d.ownBlock=(Value.slice b a c).ownBlock∨d.ownBlock=some w.heap.size):=by
 obtain ⟨y,s,u,v,x⟩:=info_parts gQ;have D:=eO (P:=prog) 39 3 1 underlying39 Tryz.sizeOf3 b a c a nL;obtain ⟨m,n⟩:=hqq2 g i;clear g i;go_enter func117,ntmps117;go_wp2_with (at_builtin;refine aP _ rfl (.tmp 23) (.tmp 24) _ rfl B 3 y (.int .i64 0) 1 8 underlying39 s u v x rfl dC (.slice b a c) a _ rfl m.out w.heap.size e 1 f _ rfl n.out (by simp [Value.oneCell',sv]) (by unfold maxLen;omega) oM p ?_;intro z E t r q);go_ret;exact ⟨z,rfl,t,r,q⟩
theorem qU:(prog.info? 146).map (fun a=>(a.zero,a.size,a.bytes))=some (some (.agg #[.int .i64 0,.int .i64 0]),2,16):=by kernel_rfl
def PF (gp ga:Nat) (vl vo vt:Value) (a:Nat):Prop:=a=gp∨a=ga∨vl.ownBlock=some a∨vo.ownBlock=some a∨vt.ownBlock=some a
theorem iP (C:List (Nat×Nat)) (a:Nat×Nat):cX (C++ [a])=cX C++iJ a:=by simp [cX]
theorem PermAt.below {w c:World} {B gp ga:Nat} {vl vo vt vf:Value} {R P:Nat} {ks:List Nat} {C:List (Nat×Nat)} {tk:List Bool} {fr:List Nat} (a:PermAt w B gp ga vl vo vt vf R P ks C tk fr) (b:Below w.heap.size w c):PermAt c B gp ga vl vo vt vf R P ks C tk fr:=
 ⟨a.blk.below b a.blk.lt,aH a.lrow b,aH a.orow b,a.ar.below b a.ar.lt,aH a.trow b,aH a.frow b,a.apart,a.lt,a.lo⟩
theorem dY {d:Nat->Prop} {w j:World} {B:Nat} {c:TypeId} {g f:Nat} {i:Value} {k:List Value} (m:w.ownsRow B c g i f k) (o:Keep d w j) (n:∀a b,d a->Bk w a c b->False):j.ownsRow B c g i f k:=
 aB m fun a b _ e=>o.bk e (fun l=>n a b l e)
theorem aBJ {w:World} {B g cap:Nat} {C:List (Nat×Nat)} {y:Nat×Nat} (l:w.ownsRow B 146 2 (.slice (some g) (C.length+1) cap) (C.length+1) (cX (C++ [y]))) (a:Nat×Nat):
 ((w.setCell ⟨g,C.length*2,none⟩ (.int .i64 (a.1:Int))).setCell ⟨g,C.length*2+1,none⟩ (.int .i64 (a.2:Int))).ownsRow B 146 2 (.slice (some g) (C.length+1) cap) (C.length+1) (cX (C++ [a])):=by
 rcases l.2 with ⟨c,_⟩|⟨x,v,k,c,m,n,o,p,q,e⟩
 · cases c
 · injection c with h8 h9 h10;injection h8 with h8;injection h8 with h8 _;subst h8 h10;have r:Bk w g 146 k:=n;have s:=(r.set (C.length*2) (.int .i64 (a.1:Int))).set (C.length*2+1) (.int .i64 (a.2:Int));refine ⟨by rw [jY];simp,.inr ⟨g,cap,_,rfl,m,s,o,p,by simpa using q,?_⟩⟩;rw [iP] at e⊢;have f:=jY C;apply List.ext_getElem?;intro b;have d:=congrArg (fun t=>t[b]?) e;simp only [zBq,Array.getElem?_toList] at d;rw [zBq,Array.getElem?_toList,zCb,zCb];by_cases u:b < C.length*2
   · rw [zBv oM] at d⊢;rw [zBu oM,zBu oM,d,zAn oM,zAn oM]
   · by_cases i:b=C.length*2;subst i;rw [zBv oM,zBu oM,zBv rfl,zBv oM,zAo oM,f,Nat.sub_self];rfl
     · by_cases j:b=C.length*2+1;subst j;rw [zBv oM,zBv rfl,zBv (by simp;omega),zAo oM,f,show C.length*2+1 - C.length*2=1 by omega];rfl
       · rw [zBu oM,zBf (by simp [iJ];omega)]
theorem vY (B gp ga:Nat) (vl vo vt:Value) (R P:Nat) (ks:List Nat) (C:List (Nat×Nat)) (tk:List Bool) (row q:Nat) (w:World) (m:PermAt w B gp ga vl vo vt (.slice none 0 0) R P ks C tk []) (bB:ks.Pairwise (fun c4 f=>bC C c4 < bC C f))
 (aI:∀i∈ks,bC C i < row) (bA:∀i∈ks,eB C i≠q) (cF:row < R) (cE:q < P) (a4:tk.length=C.length) (cg:C.length<=900000) (n:ks.length<=900000) (bg:B<=w.heap.size):
 Calls prog 63 #[gp,(row:Int),(q:Int)] w fun v o=>v=.returned (.int .i64 0)/\Keep (PF gp ga vl vo vt) w o/\∃aT aU U,PermAt o B gp ga aT aU U (.slice none 0 0) R P (ks++ [C.length]) (C++ [(row,q)]) (tk++ [true]) []/\(aU.ownBlock=vo.ownBlock∨∃e,aU.ownBlock=some e/\w.heap.size<=e)/\(aT.ownBlock=vl.ownBlock∨∃e,aT.ownBlock=some e/\w.heap.size<=e)/\(U.ownBlock=vt.ownBlock∨∃e,U.ownBlock=some e/\w.heap.size<=e):=by
 obtain ⟨cr,ck,co,cp,cq⟩:=info_parts qU;have bm:ks.countP (fun i=>decide (bC C i < row))=ks.length:=List.countP_eq_length.2 fun i n=>by simpa using aI i n
 have bn:decide (∃i∈ks,bC C i=row)=false:=by rw [decide_eq_false_iff_not];rintro ⟨i,n,v⟩;have:=aI i n;omega
 have bv:fW (fun i=>decide (eB C i=q)) ks 0=-1:=uZ (fun i n=>by simpa using bA i n) 0;have c6:w.cell? ⟨gp,3,none⟩=some (.int .i64 (R:Int)):=(m.blk.cell 3).trans rfl;have c7:w.cell? ⟨gp,4,none⟩=some (.int .i64 (P:Int)):=(m.blk.cell 4).trans rfl;have X:=yO B gp ga vl vo vt (.slice none 0 0) R P ks C tk [] row w m bB oM;rw [bm,bn] at X;have aA:=fun c3 ch=>nK B gp ga vl vo vt (.slice none 0 0) R P ks C tk [] q c3 ch oM;simp only [bv] at aA;obtain ⟨s,aE⟩:=eqx ks.length;obtain ⟨b,bh⟩:=eqx C.length;rw [aE] at X;obtain ⟨b5,ab,aj,u,b8⟩:=hqq5 aA m aE bh a4;have cD:b<=900000:=oM;have cH:s<=900000:=oM;have ad:=lhd bg;clear bm bn bv aA bB aI bA m aE bh a4 cg n bg;go_enter func63,ntmps63;go_wp2_with fail;refine X.mono ?_;clear X;rintro v w1 ⟨rfl,ap⟩;have D:=ab.out.below ap;obtain ⟨ac,ae⟩:=hqq2 D ap;clear D ap c6 c7;go_wp2_with fail;refine (b5.out w1 ac.out).mono ?_;rintro v I ⟨rfl,aq⟩;have M:=ac.out.below aq;have bj:=ae.out.trans (aq.mono ae.out.size);have c5:I.cell? gp=some (.pointer (some ga)):=(M.blk.cell 0).trans rfl;obtain ⟨k,z⟩:=hqq2 M bj;clear M bj aq ac ae b5;go_wp2_with fail;obtain ⟨b0,bc,a9,_⟩:=aQ k.out.trow;have a5:tk.length=b:=by rw [b8.out,u.out]
 have an:=sZ B ga b0 bc none 0 b tk I (by have:=k.out.ar;rw [a9,a5] at this;exact this) (by have:=k.out.trow;rw [a9,a5] at this;exact this) (by have:=ad.out;have:=z.out.size;omega) oM;have bK:vt=.slice b0 b bc:=by rw [a9,a5]
 rw [<-bK] at an;refine an.mono ?_;clear an a9 bK a5;rintro v aV ⟨rfl,N,U,bl,bz,bo⟩;have S:=N.bk k.out.blk (fun a=>by
  rcases a with a | a;exact Bk.ne k.out.blk k.out.ar dC a
  · exact aK k.out.trow k.out.blk dC a.symm)
 have a6:=dY k.out.lrow N (fun f j a c=>by
  rcases a with a | a;subst a;exact Bk.ne c k.out.ar dC rfl
  · exact aK k.out.trow c dC a.symm)
 have bH:=dY k.out.orow N (fun f j a c=>by
  rcases a with a | a;subst a;exact Bk.ne c k.out.ar dC rfl
  · exact aK k.out.trow c dC a.symm)
 obtain ⟨bQ,c9,bE,_⟩:=aQ a6;have aL:vl=.slice bQ b c9:=by rw [bE,u.out]
 have Q:aV.cell? ⟨gp,1,none⟩=some vl:=(S.cell 1).trans rfl;have cc:=S.frozen 1;rw [aL] at Q;have cj:=S.lt;rw [u.out] at a6;have cf:B<=aV.heap.size:=by have:=N.size;have:=ad.out;have:=z.out.size;omega
 obtain ⟨ai,ag,b7,bS,ah,K,ba,b9⟩:=hqq8 N bl bz bo S a6 bH aL;have ca:=(World.cell?_alloc_lt aV (Obj.cells #[.int .i64 0,.int .i64 0] 146) ⟨gp,1,none⟩ cj).trans Q;clear N bl bz bo S a6 bH bE aL c5;go_wp2_with fail;refine wp_loop_rounds 2 ?_;rw [rounds_succ];go_wp2_with (at_builtin;refine aY _ rfl (.tmp 72) (.tmp 74) _ rfl B 146 cr (.agg #[.int .i64 0,.int .i64 0]) 2 16 underlying93 ck co cp cq rfl dC vl b _ b9.out.symm K.out rfl rfl (by simp [Value.oneCell']) (by unfold maxLen;omega) oM cf ?_;intro cJ t aG aw cI bi;have Y:=ah.out.grown aw (aK K.out ah.out dC);have be:t.cell? ⟨gp,1,none⟩=some vl:=(Y.cell 1).trans rfl;have cb:=Y.frozen 1;rw [b9.out] at be;obtain ⟨bP,l,rfl,cn⟩:=aF aG;obtain ⟨A,ak,O,b1⟩:=hqq4 Y aG aw bi;clear cn aG aw bi Y);obtain ⟨d,bd,rfl,cG,av,ci⟩:∃d,∃V:Array Value,bP=some ⟨d,0,none⟩/\B<=d/\Bk t d 146 V/\b*2+1 < V.size:=by rcases ak.out.2 with ⟨D,M⟩|⟨e,c8,V,D,M,ce,cx,cy,cz,cA⟩;omega;injection D with D _ _;exact ⟨e,V,D,M,ce,by omega⟩
 have bu:gp≠d:=Bk.ne A.out av dC;have T:=A.out.set 1 (.slice (some ⟨d,0,none⟩) (b+1) l);have E:=av.far (p:=⟨gp,1,none⟩) (fun v=>bu v.symm) (.slice (some ⟨d,0,none⟩) (b+1) l);have aC:Keep (PF gp ga vl vo vt) I (t.setCell ⟨gp,1,none⟩ (.slice (some ⟨d,0,none⟩) (b+1) l)):=
  ((ai.out.mono (G:=PF gp ga vl vo vt) (fun f _ a=>by rcases a with a | a;exact .inr (.inl a);exact .inr (.inr (.inr (.inr a))))).grown O.out (fun i n=>.inl (.inr (.inr (.inl n))))).setCell (.inl (.inl rfl)) _
 have aM:=aB (w':=t.setCell ⟨gp,1,none⟩ (.slice (some ⟨d,0,none⟩) (b+1) l)) ak.out fun f j _ c=>c.far (p:=⟨gp,1,none⟩) (Bk.ne c A.out dC) _;have bI:=aB (w':=t) ba.out fun f j _ c=>c.grown O.out (aK K.out c dC);have a8:=aB (w':=t.setCell ⟨gp,1,none⟩ (.slice (some ⟨d,0,none⟩) (b+1) l)) bI fun f j _ c=>c.far (p:=⟨gp,1,none⟩) (Bk.ne c A.out dC) _;have ay:=ag.out.grown O.out (aK K.out ag.out dC);have az:=ay.far (p:=⟨gp,1,none⟩) (Bk.ne ay A.out dC) (.slice (some ⟨d,0,none⟩) (b+1) l);have bL:=aB (w':=t) b7.out fun f j _ c=>c.grown O.out (aK K.out c dC);have aP:=aB (w':=t.setCell ⟨gp,1,none⟩ (.slice (some ⟨d,0,none⟩) (b+1) l)) bL fun f j _ c=>c.far (p:=⟨gp,1,none⟩) (Bk.ne c A.out dC) _;have bp:(Value.slice (some ⟨d,0,none⟩) (b+1) l).ownBlock=vl.ownBlock∨∃e,(Value.slice (some ⟨d,0,none⟩) (b+1) l).ownBlock=some e/\I.heap.size<=e:=by rcases b1.out with a | a;exact .inl a;exact .inr ⟨_,a,by have:=ai.out.size;omega⟩
 clear ai ag b7 ah K ba A ak O b1 Q cc ca cb be bI ay bL;generalize t.setCell ⟨gp,1,none⟩ (.slice (some ⟨d,0,none⟩) (b+1) l)=w6 at T E aC aM a8 az aP⊢;have Q:w6.cell? ⟨gp,1,none⟩=some (.slice (some ⟨d,0,none⟩) (b+1) l):=(T.cell 1).trans rfl;have aW:=E.cell (b*2);have aX:=E.cell (b*2+1);rw [zAq oM] at aW aX;have cs:=E.frozen (b*2);have ct:=E.frozen (b*2+1);generalize bd[b*2]' oM=u0 at aW;generalize bd[b*2+1]' oM=u1 at aX;obtain ⟨bV,af,b6,bY,c0,b3,c1,b2⟩:=hqq8 T E aC aM a8 az aP bp;have cl:decide (b+1<=b)=false:=by simp
 have cm:decide ((b:Int)+1<=(b:Int))=false:=by simp;omega
 have W:w6.cell? ⟨gp,2,none⟩=some vo:=(T.cell 2).trans rfl;obtain ⟨aZ,bb,bG,_⟩:=aQ a8;have aO:vo=.slice aZ s bb:=by rw [bG,aj.out]
 have al:=lhd aO;rw [aO] at W;clear T E aC aM a8 az aP bp bG aO av ci;rw [rounds_succ];go_wp2_with fail
 have a7:=aBJ (C:=C) (y:=(0,0)) (g:=d) (cap:=l) (w:=w6) (B:=B) (by
  rw [u.out,iP];exact bY.out) (row,q)
 rw [u.out] at a7;have H:Keep (fun f=>f=d) w6 ((w6.setCell ⟨d,b*2,none⟩ (.int .i64 (row:Int))).setCell ⟨d,b*2+1,none⟩ (.int .i64 (q:Int))):=((Keep.refl (fun f=>f=d) w6).setCell (p:=⟨d,b*2,none⟩) (.inl rfl) _).setCell (p:=⟨d,b*2+1,none⟩) (.inl rfl) _;have aJ:((w6.setCell ⟨d,b*2,none⟩ (.int .i64 (row:Int))).setCell ⟨d,b*2+1,none⟩ (.int .i64 (q:Int))).heap.size=w6.heap.size:=by simp [World.setCell]
 rw [<-aJ];clear aW aX cs ct Q W cl cm;generalize (w6.setCell ⟨d,b*2,none⟩ (.int .i64 (row:Int))).setCell ⟨d,b*2+1,none⟩ (.int .i64 (q:Int))=w7 at a7 H aJ⊢;have bt:=H.bk bV.out (fun a=>bu a);have br:=H.bk b3.out (fun a=>by subst a;exact Bk.ne b3.out af.out dC rfl);have bJ:=dY c0.out H (fun f j a c=>by subst a;exact Bk.ne c af.out dC rfl);have bM:=dY c1.out H (fun f j a c=>by subst a;exact Bk.ne c af.out dC rfl);have cB:B<=I.heap.size:=by have:=ad.out;have:=z.out.size;omega
 have cC:=b6.out.size;have am:B<=(w7.alloc (.cells #[(b:Int)] 3)).heap.size:=by simp;omega
 have aS:w7.heap.size < (w7.alloc (.cells #[(b:Int)] 3)).heap.size:=by simp
 have a3:Rd (w7.alloc (.cells #[(b:Int)] 3)) (w7.alloc (.cells #[(b:Int)] 3)).heap.size 1 (some ⟨w7.heap.size,0,none⟩) 1 [sv b]:=(Rd.new_ w7 3 1 #[(b:Int)] rfl).mono (by simp);have r:=bJ.alloc (.cells #[(b:Int)] 3);have aN:=a7.alloc (.cells #[(b:Int)] 3);have aR:=bM.alloc (.cells #[(b:Int)] 3);have a0:=bt.alloc (.cells #[(b:Int)] 3);have Z:=br.alloc (.cells #[(b:Int)] 3);have au:Below w7.heap.size w7 (w7.alloc (.cells #[(b:Int)] 3)):=bR.alloc nL _;obtain ⟨cd,ax⟩:=eqx w7.heap.size;rw [ax] at a3 aS;rw [ax];generalize w7.alloc (.cells #[(b:Int)] 3)=w8 at am a3 r aN aR a0 Z au aS⊢;have aD:Keep (PF gp ga vl vo vt) I w8:=(b6.out.trans' (H.trans' (Keep.of_below au) (fun _ _ a=>a)) (fun f c a=>by
  rcases b2.out with m |⟨e,m,cw⟩;exact .inr (.inr (.inl (by rw [<-m,a];rfl)))
  · exfalso;have:d=e:=(by simpa [Value.ownBlock] using m);omega))
 rw [aj.out,al.out] at r;have bw:=qF B aZ s bb (ks.map sv) (some ⟨cd,0,none⟩) 1 b w8 r a3 am oM;refine bw.mono ?_;clear bw;rintro v x ⟨bO,rfl,aH,F,ao⟩;rw [<-al.out] at F ao r;have a1:=a0.grown F (aK r a0 dC);have bs:=Z.grown F (aK r Z dC);have bF:=aB (w':=x) aN fun f j _ c=>c.grown F (aK r c dC);have bN:=aB (w':=x) aR fun f j _ c=>c.grown F (aK r c dC);have bx:=aD.grown F (fun i n=>.inl (.inr (.inr (.inr (.inl n)))));have bq:bO.ownBlock=vo.ownBlock∨∃e,bO.ownBlock=some e/\I.heap.size<=e:=by rcases ao with a | a;exact .inl a;exact .inr ⟨_,a,aD.size⟩
 have W:x.cell? ⟨gp,2,none⟩=some vo:=(a1.cell 2).trans rfl;rw [al.out] at W;have cv:=a1.frozen 2;obtain ⟨J,L,bD,_⟩:=aQ aH;obtain ⟨cu,b4,bU,bZ,c2,bX,bW,bT⟩:=hqq8 bD a1 bs bF bN aH bx bq;clear a7 H aJ bt br bJ bM am aS a3 r aN aR a0 Z au ax aD F ao a1 bs bF bN aH bx bq;subst bD;go_wp2_with fail;go_ret;have a2:∀f aa j,Bk x f aa j->aa≠152->Bk (x.setCell ⟨gp,2,none⟩ (.slice J (s+1) L)) f aa j:=fun f aa j c a4=>c.far (p:=⟨gp,2,none⟩) (Bk.ne c b4.out a4) _;refine ⟨rfl,(Keep.of_below z.out).trans' (bW.out.setCell (.inl (.inl rfl)) _) (fun _ _ a=>a),.slice (some ⟨d,0,none⟩) (b+1) l,.slice J (s+1) L,U,⟨b4.out.set 2 _,?_,?_,a2 _ _ _ bU.out dC,?_,?_,?_,?_,ab.out.lo⟩,?_,?_,?_⟩;have:=aB (w':=x.setCell ⟨gp,2,none⟩ (.slice J (s+1) L)) bZ.out fun f j _ c=>a2 _ _ _ c dC;simpa [u.out] using this;have:=aB (w':=x.setCell ⟨gp,2,none⟩ (.slice J (s+1) L)) bX.out fun f j _ c=>a2 _ _ _ c dC;simpa [aj.out,u.out] using this;have:=aB (w':=x.setCell ⟨gp,2,none⟩ (.slice J (s+1) L)) c2.out fun f j _ c=>a2 _ _ _ c dC;simpa [b8.out,u.out] using this;exact World.ownsRow_nil _ _ _ _;rcases (Value.slice J (s+1) L).ownBlock with _ | e;exact .inl rfl;exact .inr (by simp [Value.ownBlock]);intro i n;rcases zCk.1 n with m | m;have:=ab.out.lt i m;simp;omega;simp at m;simp;omega;rcases bT.out with a |⟨e,a,bf⟩;exact .inl a;exact .inr ⟨e,a,by have:=z.out.size;omega⟩;rcases b2.out with a |⟨e,a,bf⟩;exact .inl a;exact .inr ⟨e,a,by have:=z.out.size;omega⟩;rcases bS.out with a |⟨e,a,bf⟩;exact .inl a;exact .inr ⟨e,a,by have:=z.out.size;omega⟩
end
end Go.Proofs.YtihaijbgmjdhgaaGreatDoor
