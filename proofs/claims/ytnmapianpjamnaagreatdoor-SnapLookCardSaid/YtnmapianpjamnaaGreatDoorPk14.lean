/- Lemmas of the walk. Conditions: each its own. -/
import Derived.Test.YtnmapianpjamnaaGreatDoorPk12
import Derived.Test.YtnmapianpjamnaaGreatDoorProg
import Derived.Test.YtnmapianpjamnaaGreatDoorShl
set_option linter.all false
set_option maxRecDepth 100000
set_option maxHeartbeats 4000000
open Go.Proofs.Tryz
namespace Go.Proofs.YtnmapianpjamnaaGreatDoor
section
open Go.RowKit
def dK (a:List Nat) (b:Nat):Nat:=a.getD ((b+a.length - 1)% a.length) 0
def aL (a b:List Nat):List Nat:=b.map (dK a)
def dB (b a:List Nat):(aL b a).length=a.length:=by simp [aL]
def aA4 {a:List Nat} (d:∀e∈a,e < 257) (b:Nat):dK a b < 257:=by
 unfold dK;rw [zAb];cases c:a[(b+a.length - 1)% a.length]? with
 | none=>simp
 | some f=>simpa using d f (zAd c)
def fY {b rs:List Nat} (c:∀a∈b,a < 257):∀a∈aL b rs,a < 257:=by
 intro a d;obtain ⟨e,_,rfl⟩:=zAy.1 d;exact aA4 c e
def zL (a:Nat) (g:a<=1000000) (w:World):(Instr.makeSlice 27 (.int .i64 0) (.int .i64 (a:Int))).run prog w=.ok (.slice (some w.heap.size) 0 a) (w.alloc (.cells (madeCells #[.int .i64 0] a) 3)):=by
 obtain ⟨f,b,c,d,e⟩:=info_parts fZ;have:=run_make (P:=prog) w 27 3 f (.int .i64 0) underlying27 b c .i64 .i64 0 a oM oM (by rw [e];omega) oM;rw [this,d];simp only [Value.cells,zBq,zBl];rfl
def tQ {w b:World} {j i:Nat} {a:Option Addr} {k:List Value} {row:Option Nat} (e:Rd w w.heap.size j a i k) (g:w.grownBy b row) (m:∀c,a=some c->row≠some c.block):Rd b b.heap.size j a i k:=by
 refine ⟨e.1,fun o=>?_⟩;obtain ⟨d,r,rfl,f,n⟩:=e.2 o;refine ⟨d,r,rfl,zAl f g.size,fun q s p=>?_⟩;rw [World.cell?_of_block (w:=w) (g.block d f (fun l=>m _ rfl l.symm))];exact n q s p
def Apt (c:Value) (b:Option Addr):Prop:=∀a,b=some a->c.ownBlock≠some a.block
def Apt.next {i e:Value} {c:Option Addr} {f:Nat} (j:Apt i c) (l:e.ownBlock=i.ownBlock∨e.ownBlock=some f) (k:∀a,c=some a->a.block < f):Apt e c:=by
 intro a g b;rcases l with d | d;exact j a g (d.symm.trans b);rw [d] at b;injection b with b;have:=k a g;omega
def iQ (n:Option Addr) (f u B:Nat) (d:List UInt8) (w:World) (U:Rd w B 1 n f (d.map bv)) (ab:B<=w.heap.size) (b6:f<=895):
 Calls prog 148 #[.slice n f u] w fun J au=>∃i k l,IsSuf (aE d) i/\J=.returned (.slice k (f+1) l)/\Made au w.heap.size 3 1 k (f+1) l ((aL (aE d) i).map sv)/\Below w.heap.size w au:=by
 obtain ⟨bd,b2,ba,bb,bc⟩:=info_parts fZ;have aq:d.length=f:=by simpa using U.1
 obtain ⟨a9,aM⟩:=hqq2 U aq;clear U aq;go_enter func148,ntmps148;go_wp2_with fail;obtain ⟨a,y⟩:=eqx (f+1);have W:=oX w.heap.size 0 n f u w.heap.size d (w.alloc (.cells #[.slice n f u] 22)) (Bk.new _ _ _) ((a9.out.mono ab).alloc nL _) (by simp) oM;have V:=fun aa (m:Below w.heap.size w aa)=>iP n f u w.heap.size d aa ((a9.out.mono ab).below m) m.size b6;simp only [y] at W V;have bm:a<=896:=oM;have bl:1<=a:=oM;have ai:(aE d).length=a:=by rw [aK,aM.out,y]
 obtain ⟨a2,F,a3⟩:=hqq3 y ai V;clear y ai V;refine W.mono ?_;clear W;rintro J w1 ⟨D,bi,rfl,ak,af⟩;have ag:=((Below.refl w.heap.size w).alloc nL _).trans (af.mono (by simp));have be:=zL a oM;obtain ⟨G,t⟩:=hqq2 ak ag;clear ak af ag;go_wp2_with fail;clear be;have q:=t.out.alloc t.out.size (.cells (madeCells #[.int .i64 0] a) 3);have N:=G.out.below (bR.alloc nL (.cells (madeCells #[.int .i64 0] a) 3));have g:(w1.alloc (.cells (madeCells #[.int .i64 0] a) 3)).ownsRow w.heap.size 3 1 (.slice (some w1.heap.size) 0 a) 0 []:=World.ownsRow_made _ _ _ t.out.size (by unfold maxLen;omega) (by simp [madeCells]);obtain ⟨p,L⟩:=eqx w1.heap.size;have b1:p < (w1.alloc (.cells (madeCells #[.int .i64 0] a) 3)).heap.size:=by rw [<-L];simp
 have ac:Apt (.slice (some p) 0 a) D:=by
  intro b c m;obtain ⟨aw,aQ,j,_,K⟩:=aJ G.out.own;injection j with j;have:=(K b (j.symm.trans c)).2;have aT:p=b.block:=by simpa [Value.ownBlock] using m
  omega
 have ax:=lhd ac;clear ac;rw [L] at g⊢;generalize w1.alloc (.cells (madeCells #[.int .i64 0] a) 3)=W2 at q N g b1⊢;obtain ⟨a5,a4⟩:=hqq2 g N;clear g N G t L;refine (a3.out W2 q).mono ?_;rintro J bu ⟨i,E,bj,ao,rfl,O,v⟩;have ah:=q.trans (v.mono q.size);have am:=aF a5.out v;have al:=a4.out.below v;have ad:Apt (.slice (some p) 0 a) E:=by
  intro b c m;obtain ⟨aw,aQ,j,_,K⟩:=aJ O.own;injection j with j;have:=(K b (j.symm.trans c)).1;have aT:p=b.block:=by simpa [Value.ownBlock] using m
  omega
 have ay:=lhd ad;clear ad;obtain ⟨H,aC,aB,aD,az⟩:=hqq5 ao O.rd al.rd am ah;clear ao O al am ah v q a5 a4 a3;go_wp2_with fail;go_loopw [4,6,16] (fun a1 _ Z wr=>∃e:Nat,e<=a/\Z=.int .i64 e/\wr.ownsRow w.heap.size 3 1 a1 e ((aL (aE d) (i.take e)).map sv)/\Below w.heap.size w wr/\Apt a1 D/\Apt a1 E/\Rd wr wr.heap.size 1 D a ((aE d).map sv)/\Rd wr wr.heap.size 1 E a (i.map sv)) (fun _ _ Z _=>a -(intOf Z).toNat)
 case atStart=>exact ⟨0,by omega,rfl,aD.out,az.out,ax.out,ay.out,aB.out,aC.out⟩
 case round=>
  obtain ⟨e,bk,rfl,g,x,S,T,z,A⟩:=hrel;by_cases b5:e < a
  · obtain ⟨aN,bf,bq,rfl,aU,X,aX⟩:=A.get b5;rw [zAf] at X;obtain ⟨s,Q,rfl⟩:=Option.map_eq_some_iff.1 X;have bn:s < a:=(by have:=H.out.lt (zAd Q);rw [F.out] at this;exact this);obtain ⟨a0,r⟩:=eqx ((s+a - 1)% a);have b9:a0 < a:=(by rw [<-r];exact Nat.mod_lt _ oM);obtain ⟨aP,bg,br,rfl,aV,Y,aY⟩:=z.get b9;rw [zAf] at Y;obtain ⟨av,ar,rfl⟩:=Option.map_eq_some_iff.1 Y;have an:dK (aE d) s=av:=(by unfold dK;rw [F.out,r,zAb,ar];rfl);have ap:aL (aE d) (i.take (e+1))=aL (aE d) (i.take e)++ [av]:=(by rw [zAv,Q,aL,zAz,<-an];rfl);unfold sv at aX aY;have b8:((s:Int)+(a:Int) - 1)%(a:Int)=(a0:Int):=(by rw [<-r,Int.natCast_emod];congr 1;omega);have bo:((s:Int)+(a:Int) - 1).tmod (a:Int)=(a0:Int):=(by rw [Int.tmod_eq_emod_of_nonneg oM];exact b8);obtain ⟨aI,a6,a7,a8,o,aG,aH,bh⟩:=hqq8 ap g S T x z A r;clear X Y ar an ap g x S T z A r Q;go_wp2_with (at_builtin;refine aZ _ rfl (.tmp 20) (.tmp 32) _ rfl w.heap.size 3 bd (.int .i64 0) 1 8 underlying27 b2 ba bb bc rfl dC _ e _ rfl a6.out rfl rfl (by simp [Value.oneCell']) (by unfold maxLen;omega) oM o.out.size ?_;intro bs bt b7 M bp ae);have aW:=aS o.out a6.out M o.out.size;have b3:∀b,some (⟨aP,bg,none⟩:Addr)=some b->b.block < _:=fun b c=>by injection c with c;subst c;exact aV
    have b4:∀b,some (⟨aN,bf,none⟩:Addr)=some b->b.block < _:=fun b c=>by injection c with c;subst c;exact aU
    go_roundw
    case rel=>refine ⟨e+1,by omega,by go_num,?_,aW,a7.out.next ae (fun b c=>Nat.lt_succ_of_lt (b3 b c)),a8.out.next ae (fun b c=>Nat.lt_succ_of_lt (b4 b c)),tQ aG.out M a7.out,tQ aH.out M a8.out⟩;rw [aI.out,zAz];exact b7
    case measure=>simp [intOf];omega
  · obtain rfl:a=e:=oM;rw [zAg (by rw [H.out.len,F.out];omega)] at g;obtain ⟨k,l,rfl,aj⟩:=aO g;obtain ⟨aA,o⟩:=hqq2 aj x;clear g aj x S T z A;go_wp2_with fail;go_ret;have b0:∀I,Made wr w.heap.size 3 1 k a l I->Made wr w.heap.size 3 1 k (f+1) l I:=fun I aR=>by rw [a2.out];exact aR
    exact ⟨i,k,l,H.out,by rw [a2.out];rfl,b0 _ aA.out,o.out⟩
end
section
open Go.RowKit Go.Shelf
open Go.Sort (Holds)
structure PermAt (w:World) (B gp ga:Nat) (vl vo vt vf:Value) (R P:Nat) (ks:List Nat) (C:List (Nat×Nat)) (tk:List Bool) (fr:List Nat):Prop where
 blk:Bk w gp 186 #[ga,vl,vo,(R:Int),(P:Int)]
 lrow:w.ownsRow B 179 2 vl C.length (cJ C)
 orow:w.ownsRow B 3 1 vo ks.length (ks.map sv)
 ar:Bk w ga 228 #[vt,vf,.int .i64 268435456]
 trow:w.ownsRow B 4 1 vt tk.length (tk.map Value.bool)
 frow:w.ownsRow B 3 1 vf fr.length (fr.map sv)
 apart:vo.ownBlock=none∨vo.ownBlock≠vf.ownBlock
 lt:∀k∈ks,k < C.length
 lo:B<=gp/\B<=ga
def aBI {d:List Nat} {b:Nat->Nat} (j:d.Pairwise (fun i n=>b i < b n)) (g:Nat):∀(a e:Nat),d[a]?=some e->(b e < g↔a < d.countP fun k=>decide (b k < g)):=by
 induction d with
 | nil=>intro a e j;cases j
 | cons r d q=>
   obtain ⟨m,o⟩:=List.pairwise_cons.1 j;intro a e c;rw [zBm];by_cases f:b r < g
   · rcases a with _ | a
     · simp at c;subst c;simp [f]
     have:=q o a e (by simpa using c);simp only [f,decide_true,if_true];omega
   · have l:(d.countP fun k=>decide (b k < g))=0:=(by rw [List.countP_eq_zero];intro i p;have:=m i p;simp;omega);rcases a with _ | a
     · simp at c;subst c;simp [f,l]
     have s:=m e (zAd (by simpa using c));simp only [l,f,decide_false];simp;omega
def aAi {a:List Nat} {f:Nat->Nat} (i:a.Pairwise (fun o p=>f o < f p)) (k:Nat):(∃g,a[a.countP fun b=>decide (f b < k)]?=some g/\f g=k)↔∃b∈a,f b=k:=by
 constructor;rintro ⟨g,j,e⟩;exact ⟨g,zAd j,e⟩
 · rintro ⟨b,s,rfl⟩;obtain ⟨c,m,rfl⟩:=List.getElem_of_mem s;have l:=zAa m;have j:=aBI i (f a[c]) c _ l;have v:¬c < a.countP fun b=>decide (f b < f a[c]):=fun d=>by have:=j.2 d;omega
   rcases zBe (a.countP fun b=>decide (f b < f a[c])) c with e | e
   · have n:(a.countP fun b=>decide (f b < f a[c])) < a.length:=oM;have q:=zAa n;have r:=aBI i (f a[c]) _ _ q;have t:¬f a[a.countP fun b=>decide (f b < f a[c])] < f a[c]:=fun d=>by have:=r.1 d;omega
     have u:=zAr.1 i _ _ n m e;omega
   have d:(a.countP fun b=>decide (f b < f a[c]))=c:=oM;rw [d];exact ⟨_,l,rfl⟩
def eN (a:Nat) (ks:List Nat):Array (Fin (a+1)):=(ks.map fun b=>(⟨b %(a+1),Nat.mod_lt _ (Nat.succ_pos a)⟩:Fin (a+1))).toArray
def iD {d:Nat} {ks:List Nat} (g:∀a∈ks,a < d+1) {c a:Nat} (b:ks[c]?=some a):((eN d ks)[c]!).val=a:=by
 have e:c < ks.length:=(zAc.1 b).1;have i:=g a (zAd b);have f:ks[c]=a:=by rw [zAa e] at b;injection b
 rw [aBn _ _ (by simpa [eN] using e)];simp [eN,f,zBt i]
def wJ {b:Nat} {ks:List Nat} (d:∀a∈ks,a < b+1) (c:Nat->Bool):(eN b ks).toList.countP (fun f=>c f.val)=ks.countP c:=by
 unfold eN;rw [List.countP_map];refine List.countP_congr fun a e=>?_;simp [zBt (d a e)]
def oD {w:World} {b f:Nat} {ks:List Nat} {c:Array Value} (g:Bk w f 3 c) (i:∀k∈ks,k < b+1) (ht:c.toList.take ks.length=ks.map sv):Holds (dT b) w f 0 (eN b ks):=by
 intro a j;have d:a < ks.length:=by simpa [eN] using j
 rw [zBi];refine ⟨?_,g.frozen a⟩;have e:(c.toList.take ks.length)[a]?=(ks.map sv)[a]?:=by rw [ht]
 rw [zBr,zBw d,zAf,zAa d,Array.getElem?_toList] at e;rw [g.cell,e];have:=iD i (zAa d);simp [dT,this,sv]
def aAP {w e:World} {a c:Nat} {b:Array (Fin (a+1))} (i:Holds (dT a) w c 0 b) (g:SW (dT a) w c 0 b e):Below w.heap.size w e:=by
 obtain ⟨d,k,rfl⟩:=g;unfold sortWorld;have f:Go.Sort.putRow (dT a) (Go.Sort.ahead w d) c 0 b=Go.Sort.ahead w d:=Go.Sort.putRow_self (dT a) _ c 0 b i;rw [f];exact ⟨rfl,rfl,rfl,by show w.heap.size<=(w.heap++k).size;simp,fun l j=>Go.Sort.heap_grow_old _ _ j⟩
def rO (a b:Int):Lib.compareInt a b < 0↔a < b:=by
 unfold Lib.compareInt;split
 · simp [*]
 · split <;> simp [*]
def aBJ (a b:Int):Lib.compareInt a b=0↔a=b:=by
 unfold Lib.compareInt;split;simp;omega;split;simp;omega;simp;omega
section
variable {w : World} {B gp ga : Nat} {vl vo vt vf : Value} {R P : Nat} {ks : List Nat} {C : List (Nat × Nat)} {tk : List Bool} {fr : List Nat}
def PermAt.prd (c:PermAt w B gp ga vl vo vt vf R P ks C tk fr) {e:Nat} {w':World} (j:w'.cell? e=some (.pointer (some gp))) (g:Below w.heap.size w w'):∃a i b,vl=.slice a i b/\PRd w' e gp a i b C:=by
 obtain ⟨a,b,d,_⟩:=aJ c.lrow;refine ⟨a,C.length,b,d,j,?_,?_⟩;have:=(c.blk.below g c.blk.lt).cell 1;rw [d] at this;exact this;have f:=aF c.lrow g;rw [d] at f;exact Rd.of_own f
end
def aDc {ks:List Nat} {C:List (Nat×Nat)} {c row:Nat} (m:C.length=c+1) (o:∀a∈ks,a < C.length) (p:ks.Pairwise (fun k l=>aY C k < aY C l)):
 ((eN c ks).toList.countP (fun b=>decide (Lib.compareInt (aY C b.val:Nat) row < 0)))=ks.countP (fun a=>decide (aY C a < row))/\
 (decide (((eN c ks).toList.countP (fun b=>decide (Lib.compareInt (aY C b.val:Nat) row < 0))) < (eN c ks).size)&&decide (Lib.compareInt (aY C ((eN c ks)[((eN c ks).toList.countP (fun b=>decide (Lib.compareInt (aY C b.val:Nat) row < 0)))]!).val:Nat) row=0))=decide (∃a∈ks,aY C a=row):=by
 have g:∀a∈ks,a < c+1:=fun a n=>by rw [<-m];exact o a n
 have i:(eN c ks).toList.countP (fun b=>decide (Lib.compareInt (aY C b.val:Nat) row < 0))=ks.countP (fun a=>decide (aY C a < row)):=by rw [<-wJ g (fun a=>decide (aY C a < row))];congr 1;funext b;rw [decide_eq_decide,rO];omega
 refine ⟨i,?_⟩;rw [i,Bool.eq_iff_iff];simp only [zBd,zBz,aBJ];rw [<-aAi (f:=aY C) p row];constructor;rintro ⟨d,j⟩;have e:(ks.countP fun a=>decide (aY C a < row)) < ks.length:=(by simpa [eN] using d);refine ⟨_,zAa e,?_⟩;rw [iD g (zAa e)] at j;omega;rintro ⟨b,d,j⟩;have e:=(zAc.1 d).1;refine ⟨by simpa [eN] using e,?_⟩;rw [iD g d];omega
def xS (B gp ga:Nat) (vl vo vt vf:Value) (R P:Nat) (ks:List Nat) (C:List (Nat×Nat)) (tk:List Bool) (fr:List Nat) (row:Nat) (w:World) (d:PermAt w B gp ga vl vo vt vf R P ks C tk fr) (G:ks.Pairwise (fun k e=>aY C k < aY C e)) (Q:ks.length<=1099511627776):
 Calls prog 155 #[gp,(row:Int)] w fun a l=>a=.returned (.tuple #[.int .i64 ((ks.countP (fun b=>decide (aY C b < row)):Nat):Int),.bool (decide (∃b∈ks,aY C b=row))])/\Below w.heap.size w l:=by
 have aj:=d.blk.lt;have n:Below w.heap.size w (w.alloc (.cells #[gp] 107)):=bR.alloc nL _;have Y:w.cell? ⟨gp,2,none⟩=some vo:=(d.blk.cell 2).trans rfl;have O:∀g o f,vo=.slice g o f->Calls prog 211 #[.slice g o f,(row:Int),.func (.func 212) #[] #[w.heap.size]] (w.alloc (.cells #[gp] 107)) fun a l=>a=.returned (.tuple #[.int .i64 ((ks.countP (fun b=>decide (aY C b < row)):Nat):Int),.bool (decide (∃b∈ks,aY C b=row))])/\Below w.heap.size w l:=by
  intro g o f J;rcases zBa ks.length with r | r;have a7:ks= []:=zBk r;obtain ⟨X,Z,i,_⟩:=aJ d.orow;rw [J] at i;injection i with _ i _;rw [r] at i;subst i;subst a7;refine (Any.slices_BinarySearchFunc_none shBin g f (.int .i64 (row:Int)) (.func (.func 212) #[] #[w.heap.size]) _).mono ?_;rintro a l ⟨rfl,rfl⟩;exact ⟨by simp,n⟩
  · rcases d.orow.2 with ⟨_,a⟩|⟨m,ad,a0,a,ah,a5,al,ak,am,ht⟩;omega
    · rw [J] at a;injection a with e1 e2 e3;subst e1 e2 e3;rw [zBl] at ht;obtain ⟨k0,a6⟩:∃b,b∈ks:=(by obtain ⟨j,ac⟩:=List.exists_mem_of_length_pos r;exact ⟨j,ac⟩);obtain ⟨c,z⟩:∃c,C.length=c+1:=⟨C.length - 1,by have:=d.lt k0 a6;omega⟩;have F:∀b∈ks,b < c+1:=fun b Q=>by rw [<-z];exact d.lt b Q
      have t:Bk w m 3 a0:=a5;have s:=t.below n t.lt;have M:=oD s F ht;have a3:(w.alloc (.cells #[gp] 107)).cell? w.heap.size=some (.pointer (some gp)):=(Bk.new w 107 #[gp]).cell 0;have a4:CmpLaysT prog 212 #[w.heap.size] (dT c) (.int .i64 (row:Int)) (fun j=>Lib.compareInt (aY C j.val:Nat) row) m 0 (eN c ks).size (w.alloc (.cells #[gp] 107)):=(by intro I H u ai j;have E:=iW (enc:=dT c) s.lt 0 I u H;obtain ⟨g,o,f,a,U⟩:=d.prd a3 n;have aa:PRd (sortWorld (dT c) (w.alloc (.cells #[gp] 107)) m 0 I u H) w.heap.size gp g o f C:=(by refine ⟨?_,?_,?_⟩;exact (E.cell (p:=w.heap.size) (by simp) (fun a=>by have:=t.lt;have af:w.heap.size=m:=a;omega)).trans U.box;exact (E.cell (p:=⟨gp,1,none⟩) (by simp;omega) (Bk.ne d.blk t dC)).trans U.sl;have a8:=aF d.lrow n;have S:=aA (w':=sortWorld (dT c) (w.alloc (.cells #[gp] 107)) m 0 I u H) a8 fun e ae _ q=>E.bk q (Bk.ne q s dC);obtain ⟨X,Z,i,_⟩:=aJ d.lrow;rw [a] at i S;injection i with e91 e92 e93;subst e92;exact Rd.of_own S);exact (vD w.heap.size gp g o f C j.val row _ aa (by rw [z];exact j.isLt)).mono fun _ _ ⟨a1,a2⟩=>⟨a1,0,#[],by rw [<-a2,Go.Sort.grow_empty];rfl⟩);have a9:∀k e,k<=e->e < (eN c ks).size->Lib.compareInt (aY C ((eN c ks)[e]!).val:Nat) row < 0->Lib.compareInt (aY C ((eN c ks)[k]!).val:Nat) row < 0:=(by intro k e x y T;have q:e < ks.length:=(by simpa [eN] using y);rw [iD F (zAa q),rO] at T;rw [iD F (zAa (show k < ks.length by omega)),rO];rcases Nat.eq_or_lt_of_le x with rfl | x;exact T;have:=zAr.1 G k e oM q x;omega);have V:(eN c ks).size=ks.length:=(by simp [eN]);have v:=Any.slices_BinarySearchFunc shBin (dT c) (kW c) (.int .i64 (row:Int)) (fun j=>Lib.compareInt (aY C j.val:Nat) row) 212 #[w.heap.size] m 0 f (eN c ks) (w.alloc (.cells #[gp] 107)) (enters_of func212 kR rfl) a4 M s.lt (by rw [V];omega) a9;obtain ⟨K,L⟩:=aDc (row:=row) z d.lt G;rw [K] at L;rw [K,L] at v;rw [V] at v;refine v.mono ?_;rintro a l ⟨rfl,ab⟩;exact ⟨rfl,n.trans ((aAP M ab).mono (by simp))⟩
 obtain ⟨g,f,a,_⟩:=aJ d.orow;have N:=O _ _ _ a;rw [a] at Y;obtain ⟨W,D⟩:∃W,ks.countP (fun b=>decide (aY C b < row))=W:=⟨_,rfl⟩;obtain ⟨ag,A⟩:∃e,decide (∃b∈ks,aY C b=row)=e:=⟨_,rfl⟩;rw [D,A] at N;rw [D,A];clear O d G D A n a;go_enter func155,ntmps155;go_wp2_with fail;refine N.mono ?_;rintro a l ⟨rfl,y⟩;go_wp2_with fail;go_ret2;exact ⟨rfl,y⟩
def fI (b:Nat->Bool):List Nat->Nat->Int
 | [],_=>-1
 | k::l,a=>if b k then (a:Int) else fI b l (a+1)
def uC {e:Nat->Bool} {b:List Nat} (c:∀a∈b,e a=false) (d:Nat):fI e b d=-1:=by
 induction b generalizing d with
 | nil=>rfl
 | cons a b g=>
   unfold fI;rw [zBv (by rw [c a (by simp)];simp)];exact g (fun a f=>c a (by simp [f])) _
def uB {p:Nat->Bool} {l:List Nat} (b:∃a∈l,p a=true) (d:Nat):∃(e a:Nat),fI p l d=((d+e:Nat):Int)/\l[e]?=some a/\p a=true:=by
 induction l generalizing d with
 | nil=>obtain ⟨a,f,_⟩:=b;cases f
 | cons i l o=>
   unfold fI;by_cases c:p i=true;rw [zBw c];exact ⟨0,i,rfl,rfl,c⟩;rw [zBv c];obtain ⟨a,f,g⟩:=b;have n:a∈l:=(by rcases List.mem_cons.1 f with rfl | b;exact absurd g c;exact b);obtain ⟨e,q,j,k,m⟩:=o ⟨a,n,g⟩ (d+1);exact ⟨e+1,q,by rw [j];congr 1;omega,by simpa using k,m⟩
def zZ {b:Nat} {ks:List Nat} (d:∀a∈ks,a < b+1) (e:Nat->Bool) (f:Fin (b+1)) (c:Nat):Lib.idxByFrom (fun (_ j:Fin (b+1))=>e j.val) f ((ks.map fun a=>(⟨a %(b+1),Nat.mod_lt _ (Nat.succ_pos b)⟩:Fin (b+1)))) c=fI e ks c:=by
 induction ks generalizing c with
 | nil=>rfl
 | cons a k i=>
   rw [List.map_cons];unfold Lib.idxByFrom fI;simp only [zBt (d a (by simp))];rw [i (fun a g=>d a (by simp [g]))]
def mY (B gp ga:Nat) (vl vo vt vf:Value) (R P:Nat) (ks:List Nat) (C:List (Nat×Nat)) (tk:List Bool) (fr:List Nat) (d:Nat) (w:World) (f:PermAt w B gp ga vl vo vt vf R P ks C tk fr) (G:ks.length<=1099511627776):
 Calls prog 156 #[gp,(d:Int)] w fun b l=>b=.returned (.int .i64 (fI (fun a=>decide (dM C a=d)) ks 0))/\Below w.heap.size w l:=by
 have a3:=f.blk.lt;have J:w.cell? ⟨gp,2,none⟩=some vo:=(f.blk.cell 2).trans rfl;obtain ⟨g,p⟩:∃g,g=(w.alloc (.cells #[gp] 107)).alloc (.cells #[(d:Int)] 3):=⟨_,rfl⟩;have e:Below w.heap.size w g:=p ▸(bR.alloc nL _).alloc (by simp) _;have r:Bk g w.heap.size 107 #[gp]:=p ▸(Bk.new _ _ _).alloc _;have s:Bk g (w.heap.size+1) 3 #[(d:Int)]:=by have:=Bk.new (w.alloc (.cells #[gp] 107)) 3 #[(d:Int)];rw [<-p] at this;simpa using this
 have D:∀k n i,vo=.slice k n i->Calls prog 213 #[.slice k n i,.func (.func 214) #[] #[w.heap.size,.pointer (some ⟨w.heap.size+1,0,none⟩)]] g fun b l=>b=.returned (.int .i64 (fI (fun a=>decide (dM C a=d)) ks 0))/\Below w.heap.size w l:=by
  intro k n i x;rcases zBa ks.length with o | o;have W:ks= []:=zBk o;obtain ⟨Z,a0,m,_⟩:=aJ f.orow;rw [x] at m;injection m with _ m _;rw [o] at m;subst m;subst W;refine (AnyE.slices_IndexFunc_empty shIdx k i (.func (.func 214) #[] #[w.heap.size,.pointer (some ⟨w.heap.size+1,0,none⟩)]) _).mono ?_;rintro b l ⟨rfl,rfl⟩;exact ⟨rfl,e⟩
  · rcases f.orow.2 with ⟨_,b⟩|⟨y,a1,K,b,a2,S,a5,a4,a6,ht⟩;omega
    · rw [x] at b;injection b with e1 e2 e3;subst e1 e2 e3;rw [zBl] at ht;obtain ⟨k0,V⟩:∃a,a∈ks:=(by obtain ⟨j,X⟩:=List.exists_mem_of_length_pos o;exact ⟨j,X⟩);obtain ⟨c,E⟩:∃c,C.length=c+1:=⟨C.length - 1,by have:=f.lt k0 V;omega⟩;have H:∀a∈ks,a < c+1:=fun a G=>by rw [<-E];exact f.lt a G
      have F:Bk w y 3 K:=S;have T:=F.below e F.lt;have M:=oD T H ht;have u:PredAt prog 214 #[w.heap.size,.pointer (some ⟨w.heap.size+1,0,none⟩)] (dT c) (fun j=>decide (dM C j.val=d)) g:=(by intro v j q;have O:=r.below q r.lt;have Q:=s.below q s.lt;obtain ⟨k,n,i,b,u⟩:=f.prd (w':=v) (O.cell 0) (e.trans (q.mono e.size));exact sB w.heap.size (w.heap.size+1) gp k n i C j.val d v u (Q.cell 0) (by rw [E];exact j.isLt));have a7:ks.length=(ks.map fun a=>(⟨a %(c+1),Nat.mod_lt _ (Nat.succ_pos c)⟩:Fin (c+1))).length:=(by simp);have z:=AnyE.slices_IndexFunc shIdx (dT c) (fun j=>decide (dM C j.val=d)) 214 #[w.heap.size,.pointer (some ⟨w.heap.size+1,0,none⟩)] (enters_of func214 kR rfl) y 0 ks.length i (ks.map fun a=>(⟨a %(c+1),Nat.mod_lt _ (Nat.succ_pos c)⟩:Fin (c+1))) g u (by simp) oM (fun Y U=>by
       have L:=(M Y (by simpa [eN] using U)).1;simpa [eN] using L)
      rw [zAg (by simp),Lib.idxBy,zZ H (fun a=>decide (dM C a=d))] at z;refine z.mono ?_;rintro b l ⟨rfl,a8,rfl⟩;exact ⟨rfl,e.os,e.tape,e.output,e.size,e.block⟩
 obtain ⟨k,i,b,_⟩:=aJ f.orow;have A:=D _ _ _ b;rw [b] at J;obtain ⟨I,t⟩:∃I,fI (fun a=>decide (dM C a=d)) ks 0=I:=⟨_,rfl⟩;rw [t] at A;rw [t];subst p;clear D f t e b r s;go_enter func156,ntmps156;go_wp2_with fail;refine A.mono ?_;rintro b l ⟨rfl,N⟩;go_wp2_with fail;go_ret;exact ⟨rfl,N⟩
end
section
open Go.RowKit
def qA:(prog.info? 179).map (fun a=>(a.zero,a.size,a.bytes))=some (some (.agg #[.int .i64 0,.int .i64 0]),2,16):=by kernel_rfl
def PF (gp ga:Nat) (vl vo vt:Value) (a:Nat):Prop:=a=gp∨a=ga∨vl.ownBlock=some a∨vo.ownBlock=some a∨vt.ownBlock=some a
def iB (C:List (Nat×Nat)) (a:Nat×Nat):cJ (C++ [a])=cJ C++gX a:=by simp [cJ]
def PermAt.below {w c:World} {B gp ga:Nat} {vl vo vt vf:Value} {R P:Nat} {ks:List Nat} {C:List (Nat×Nat)} {tk:List Bool} {fr:List Nat} (a:PermAt w B gp ga vl vo vt vf R P ks C tk fr) (b:Below w.heap.size w c):PermAt c B gp ga vl vo vt vf R P ks C tk fr:=
 ⟨a.blk.below b a.blk.lt,aF a.lrow b,aF a.orow b,a.ar.below b a.ar.lt,aF a.trow b,aF a.frow b,a.apart,a.lt,a.lo⟩
def dL {d:Nat->Prop} {w j:World} {B:Nat} {c:TypeId} {g f:Nat} {i:Value} {k:List Value} (m:w.ownsRow B c g i f k) (o:Keep d w j) (n:∀a b,d a->Bk w a c b->False):j.ownsRow B c g i f k:=
 aA m fun a b _ e=>o.bk e (fun l=>n a b l e)
def aA6 {w:World} {B g cap:Nat} {C:List (Nat×Nat)} {y:Nat×Nat} (l:w.ownsRow B 179 2 (.slice (some g) (C.length+1) cap) (C.length+1) (cJ (C++ [y]))) (a:Nat×Nat):
 ((w.setCell ⟨g,C.length*2,none⟩ (.int .i64 (a.1:Int))).setCell ⟨g,C.length*2+1,none⟩ (.int .i64 (a.2:Int))).ownsRow B 179 2 (.slice (some g) (C.length+1) cap) (C.length+1) (cJ (C++ [a])):=by
 rcases l.2 with ⟨c,_⟩|⟨x,v,k,c,m,n,o,p,q,e⟩
 · cases c
 · injection c with h8 h9 h10;injection h8 with h8;injection h8 with h8 _;subst h8 h10;have r:Bk w g 179 k:=n;have s:=(r.set (C.length*2) (.int .i64 (a.1:Int))).set (C.length*2+1) (.int .i64 (a.2:Int));refine ⟨by rw [jT];simp,.inr ⟨g,cap,_,rfl,m,s,o,p,by simpa using q,?_⟩⟩;rw [iB] at e⊢;have f:=jT C;apply List.ext_getElem?;intro b;have d:=congrArg (fun t=>t[b]?) e;simp only [zBr,Array.getElem?_toList] at d;rw [zBr,Array.getElem?_toList,zCc,zCc];by_cases u:b < C.length*2
   · rw [zBw oM] at d⊢;rw [zBv oM,zBv oM,d,zAn oM,zAn oM]
   · by_cases i:b=C.length*2;subst i;rw [zBw oM,zBv oM,zBw rfl,zBw oM,zAo oM,f,Nat.sub_self];rfl
     · by_cases j:b=C.length*2+1;subst j;rw [zBw oM,zBw rfl,zBw (by simp;omega),zAo oM,f,show C.length*2+1 - C.length*2=1 by omega];rfl
       · rw [zBv oM,zBg (by simp [gX];omega)]
def vE (B gp ga:Nat) (vl vo vt:Value) (R P:Nat) (ks:List Nat) (C:List (Nat×Nat)) (tk:List Bool) (row q:Nat) (w:World) (m:PermAt w B gp ga vl vo vt (.slice none 0 0) R P ks C tk []) (bA:ks.Pairwise (fun c2 f=>aY C c2 < aY C f))
 (aF:∀i∈ks,aY C i < row) (bz:∀i∈ks,dM C i≠q) (cD:row < R) (cC:q < P) (ht:tk.length=C.length) (ce:C.length<=900000) (n:ks.length<=900000) (bf:B<=w.heap.size):
 Calls prog 73 #[gp,(row:Int),(q:Int)] w fun v o=>v=.returned (.int .i64 0)/\Keep (PF gp ga vl vo vt) w o/\∃aR aS U,PermAt o B gp ga aR aS U (.slice none 0 0) R P (ks++ [C.length]) (C++ [(row,q)]) (tk++ [true]) []/\(aS.ownBlock=vo.ownBlock∨∃e,aS.ownBlock=some e/\w.heap.size<=e)/\(aR.ownBlock=vl.ownBlock∨∃e,aR.ownBlock=some e/\w.heap.size<=e)/\(U.ownBlock=vt.ownBlock∨∃e,U.ownBlock=some e/\w.heap.size<=e):=by
 obtain ⟨cp,ci,cm,cn,co⟩:=info_parts qA;have bl:ks.countP (fun i=>decide (aY C i < row))=ks.length:=List.countP_eq_length.2 fun i n=>by simpa using aF i n
 have bm:decide (∃i∈ks,aY C i=row)=false:=by rw [decide_eq_false_iff_not];rintro ⟨i,n,v⟩;have:=aF i n;omega
 have bu:fI (fun i=>decide (dM C i=q)) ks 0=-1:=uC (fun i n=>by simpa using bz i n) 0;have c4:w.cell? ⟨gp,3,none⟩=some (.int .i64 (R:Int)):=(m.blk.cell 3).trans rfl;have c5:w.cell? ⟨gp,4,none⟩=some (.int .i64 (P:Int)):=(m.blk.cell 4).trans rfl;have X:=xS B gp ga vl vo vt (.slice none 0 0) R P ks C tk [] row w m bA oM;rw [bl,bm] at X;have ay:=fun c1 cf=>mY B gp ga vl vo vt (.slice none 0 0) R P ks C tk [] q c1 cf oM;simp only [bu] at ay;obtain ⟨s,aC⟩:=eqx ks.length;obtain ⟨b,bg⟩:=eqx C.length;rw [aC] at X;obtain ⟨b4,aa,Hn,u,b7⟩:=hqq5 ay m aC bg ht;have cB:b<=900000:=oM;have cF:s<=900000:=oM;have ac:=lhd bf;clear bl bm bu ay bA aF bz m aC bg ht ce n bf;go_enter func73,ntmps73;go_wp2_with fail;refine X.mono ?_;clear X;rintro v w1 ⟨rfl,an⟩;have D:=aa.out.below an;obtain ⟨ab,ad⟩:=hqq2 D an;clear D an c4 c5;go_wp2_with fail;refine (b4.out w1 ab.out).mono ?_;rintro v I ⟨rfl,ao⟩;have M:=ab.out.below ao;have bi:=ad.out.trans (ao.mono ad.out.size);have c3:I.cell? gp=some (.pointer (some ga)):=(M.blk.cell 0).trans rfl;obtain ⟨k,z⟩:=hqq2 M bi;clear M bi ao ab ad b4;go_wp2_with fail;obtain ⟨aX,bb,a8,_⟩:=aJ k.out.trow;have a4:tk.length=b:=by rw [b7.out,u.out]
 have al:=lI B ga aX bb none 0 b tk I (by have:=k.out.ar;rw [a8,a4] at this;exact this) (by have:=k.out.trow;rw [a8,a4] at this;exact this) (by have:=ac.out;have:=z.out.size;omega) oM;have bI:vt=.slice aX b bb:=by rw [a8,a4]
 rw [<-bI] at al;refine al.mono ?_;clear al a8 bI a4;rintro v aT ⟨rfl,N,U,bj,bx,bn⟩;have S:=N.bk k.out.blk (fun a=>by
  rcases a with a | a;exact Bk.ne k.out.blk k.out.ar dC a
  · exact aQ k.out.trow k.out.blk dC a.symm)
 have a5:=dL k.out.lrow N (fun f j a c=>by
  rcases a with a | a;subst a;exact Bk.ne c k.out.ar dC rfl
  · exact aQ k.out.trow c dC a.symm)
 have bF:=dL k.out.orow N (fun f j a c=>by
  rcases a with a | a;subst a;exact Bk.ne c k.out.ar dC rfl
  · exact aQ k.out.trow c dC a.symm)
 obtain ⟨bO,c7,bC,_⟩:=aJ a5;have aH:vl=.slice bO b c7:=by rw [bC,u.out]
 have Q:aT.cell? ⟨gp,1,none⟩=some vl:=(S.cell 1).trans rfl;have ca:=S.frozen 1;rw [aH] at Q;have ch:=S.lt;rw [u.out] at a5;have cd:B<=aT.heap.size:=by have:=N.size;have:=ac.out;have:=z.out.size;omega
 obtain ⟨ah,af,b6,bP,ag,K,b9,b8⟩:=hqq8 N bj bx bn S a5 bF aH;have c8:=(World.cell?_alloc_lt aT (Obj.cells #[.int .i64 0,.int .i64 0] 179) ⟨gp,1,none⟩ ch).trans Q;clear N bj bx bn S a5 bF bC aH c3;go_wp2_with fail;refine wp_loop_rounds 2 ?_;rw [rounds_succ];go_wp2_with (at_builtin;refine aZ _ rfl (.tmp 72) (.tmp 74) _ rfl B 179 cp (.agg #[.int .i64 0,.int .i64 0]) 2 16 underlying99 ci cm cn co rfl dC vl b _ b8.out.symm K.out rfl rfl (by simp [Value.oneCell']) (by unfold maxLen;omega) oM cd ?_;intro cH t aD au cG bh;have Y:=ag.out.grown au (aQ K.out ag.out dC);have bd:t.cell? ⟨gp,1,none⟩=some vl:=(Y.cell 1).trans rfl;have c9:=Y.frozen 1;rw [b8.out] at bd;obtain ⟨bN,l,rfl,cl⟩:=aO aD;obtain ⟨A,ai,O,b0⟩:=hqq4 Y aD au bh;clear cl aD au bh Y);obtain ⟨d,bc,rfl,cE,aq,cg⟩:∃d,∃V:Array Value,bN=some ⟨d,0,none⟩/\B<=d/\Bk t d 179 V/\b*2+1 < V.size:=by rcases ai.out.2 with ⟨D,M⟩|⟨e,c6,V,D,M,cc,cv,cw,cx,cy⟩;omega;injection D with D _ _;exact ⟨e,V,D,M,cc,by omega⟩
 have bt:gp≠d:=Bk.ne A.out aq dC;have T:=A.out.set 1 (.slice (some ⟨d,0,none⟩) (b+1) l);have E:=aq.far (p:=⟨gp,1,none⟩) (fun v=>bt v.symm) (.slice (some ⟨d,0,none⟩) (b+1) l);have az:Keep (PF gp ga vl vo vt) I (t.setCell ⟨gp,1,none⟩ (.slice (some ⟨d,0,none⟩) (b+1) l)):=
  ((ah.out.mono (G:=PF gp ga vl vo vt) (fun f _ a=>by rcases a with a | a;exact .inr (.inl a);exact .inr (.inr (.inr (.inr a))))).grown O.out (fun i n=>.inl (.inr (.inr (.inl n))))).setCell (.inl (.inl rfl)) _
 have aI:=aA (w':=t.setCell ⟨gp,1,none⟩ (.slice (some ⟨d,0,none⟩) (b+1) l)) ai.out fun f j _ c=>c.far (p:=⟨gp,1,none⟩) (Bk.ne c A.out dC) _;have bG:=aA (w':=t) b9.out fun f j _ c=>c.grown O.out (aQ K.out c dC);have a7:=aA (w':=t.setCell ⟨gp,1,none⟩ (.slice (some ⟨d,0,none⟩) (b+1) l)) bG fun f j _ c=>c.far (p:=⟨gp,1,none⟩) (Bk.ne c A.out dC) _;have aw:=af.out.grown O.out (aQ K.out af.out dC);have ax:=aw.far (p:=⟨gp,1,none⟩) (Bk.ne aw A.out dC) (.slice (some ⟨d,0,none⟩) (b+1) l);have bJ:=aA (w':=t) b6.out fun f j _ c=>c.grown O.out (aQ K.out c dC);have aM:=aA (w':=t.setCell ⟨gp,1,none⟩ (.slice (some ⟨d,0,none⟩) (b+1) l)) bJ fun f j _ c=>c.far (p:=⟨gp,1,none⟩) (Bk.ne c A.out dC) _;have bo:(Value.slice (some ⟨d,0,none⟩) (b+1) l).ownBlock=vl.ownBlock∨∃e,(Value.slice (some ⟨d,0,none⟩) (b+1) l).ownBlock=some e/\I.heap.size<=e:=by rcases b0.out with a | a;exact .inl a;exact .inr ⟨_,a,by have:=ah.out.size;omega⟩
 clear ah af b6 ag K b9 A ai O b0 Q ca c8 c9 bd bG aw bJ;generalize t.setCell ⟨gp,1,none⟩ (.slice (some ⟨d,0,none⟩) (b+1) l)=w6 at T E az aI a7 ax aM⊢;have Q:w6.cell? ⟨gp,1,none⟩=some (.slice (some ⟨d,0,none⟩) (b+1) l):=(T.cell 1).trans rfl;have aU:=E.cell (b*2);have aV:=E.cell (b*2+1);rw [zAq oM] at aU aV;have cq:=E.frozen (b*2);have cr:=E.frozen (b*2+1);generalize bc[b*2]' oM=u0 at aU;generalize bc[b*2+1]' oM=u1 at aV;obtain ⟨bT,ae,b5,bW,bY,b2,bZ,b1⟩:=hqq8 T E az aI a7 ax aM bo;have cj:decide (b+1<=b)=false:=by simp
 have ck:decide ((b:Int)+1<=(b:Int))=false:=by simp;omega
 have W:w6.cell? ⟨gp,2,none⟩=some vo:=(T.cell 2).trans rfl;obtain ⟨aW,ba,bE,_⟩:=aJ a7;have aL:vo=.slice aW s ba:=by rw [bE,Hn.out]
 have aj:=lhd aL;rw [aL] at W;clear T E az aI a7 ax aM bo bE aL aq cg;rw [rounds_succ];go_wp2_with fail
 have a6:=aA6 (C:=C) (y:=(0,0)) (g:=d) (cap:=l) (w:=w6) (B:=B) (by
  rw [u.out,iB];exact bW.out) (row,q)
 rw [u.out] at a6;have H:Keep (fun f=>f=d) w6 ((w6.setCell ⟨d,b*2,none⟩ (.int .i64 (row:Int))).setCell ⟨d,b*2+1,none⟩ (.int .i64 (q:Int))):=((Keep.refl (fun f=>f=d) w6).setCell (p:=⟨d,b*2,none⟩) (.inl rfl) _).setCell (p:=⟨d,b*2+1,none⟩) (.inl rfl) _;have aG:((w6.setCell ⟨d,b*2,none⟩ (.int .i64 (row:Int))).setCell ⟨d,b*2+1,none⟩ (.int .i64 (q:Int))).heap.size=w6.heap.size:=by simp [World.setCell]
 rw [<-aG];clear aU aV cq cr Q W cj ck;generalize (w6.setCell ⟨d,b*2,none⟩ (.int .i64 (row:Int))).setCell ⟨d,b*2+1,none⟩ (.int .i64 (q:Int))=w7 at a6 H aG⊢;have bs:=H.bk bT.out (fun a=>bt a);have bq:=H.bk b2.out (fun a=>by subst a;exact Bk.ne b2.out ae.out dC rfl);have bH:=dL bY.out H (fun f j a c=>by subst a;exact Bk.ne c ae.out dC rfl);have bK:=dL bZ.out H (fun f j a c=>by subst a;exact Bk.ne c ae.out dC rfl);have cz:B<=I.heap.size:=by have:=ac.out;have:=z.out.size;omega
 have cA:=b5.out.size;have ak:B<=(w7.alloc (.cells #[(b:Int)] 3)).heap.size:=by simp;omega
 have aP:w7.heap.size < (w7.alloc (.cells #[(b:Int)] 3)).heap.size:=by simp
 have a3:Rd (w7.alloc (.cells #[(b:Int)] 3)) (w7.alloc (.cells #[(b:Int)] 3)).heap.size 1 (some ⟨w7.heap.size,0,none⟩) 1 [sv b]:=(Rd.new_ w7 3 1 #[(b:Int)] rfl).mono (by simp);have r:=bH.alloc (.cells #[(b:Int)] 3);have aK:=a6.alloc (.cells #[(b:Int)] 3);have aN:=bK.alloc (.cells #[(b:Int)] 3);have a0:=bs.alloc (.cells #[(b:Int)] 3);have Z:=bq.alloc (.cells #[(b:Int)] 3);have ap:Below w7.heap.size w7 (w7.alloc (.cells #[(b:Int)] 3)):=bR.alloc nL _;obtain ⟨cb,av⟩:=eqx w7.heap.size;rw [av] at a3 aP;rw [av];generalize w7.alloc (.cells #[(b:Int)] 3)=w8 at ak a3 r aK aN a0 Z ap aP⊢;have aB:Keep (PF gp ga vl vo vt) I w8:=(b5.out.trans' (H.trans' (Keep.of_below ap) (fun _ _ a=>a)) (fun f c a=>by
  rcases b1.out with m |⟨e,m,cu⟩;exact .inr (.inr (.inl (by rw [<-m,a];rfl)))
  · exfalso;have:d=e:=(by simpa [Value.ownBlock] using m);omega))
 rw [Hn.out,aj.out] at r;have bv:=pN B aW s ba (ks.map sv) (some ⟨cb,0,none⟩) 1 b w8 r a3 ak oM;refine bv.mono ?_;clear bv;rintro v x ⟨bM,rfl,aE,F,am⟩;rw [<-aj.out] at F am r;have a1:=a0.grown F (aQ r a0 dC);have br:=Z.grown F (aQ r Z dC);have bD:=aA (w':=x) aK fun f j _ c=>c.grown F (aQ r c dC);have bL:=aA (w':=x) aN fun f j _ c=>c.grown F (aQ r c dC);have bw:=aB.grown F (fun i n=>.inl (.inr (.inr (.inr (.inl n)))));have bp:bM.ownBlock=vo.ownBlock∨∃e,bM.ownBlock=some e/\I.heap.size<=e:=by rcases am with a | a;exact .inl a;exact .inr ⟨_,a,aB.size⟩
 have W:x.cell? ⟨gp,2,none⟩=some vo:=(a1.cell 2).trans rfl;rw [aj.out] at W;have ct:=a1.frozen 2;obtain ⟨J,L,bB,_⟩:=aJ aE;obtain ⟨cs,b3,bS,bX,c0,bV,bU,bQ⟩:=hqq8 bB a1 br bD bL aE bw bp;clear a6 H aG bs bq bH bK ak aP a3 r aK aN a0 Z ap av aB F am a1 br bD bL aE bw bp;subst bB;go_wp2_with fail;go_ret;have a2:∀f a9 j,Bk x f a9 j->a9≠186->Bk (x.setCell ⟨gp,2,none⟩ (.slice J (s+1) L)) f a9 j:=fun f a9 j c ht=>c.far (p:=⟨gp,2,none⟩) (Bk.ne c b3.out ht) _;refine ⟨rfl,(Keep.of_below z.out).trans' (bU.out.setCell (.inl (.inl rfl)) _) (fun _ _ a=>a),.slice (some ⟨d,0,none⟩) (b+1) l,.slice J (s+1) L,U,⟨b3.out.set 2 _,?_,?_,a2 _ _ _ bS.out dC,?_,?_,?_,?_,aa.out.lo⟩,?_,?_,?_⟩;have:=aA (w':=x.setCell ⟨gp,2,none⟩ (.slice J (s+1) L)) bX.out fun f j _ c=>a2 _ _ _ c dC;simpa [u.out] using this;have:=aA (w':=x.setCell ⟨gp,2,none⟩ (.slice J (s+1) L)) bV.out fun f j _ c=>a2 _ _ _ c dC;simpa [Hn.out,u.out] using this;have:=aA (w':=x.setCell ⟨gp,2,none⟩ (.slice J (s+1) L)) c0.out fun f j _ c=>a2 _ _ _ c dC;simpa [b7.out,u.out] using this;exact World.ownsRow_nil _ _ _ _;rcases (Value.slice J (s+1) L).ownBlock with _ | e;exact .inl rfl;exact .inr (by simp [Value.ownBlock]);intro i n;rcases zCl.1 n with m | m;have:=aa.out.lt i m;simp;omega;simp at m;simp;omega;rcases bQ.out with a |⟨e,a,be⟩;exact .inl a;exact .inr ⟨e,a,by have:=z.out.size;omega⟩;rcases b1.out with a |⟨e,a,be⟩;exact .inl a;exact .inr ⟨e,a,by have:=z.out.size;omega⟩;rcases bP.out with a |⟨e,a,be⟩;exact .inl a;exact .inr ⟨e,a,by have:=z.out.size;omega⟩
def vC (a:Nat) (w:World) (m:a<=2147483648):
 Calls prog 71 #[(a:Int),.slice none 0 0] w fun d g=>∃gp ga,d=.returned (.tuple #[.pointer (some ⟨gp,0,none⟩),.int .i64 0])/\PermAt g w.heap.size gp ga (.slice none 0 0) (.slice none 0 0) (.slice none 0 0) (.slice none 0 0) a a [] [] [] []/\Below w.heap.size w g:=by
 have k:¬((a:Int) < 0):=oM;have l:¬((a:Int) > 2147483648):=oM;go_enter func71,ntmps71;go_wp2_with fail;refine (lR _).mono ?_;rintro d w1 ⟨rfl,b,e⟩;obtain ⟨i,c⟩:=hqq2 b e;have n:=b.lt;clear b e;go_wp2_with fail;refine wp_loop_rounds 1 ?_;rw [rounds_succ];go_wp2_with fail;go_ret2;have f:=c.out.size;exact ⟨_,_,rfl,⟨Bk.new _ _ _,World.ownsRow_nil _ _ _ _,World.ownsRow_nil _ _ _ _,i.out.alloc _,World.ownsRow_nil _ _ _ _,World.ownsRow_nil _ _ _ _,.inl rfl,fun o j=>(by cases j),⟨f,zAs _⟩⟩,c.out.alloc f _⟩
def bG (b:List Nat) (d c:Nat):List (Nat×Nat):=((List.range c).filter fun a=>b.getD a 0 % d==0).map fun a=>(a,b.getD a 0)
def vY (b:List Nat) (c a:Nat):bG b c (a+1)=if b.getD a 0 % c=0 then bG b c a++ [(a,b.getD a 0)] else bG b c a:=by
 unfold bG;rw [List.range_succ,List.filter_append,zAz];by_cases d:b.getD a 0 % c=0
 · rw [zBw d];simp only [List.filter_cons,d,beq_self_eq_true,if_true,List.filter_nil,List.map_cons,List.map_nil]
 · rw [zBv d];have:(b.getD a 0 % c==0)=false:=(by simpa using d);simp only [List.filter_cons,this,Bool.false_eq_true,if_false,List.filter_nil,List.map_nil,List.append_nil]
def iX {d:List Nat} {f c:Nat} {a:Nat×Nat} (b:a∈bG d f c):a.1 < c/\a.2=d.getD a.1 0:=by
 unfold bG at b;obtain ⟨g,e,rfl⟩:=zAy.1 b;have:=(zCr.1 e).1;exact ⟨by simpa using this,rfl⟩
def kN (e:List Nat) (d c:Nat):(bG e d c).Pairwise (fun a b=>a.1 < b.1):=by
 unfold bG;rw [List.pairwise_map];exact List.Pairwise.filter _ List.pairwise_lt_range
def tK {C:List (Nat×Nat)} {a:Nat} (b:a < C.length):(aY C a,dM C a)∈C:=by
 unfold aY dM;rw [zAb,zAa b];exact zBj b
def tJ {C:List (Nat×Nat)} (g:C.Pairwise (fun a b=>a.1 < b.1)):(List.range C.length).Pairwise (fun a b=>aY C a < aY C b):=by
 rw [zAr];intro e f i k j;have c:e < C.length:=by simpa using i
 have d:f < C.length:=by simpa using k
 have:=zAr.1 g e f c d j;simp only [List.getElem_range];unfold aY;rw [zAb,zAb,zAa c,zAa d];exact this
def Apt.next2 {j f:Value} {c:Option Addr} {g:Nat} (k:Apt j c) (m:f.ownBlock=j.ownBlock∨∃e,f.ownBlock=some e/\g<=e) (l:∀a,c=some a->a.block < g):Apt f c:=by
 intro a i b;rcases m with d |⟨e,d,n⟩;exact k a i (d.symm.trans b);rw [d] at b;injection b with b;have:=l a i;omega
def PermAt.foot {w:World} {B gp ga:Nat} {vl vo vt vf:Value} {R P:Nat} {ks:List Nat} {C:List (Nat×Nat)} {tk:List Bool} {fr:List Nat} (b:PermAt w B gp ga vl vo vt vf R P ks C tk fr) {c:Nat} (a:PF gp ga vl vo vt c):B<=c:=by
 rcases a with rfl | rfl | a | a | a;exact b.lo.1;exact b.lo.2;exact (b.lrow.lt _ a).1;exact (b.orow.lt _ a).1;exact (b.trow.lt _ a).1
def PermAt.keep {i:Nat->Prop} {w w':World} {B gp ga:Nat} {vl vo vt vf:Value} {R P:Nat} {ks:List Nat} {C:List (Nat×Nat)} {tk:List Bool} {fr:List Nat} (b:PermAt w B gp ga vl vo vt vf R P ks C tk fr) (f:Keep i w w')
 (e:∀d j g,i d->Bk w d j g->j∉ [186,179,3,228,4]):PermAt w' B gp ga vl vo vt vf R P ks C tk fr:=
 ⟨f.bk b.blk (fun a=>e _ _ _ a b.blk dC),dL b.lrow f (fun d g a c=>e _ _ _ a c dC),dL b.orow f (fun d g a c=>e _ _ _ a c dC),f.bk b.ar (fun a=>e _ _ _ a b.ar dC),dL b.trow f (fun d g a c=>e _ _ _ a c dC),dL b.frow f (fun d g a c=>e _ _ _ a c dC),b.apart,b.lt,b.lo⟩
structure LvInv (w2:World) (B1 B3 gl gk gp ga n rate:Nat) (A3:Option Addr) (c3:Nat) (rs:List Nat) (k:Nat) (vl vo vt:Value) (tk:List Bool) (wr:World):Prop where
 perm:PermAt wr B1 gp ga vl vo vt (.slice none 0 0) n n (List.range (bG rs rate k).length) (bG rs rate k) tk []
 len:tk.length=(bG rs rate k).length
 apt:Apt vo A3
 row:wr.ownsRow B3 3 1 (.slice A3 n c3) n (rs.map sv)
 blk:Bk wr gl 109 #[gk,gp,(rate:Int),.int .i64 0]
 below:Below w2.heap.size w2 wr
structure LiveAt (w:World) (Bw gl gk gp ga:Nat) (vl vo vt:Value) (B n rate:Nat) (L:List Nat) (C:List (Nat×Nat)) (tk:List Bool):Prop where
 blk:Bk w gl 109 #[gk,gp,(rate:Int),.int .i64 0]
 walk:WalkAt w Bw gk L
 perm:PermAt w B gp ga vl vo vt (.slice none 0 0) n n (List.range C.length) C tk []
end
end Go.Proofs.YtnmapianpjamnaaGreatDoor
