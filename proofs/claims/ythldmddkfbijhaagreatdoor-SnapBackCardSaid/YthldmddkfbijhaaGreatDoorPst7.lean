/- Lemmas of the walk. Conditions: each its own. -/
import Derived.Test.YthldmddkfbijhaaGreatDoorPst5
import Derived.Test.YthldmddkfbijhaaGreatDoorProg
import Derived.Test.YthldmddkfbijhaaGreatDoorShl
set_option linter.all false
set_option maxRecDepth 100000
set_option maxHeartbeats 4000000
open Go.Proofs.Tryz
namespace Go.Proofs.YthldmddkfbijhaaGreatDoor
section
open Go.RowKit
def bM (a:List Nat) (b:Nat):Nat:=a.getD ((b+a.length - 1)% a.length) 0
def aE (a b:List Nat):List Nat:=b.map (bM a)
theorem bP (b a:List Nat):(aE b a).length=a.length:=by simp [aE]
theorem aH1 {a:List Nat} (d:∀e∈a,e < 257) (b:Nat):bM a b < 257:=by
 unfold bM;rw [zAb];cases c:a[(b+a.length - 1)% a.length]? with
 | none=>simp
 | some f=>simpa using d f (zAd c)
theorem dG {b rs:List Nat} (c:∀a∈b,a < 257):∀a∈aE b rs,a < 257:=by
 intro a d;obtain ⟨e,_,rfl⟩:=zAy.1 d;exact aH1 c e
theorem aGh (a:Nat) (g:a<=1000000) (w:World):(Instr.makeSlice 22 (.int .i64 0) (.int .i64 (a:Int))).run prog w=.ok (.slice (some ⟨w.heap.size,0,none⟩) 0 a) (w.alloc (.cells (madeCells #[.int .i64 0] a) 3)):=by
 obtain ⟨f,b,c,d,e⟩:=info_parts fR;have:=run_make (P:=prog) w 22 3 f (.int .i64 0) underlying22 b c .i64 .i64 0 a oM oM (by rw [e];omega) oM;rw [this,d];simp only [Value.cells,zBr,zBl];rfl
theorem aCE {w b:World} {j i:Nat} {a:Option Addr} {k:List Value} {row:Option Nat} (e:Rd w w.heap.size j a i k) (g:w.grownBy b row) (m:∀c,a=some c->row≠some c.block):Rd b b.heap.size j a i k:=by
 refine ⟨e.1,fun o=>?_⟩;obtain ⟨d,r,rfl,f,n⟩:=e.2 o;refine ⟨d,r,rfl,zAl f g.size,fun q s p=>?_⟩;rw [World.cell?_of_block (w:=w) (g.block d f (fun l=>m _ rfl l.symm))];exact n q s p
def Apt (c:Value) (b:Option Addr):Prop:=∀a,b=some a->c.ownBlock≠some a.block
theorem Apt.next {i e:Value} {c:Option Addr} {f:Nat} (j:Apt i c) (l:e.ownBlock=i.ownBlock∨e.ownBlock=some f) (k:∀a,c=some a->a.block < f):Apt e c:=by
 intro a g b;rcases l with d | d;exact j a g (d.symm.trans b);rw [d] at b;injection b with b;have:=k a g;omega
theorem nX (n:Option Addr) (f u B:Nat) (d:List UInt8) (w:World) (U:Rd w B 1 n f (d.map bv)) (ab:B<=w.heap.size) (b5:f<=200):
 Calls prog 110 #[.slice n f u] w fun J au=>∃i k l,IsSuf (aF d) i/\J=.returned (.slice k (f+1) l)/\Made au w.heap.size 3 1 k (f+1) l ((aE (aF d) i).map sv)/\Below w.heap.size w au:=by
 obtain ⟨bc,b1,b9,ba,bb⟩:=info_parts fR;have aq:d.length=f:=by simpa using U.1
 obtain ⟨a9,aJ⟩:=hqq2 U aq;clear U aq;go_enter func110,ntmps110;go_wp2_with fail;obtain ⟨a,y⟩:=eqx (f+1);have W:=yG w.heap.size 0 n f u w.heap.size d (w.alloc (.cells #[.slice n f u] 26)) (Bk.new _ _ _) ((a9.out.mono ab).alloc nL _) (by simp) oM;have V:=fun aa (m:Below w.heap.size w aa)=>nW n f u w.heap.size d aa ((a9.out.mono ab).below m) m.size b5;simp only [y] at W V;have bl:a<=201:=oM;have bk:1<=a:=oM;have ai:(aF d).length=a:=by rw [aL,aJ.out,y]
 obtain ⟨a2,F,a3⟩:=hqq3 y ai V;clear y ai V;refine W.mono ?_;clear W;rintro J w1 ⟨D,bh,rfl,ak,af⟩;have ag:=((Below.refl w.heap.size w).alloc nL _).trans (af.mono (by simp));have bd:=aGh a oM;obtain ⟨G,t⟩:=hqq2 ak ag;clear ak af ag;go_wp2_with fail;clear bd;have q:=t.out.alloc t.out.size (.cells (madeCells #[.int .i64 0] a) 3);have N:=G.out.below (bR.alloc nL (.cells (madeCells #[.int .i64 0] a) 3));have g:(w1.alloc (.cells (madeCells #[.int .i64 0] a) 3)).ownsRow w.heap.size 3 1 (.slice (some ⟨w1.heap.size,0,none⟩) 0 a) 0 []:=World.ownsRow_made _ _ _ t.out.size (by unfold maxLen;omega) (by simp [madeCells]);obtain ⟨p,L⟩:=eqx w1.heap.size;have b0:p < (w1.alloc (.cells (madeCells #[.int .i64 0] a) 3)).heap.size:=by rw [<-L];simp
 have ac:Apt (.slice (some ⟨p,0,none⟩) 0 a) D:=by
  intro b c m;obtain ⟨aw,aN,j,_,K⟩:=aR G.out.own;injection j with j;have:=(K b (j.symm.trans c)).2;have aP:p=b.block:=by simpa [Value.ownBlock] using m
  omega
 have ax:=lhd ac;clear ac;rw [L] at g⊢;generalize w1.alloc (.cells (madeCells #[.int .i64 0] a) 3)=W2 at q N g b0⊢;obtain ⟨a5,a4⟩:=hqq2 g N;clear g N G t L;refine (a3.out W2 q).mono ?_;rintro J bt ⟨i,E,bi,ao,rfl,O,v⟩;have ah:=q.trans (v.mono q.size);have am:=aS a5.out v;have al:=a4.out.below v;have ad:Apt (.slice (some ⟨p,0,none⟩) 0 a) E:=by
  intro b c m;obtain ⟨aw,aN,j,_,K⟩:=aR O.own;injection j with j;have:=(K b (j.symm.trans c)).1;have aP:p=b.block:=by simpa [Value.ownBlock] using m
  omega
 have ay:=lhd ad;clear ad;obtain ⟨H,aC,aB,aD,az⟩:=hqq5 ao O.rd al.rd am ah;clear ao O al am ah v q a5 a4 a3;go_wp2_with fail;go_loopw [4,6,16] (fun a1 _ Z wr=>∃e:Nat,e<=a/\Z=.int .i64 e/\wr.ownsRow w.heap.size 3 1 a1 e ((aE (aF d) (i.take e)).map sv)/\Below w.heap.size w wr/\Apt a1 D/\Apt a1 E/\Rd wr wr.heap.size 1 D a ((aF d).map sv)/\Rd wr wr.heap.size 1 E a (i.map sv)) (fun _ _ Z _=>a -(intOf Z).toNat)
 case atStart=>exact ⟨0,by omega,rfl,aD.out,az.out,ax.out,ay.out,aB.out,aC.out⟩
 case round=>
  obtain ⟨e,bj,rfl,g,x,S,T,z,A⟩:=hrel;by_cases b4:e < a
  · obtain ⟨aK,be,bp,rfl,aQ,X,aW⟩:=A.get b4;rw [zAf] at X;obtain ⟨s,Q,rfl⟩:=Option.map_eq_some_iff.1 X;have bm:s < a:=(by have:=H.out.lt (zAd Q);rw [F.out] at this;exact this);obtain ⟨a0,r⟩:=eqx ((s+a - 1)% a);have b8:a0 < a:=(by rw [<-r];exact Nat.mod_lt _ oM);obtain ⟨aM,bf,bq,rfl,aT,Y,aY⟩:=z.get b8;rw [zAf] at Y;obtain ⟨av,ar,rfl⟩:=Option.map_eq_some_iff.1 Y;have an:bM (aF d) s=av:=(by unfold bM;rw [F.out,r,zAb,ar];rfl);have ap:aE (aF d) (i.take (e+1))=aE (aF d) (i.take e)++ [av]:=(by rw [zAv,Q,aE,zAz,<-an];rfl);unfold sv at aW aY;have b7:((s:Int)+(a:Int) - 1)%(a:Int)=(a0:Int):=(by rw [<-r,Int.natCast_emod];congr 1;omega);have bn:((s:Int)+(a:Int) - 1).tmod (a:Int)=(a0:Int):=(by rw [Int.tmod_eq_emod_of_nonneg oM];exact b7);obtain ⟨aI,a6,a7,a8,o,aG,aH,bg⟩:=hqq8 ap g S T x z A r;clear X Y ar an ap g x S T z A r Q;go_wp2_with (at_builtin;refine bF _ rfl (.tmp 20) (.tmp 32) _ rfl w.heap.size 3 bc (.int .i64 0) 1 8 underlying22 b1 b9 ba bb rfl dC _ e _ rfl a6.out rfl rfl (by simp [Value.oneCell']) (by unfold maxLen;omega) oM o.out.size ?_;intro br bs b6 M bo ae);have aV:=aX o.out a6.out M o.out.size;have b2:∀b,some (⟨aM,bf,none⟩:Addr)=some b->b.block < _:=fun b c=>by injection c with c;subst c;exact aT
    have b3:∀b,some (⟨aK,be,none⟩:Addr)=some b->b.block < _:=fun b c=>by injection c with c;subst c;exact aQ
    go_roundw
    case rel=>refine ⟨e+1,by omega,by go_num,?_,aV,a7.out.next ae (fun b c=>Nat.lt_succ_of_lt (b2 b c)),a8.out.next ae (fun b c=>Nat.lt_succ_of_lt (b3 b c)),aCE aG.out M a7.out,aCE aH.out M a8.out⟩;rw [aI.out,zAz];exact b6
    case measure=>simp [intOf];omega
  · obtain rfl:a=e:=oM;rw [zAg (by rw [H.out.len,F.out];omega)] at g;obtain ⟨k,l,rfl,aj⟩:=aU g;obtain ⟨aA,o⟩:=hqq2 aj x;clear g aj x S T z A;go_wp2_with fail;go_ret;have aZ:∀I,Made wr w.heap.size 3 1 k a l I->Made wr w.heap.size 3 1 k (f+1) l I:=fun I aO=>by rw [a2.out];exact aO
    exact ⟨i,k,l,H.out,by rw [a2.out];rfl,aZ _ aA.out,o.out⟩
end
section
open Go.RowKit Go.Shelf
def mY (a:Nat×Nat):List Value:= [.int .i64 (a.1:Int),.int .i64 (a.2:Int)]
def bU (C:List (Nat×Nat)):List Value:=C.flatMap mY
def aB (C:List (Nat×Nat)) (a:Nat):Nat:=(C.getD a (0,0)).1
def aI (C:List (Nat×Nat)) (a:Nat):Nat:=(C.getD a (0,0)).2
theorem dB (C:List (Nat×Nat)):(bU C).length=C.length*2:=by
 induction C with
 | nil=>rfl
 | cons b a c=>
   have:bU (b::a)=mY b++bU a:=rfl;rw [this,zAi,c];simp [mY];omega
theorem cG (C:List (Nat×Nat)) (a:Nat) (c:a < C.length):(bU C)[a*2]?=some (.int .i64 ((aB C a:Nat):Int))/\(bU C)[a*2+1]?=some (.int .i64 ((aI C a:Nat):Int)):=by
 induction C generalizing a with
 | nil=>cases c
 | cons b d f=>
   have e:bU (b::d)=mY b++bU d:=rfl;rcases a with _ | a;exact ⟨rfl,rfl⟩;have:=f a (by simpa using c);rw [e,zAo (by simp [mY];omega),zAo (by simp [mY];omega)];rw [show (a+1)*2 -(mY b).length=a*2 by simp [mY];omega,show (a+1)*2+1 -(mY b).length=a*2+1 by simp [mY];omega];exact this
structure PRd (W:World) (gb gp:Nat) (A:Option Addr) (n c:Nat) (C:List (Nat×Nat)):Prop where
 box:W.cell? ⟨gb,0,none⟩=some (.pointer (some ⟨gp,0,none⟩))
 sl:W.cell? ⟨gp,1,none⟩=some (.slice A n c)
 rd:Rd W W.heap.size 2 A n (bU C)
theorem PRd.below {a f:World} {c gp i g:Nat} {e:Option Addr} {C:List (Nat×Nat)} (d:PRd a c gp e i g C) (j:c < a.heap.size) (k:gp < a.heap.size) (b:Below a.heap.size a f):PRd f c gp e i g C:=
 ⟨(b.cell j).trans d.box,(b.cell k).trans d.sl,(d.rd.below b).mono b.size⟩
theorem PRd.drewN {c:World} {e gp f d:Nat} {b:Option Addr} {C:List (Nat×Nat)} (a:PRd c e gp b f d C) (g:Nat):PRd (c.drewN g) e gp b f d C:=⟨a.box,a.sl,a.rd⟩
theorem PRd.at {d:World} {l gp e j:Nat} {f:Option Addr} {C:List (Nat×Nat)} (g:PRd d l gp f e j C) {a:Nat} (o:a < C.length):
 a < e/\∃b c,f=some ⟨b,c,none⟩/\d.cell? ⟨b,c+a*2,none⟩=some (.int .i64 ((aB C a:Nat):Int))/\d.cell? ⟨b,c+a*2+1,none⟩=some (.int .i64 ((aI C a:Nat):Int)):=by
 have p:=g.rd.1;rw [dB] at p;have q:a < e:=oM;obtain ⟨b,c,k,_,i⟩:=g.rd.2 oM;obtain ⟨m,n⟩:=cG C a o;exact ⟨q,b,c,k,i _ _ m,by rw [Nat.add_assoc];exact i _ _ n⟩
theorem aDD (f gp:Nat) (i:Option Addr) (m j:Nat) (C:List (Nat×Nat)) (a row:Nat) (b:World) (c:PRd b f gp i m j C) (l:a < C.length):
 Calls prog 195 #[(a:Int),(row:Int),f] b fun e g=>e=.returned (.int .i64 (Lib.compareInt (aB C a:Nat) row))/\b=g:=by
 obtain ⟨s,n,t,rfl,q,k⟩:=c.at l;have o:=c.box;have p:=c.sl;have d:=AnyG.cmp_Compare_int shCmp ((aB C a:Nat):Int) (row:Int) b;change Calls prog 175 _ _ _ at d;generalize Lib.compareInt (aB C a:Nat) row=r at d⊢;clear c k;go_enter func195,ntmps195;go_wp2_with fail;refine d.mono ?_;rintro e g ⟨rfl,rfl⟩;go_wp2_with fail;go_ret;exact ⟨rfl,rfl⟩
theorem aB0 (f g gp:Nat) (k:Option Addr) (p l:Nat) (C:List (Nat×Nat)) (d e:Nat) (a:World) (c:PRd a f gp k p l C) (y:a.cell? ⟨g,0,none⟩=some (.int .i64 (e:Int))) (o:d < C.length):
 Calls prog 197 #[(d:Int),f,g] a fun b r=>b=.returned (.bool (decide (aI C d=e)))/\∃q,r=a.drewN q:=by
 obtain ⟨x,s,z,rfl,m,n⟩:=c.at o;have t:=c.box;have u:=c.sl;obtain ⟨j,i⟩:=eqx (aI C d);rw [i] at n⊢;clear c m i;by_cases b:j=e
 · subst b;go_enter func197,ntmps197;go_wp2;go_quiet (fail);go_wp2;go_ret;exact ⟨by simp,_,rfl⟩
 · have v:((j:Int)==(e:Int))=false:=(by simp;omega);go_enter func197,ntmps197;go_wp2;go_quiet (fail);go_wp2;go_ret;exact ⟨by simp [b],_,rfl⟩
end
section
open Go.RowKit Go.Shelf
open Go.Sort (Holds)
structure PermAt (w:World) (B gp ga:Nat) (vl vo vt vf:Value) (R P:Nat) (ks:List Nat) (C:List (Nat×Nat)) (tk:List Bool) (fr:List Nat):Prop where
 blk:Bk w gp 166 #[ga,vl,vo,(R:Int),(P:Int)]
 lrow:w.ownsRow B 170 2 vl C.length (bU C)
 orow:w.ownsRow B 3 1 vo ks.length (ks.map sv)
 ar:Bk w ga 221 #[vt,vf,.int .i64 268435456]
 trow:w.ownsRow B 4 1 vt tk.length (tk.map Value.bool)
 frow:w.ownsRow B 3 1 vf fr.length (fr.map sv)
 apart:vo.ownBlock=none∨vo.ownBlock≠vf.ownBlock
 lt:∀k∈ks,k < C.length
 lo:B<=gp/\B<=ga
theorem aES {d:List Nat} {b:Nat->Nat} (j:d.Pairwise (fun i n=>b i < b n)) (g:Nat):∀(a e:Nat),d[a]?=some e->(b e < g↔a < d.countP fun k=>decide (b k < g)):=by
 induction d with
 | nil=>intro a e j;cases j
 | cons r d q=>
   obtain ⟨m,o⟩:=List.pairwise_cons.1 j;intro a e c;rw [zBn];by_cases f:b r < g
   · rcases a with _ | a
     · simp at c;subst c;simp [f]
     have:=q o a e (by simpa using c);simp only [f,decide_true,if_true];omega
   · have l:(d.countP fun k=>decide (b k < g))=0:=(by rw [List.countP_eq_zero];intro i p;have:=m i p;simp;omega);rcases a with _ | a
     · simp at c;subst c;simp [f,l]
     have s:=m e (zAd (by simpa using c));simp only [l,f,decide_false];simp;omega
theorem tL {a:List Nat} {f:Nat->Nat} (i:a.Pairwise (fun o p=>f o < f p)) (k:Nat):(∃g,a[a.countP fun b=>decide (f b < k)]?=some g/\f g=k)↔∃b∈a,f b=k:=by
 constructor;rintro ⟨g,j,e⟩;exact ⟨g,zAd j,e⟩
 · rintro ⟨b,s,rfl⟩;obtain ⟨c,m,rfl⟩:=List.getElem_of_mem s;have l:=zAa m;have j:=aES i (f a[c]) c _ l;have v:¬c < a.countP fun b=>decide (f b < f a[c]):=fun d=>by have:=j.2 d;omega
   rcases zBe (a.countP fun b=>decide (f b < f a[c])) c with e | e
   · have n:(a.countP fun b=>decide (f b < f a[c])) < a.length:=oM;have q:=zAa n;have r:=aES i (f a[c]) _ _ q;have t:¬f a[a.countP fun b=>decide (f b < f a[c])] < f a[c]:=fun d=>by have:=r.1 d;omega
     have u:=zAr.1 i _ _ n m e;omega
   have d:(a.countP fun b=>decide (f b < f a[c]))=c:=oM;rw [d];exact ⟨_,l,rfl⟩
def fM (a:Nat) (ks:List Nat):Array (Fin (a+1)):=(ks.map fun b=>(⟨b %(a+1),Nat.mod_lt _ (Nat.succ_pos a)⟩:Fin (a+1))).toArray
theorem nM {d:Nat} {ks:List Nat} (g:∀a∈ks,a < d+1) {c a:Nat} (b:ks[c]?=some a):((fM d ks)[c]!).val=a:=by
 have e:c < ks.length:=(zAc.1 b).1;have i:=g a (zAd b);have f:ks[c]=a:=by rw [zAa e] at b;injection b
 rw [aCU _ _ (by simpa [fM] using e)];simp [fM,f,zBu i]
theorem aEs {b:Nat} {ks:List Nat} (d:∀a∈ks,a < b+1) (c:Nat->Bool):(fM b ks).toList.countP (fun f=>c f.val)=ks.countP c:=by
 unfold fM;rw [List.countP_map];refine List.countP_congr fun a e=>?_;simp [zBu (d a e)]
theorem qB {w:World} {c f:Nat} {ks:List Nat} {b:Array Value} (g:Bk w f 3 b) (i:∀l∈ks,l < c+1) (k:b.toList.take ks.length=ks.map sv):Holds (eW c) w f 0 (fM c ks):=by
 intro a j;have d:a < ks.length:=by simpa [fM] using j
 rw [zBi];refine ⟨?_,g.frozen a⟩;have e:(b.toList.take ks.length)[a]?=(ks.map sv)[a]?:=by rw [k]
 rw [zBs,zBx d,zAf,zAa d,Array.getElem?_toList] at e;rw [g.cell,e];have:=nM i (zAa d);simp [eW,this,sv]
theorem aHz {w e:World} {a c:Nat} {b:Array (Fin (a+1))} (i:Holds (eW a) w c 0 b) (g:SW (eW a) w c 0 b e):Below w.heap.size w e:=by
 obtain ⟨d,k,rfl⟩:=g;unfold sortWorld;have f:Go.Sort.putRow (eW a) (Go.Sort.ahead w d) c 0 b=Go.Sort.ahead w d:=Go.Sort.putRow_self (eW a) _ c 0 b i;rw [f];exact ⟨rfl,rfl,rfl,by show w.heap.size<=(w.heap++k).size;simp,fun l j=>Go.Sort.heap_grow_old _ _ j⟩
theorem vI (a b:Int):Lib.compareInt a b < 0↔a < b:=by
 unfold Lib.compareInt;split
 · simp [*]
 · split <;> simp [*]
theorem aIN (a b:Int):Lib.compareInt a b=0↔a=b:=by
 unfold Lib.compareInt;split;simp;omega;split;simp;omega;simp;omega
section
variable {w : World} {B gp ga : Nat} {vl vo vt vf : Value} {R P : Nat} {ks : List Nat} {C : List (Nat × Nat)} {tk : List Bool} {fr : List Nat}
theorem PermAt.prd (c:PermAt w B gp ga vl vo vt vf R P ks C tk fr) {e:Nat} {w':World} (j:w'.cell? ⟨e,0,none⟩=some (.pointer (some ⟨gp,0,none⟩))) (g:Below w.heap.size w w'):∃a i b,vl=.slice a i b/\PRd w' e gp a i b C:=by
 obtain ⟨a,b,d,_⟩:=aR c.lrow;refine ⟨a,C.length,b,d,j,?_,?_⟩;have:=(c.blk.below g c.blk.lt).cell 1;rw [d] at this;exact this;have f:=aS c.lrow g;rw [d] at f;exact Rd.of_own f
end
theorem aKR {ks:List Nat} {C:List (Nat×Nat)} {c row:Nat} (m:C.length=c+1) (o:∀a∈ks,a < C.length) (p:ks.Pairwise (fun k l=>aB C k < aB C l)):
 ((fM c ks).toList.countP (fun b=>decide (Lib.compareInt (aB C b.val:Nat) row < 0)))=ks.countP (fun a=>decide (aB C a < row))/\
 (decide (((fM c ks).toList.countP (fun b=>decide (Lib.compareInt (aB C b.val:Nat) row < 0))) < (fM c ks).size)&&decide (Lib.compareInt (aB C ((fM c ks)[((fM c ks).toList.countP (fun b=>decide (Lib.compareInt (aB C b.val:Nat) row < 0)))]!).val:Nat) row=0))=decide (∃a∈ks,aB C a=row):=by
 have g:∀a∈ks,a < c+1:=fun a n=>by rw [<-m];exact o a n
 have i:(fM c ks).toList.countP (fun b=>decide (Lib.compareInt (aB C b.val:Nat) row < 0))=ks.countP (fun a=>decide (aB C a < row)):=by rw [<-aEs g (fun a=>decide (aB C a < row))];congr 1;funext b;rw [decide_eq_decide,vI];omega
 refine ⟨i,?_⟩;rw [i,Bool.eq_iff_iff];simp only [zBd,zCa,aIN];rw [<-tL (f:=aB C) p row];constructor;rintro ⟨d,j⟩;have e:(ks.countP fun a=>decide (aB C a < row)) < ks.length:=(by simpa [fM] using d);refine ⟨_,zAa e,?_⟩;rw [nM g (zAa e)] at j;omega;rintro ⟨b,d,j⟩;have e:=(zAc.1 d).1;refine ⟨by simpa [fM] using e,?_⟩;rw [nM g d];omega
theorem kA (B gp ga:Nat) (vl vo vt vf:Value) (R P:Nat) (ks:List Nat) (C:List (Nat×Nat)) (tk:List Bool) (fr:List Nat) (row:Nat) (w:World) (d:PermAt w B gp ga vl vo vt vf R P ks C tk fr) (G:ks.Pairwise (fun k e=>aB C k < aB C e)) (Q:ks.length<=1099511627776):
 Calls prog 148 #[gp,(row:Int)] w fun a l=>a=.returned (.tuple #[.int .i64 ((ks.countP (fun b=>decide (aB C b < row)):Nat):Int),.bool (decide (∃b∈ks,aB C b=row))])/\Below w.heap.size w l:=by
 have ak:=d.blk.lt;have n:Below w.heap.size w (w.alloc (.cells #[gp] 90)):=bR.alloc nL _;have Z:w.cell? ⟨gp,2,none⟩=some vo:=(d.blk.cell 2).trans rfl;have O:∀g o f,vo=.slice g o f->Calls prog 194 #[.slice g o f,(row:Int),.func (.func 195) #[] #[w.heap.size]] (w.alloc (.cells #[gp] 90)) fun a l=>a=.returned (.tuple #[.int .i64 ((ks.countP (fun b=>decide (aB C b < row)):Nat):Int),.bool (decide (∃b∈ks,aB C b=row))])/\Below w.heap.size w l:=by
  intro g o f J;rcases zBa ks.length with r | r;have a8:ks= []:=zBk r;obtain ⟨Y,a0,i,_⟩:=aR d.orow;rw [J] at i;injection i with _ i _;rw [r] at i;subst i;subst a8;refine (Any.slices_BinarySearchFunc_none shBin g f (.int .i64 (row:Int)) (.func (.func 195) #[] #[w.heap.size]) _).mono ?_;rintro a l ⟨rfl,rfl⟩;exact ⟨by simp,n⟩
  · rcases d.orow.2 with ⟨_,a⟩|⟨m,ae,a1,a,ai,a6,am,al,an,V⟩;omega
    · rw [J] at a;injection a with e1 e2 e3;subst e1 e2 e3;rw [zBl] at V;obtain ⟨k0,a7⟩:∃b,b∈ks:=(by obtain ⟨j,ad⟩:=List.exists_mem_of_length_pos r;exact ⟨j,ad⟩);obtain ⟨c,z⟩:∃c,C.length=c+1:=⟨C.length - 1,by have:=d.lt k0 a7;omega⟩;have F:∀b∈ks,b < c+1:=fun b Q=>by rw [<-z];exact d.lt b Q
      have t:Bk w m 3 a1:=a6;have s:=t.below n t.lt;have M:=qB s F V;have a4:(w.alloc (.cells #[gp] 90)).cell? ⟨w.heap.size,0,none⟩=some (.pointer (some ⟨gp,0,none⟩)):=(Bk.new w 90 #[gp]).cell 0;have a5:CmpLaysT prog 195 #[w.heap.size] (eW c) (.int .i64 (row:Int)) (fun j=>Lib.compareInt (aB C j.val:Nat) row) m 0 (fM c ks).size (w.alloc (.cells #[gp] 90)):=(by intro I H u aj j;have E:=jK (enc:=eW c) s.lt 0 I u H;obtain ⟨g,o,f,a,U⟩:=d.prd a4 n;have ab:PRd (sortWorld (eW c) (w.alloc (.cells #[gp] 90)) m 0 I u H) w.heap.size gp g o f C:=(by refine ⟨?_,?_,?_⟩;exact (E.cell (p:=⟨w.heap.size,0,none⟩) (by simp) (fun a=>by have:=t.lt;have ag:w.heap.size=m:=a;omega)).trans U.box;exact (E.cell (p:=⟨gp,1,none⟩) (by simp;omega) (Bk.ne d.blk t dC)).trans U.sl;have a9:=aS d.lrow n;have S:=aA (w':=sortWorld (eW c) (w.alloc (.cells #[gp] 90)) m 0 I u H) a9 fun e af _ q=>E.bk q (Bk.ne q s dC);obtain ⟨Y,a0,i,_⟩:=aR d.lrow;rw [a] at i S;injection i with e91 e92 e93;subst e92;exact Rd.of_own S);exact (aDD w.heap.size gp g o f C j.val row _ ab (by rw [z];exact j.isLt)).mono fun _ _ ⟨a2,a3⟩=>⟨a2,0,#[],by rw [<-a3,Go.Sort.grow_empty];rfl⟩);have aa:∀k e,k<=e->e < (fM c ks).size->Lib.compareInt (aB C ((fM c ks)[e]!).val:Nat) row < 0->Lib.compareInt (aB C ((fM c ks)[k]!).val:Nat) row < 0:=(by intro k e x y T;have q:e < ks.length:=(by simpa [fM] using y);rw [nM F (zAa q),vI] at T;rw [nM F (zAa (show k < ks.length by omega)),vI];rcases Nat.eq_or_lt_of_le x with rfl | x;exact T;have:=zAr.1 G k e oM q x;omega);have W:(fM c ks).size=ks.length:=(by simp [fM]);have v:=Any.slices_BinarySearchFunc shBin (eW c) (mA c) (.int .i64 (row:Int)) (fun j=>Lib.compareInt (aB C j.val:Nat) row) 195 #[w.heap.size] m 0 f (fM c ks) (w.alloc (.cells #[gp] 90)) (enters_of func195 kR rfl) a5 M s.lt (by rw [W];omega) aa;obtain ⟨K,L⟩:=aKR (row:=row) z d.lt G;rw [K] at L;rw [K,L] at v;rw [W] at v;refine v.mono ?_;rintro a l ⟨rfl,ac⟩;exact ⟨rfl,n.trans ((aHz M ac).mono (by simp))⟩
 obtain ⟨g,f,a,_⟩:=aR d.orow;have N:=O _ _ _ a;rw [a] at Z;obtain ⟨X,D⟩:∃X,ks.countP (fun b=>decide (aB C b < row))=X:=⟨_,rfl⟩;obtain ⟨ah,A⟩:∃e,decide (∃b∈ks,aB C b=row)=e:=⟨_,rfl⟩;rw [D,A] at N;rw [D,A];clear O d G D A n a;go_enter func148,ntmps148;go_wp2_with fail;refine N.mono ?_;rintro a l ⟨rfl,y⟩;go_wp2_with fail;go_ret2;exact ⟨rfl,y⟩
def iZ (b:Nat->Bool):List Nat->Nat->Int
 | [],_=>-1
 | k::l,a=>if b k then (a:Int) else iZ b l (a+1)
theorem kN {p:Nat->Bool} {l:List Nat} (b:∀a∈l,p a=false) (c:Nat):iZ p l c=-1:=by
 induction l generalizing c with
 | nil=>rfl
 | cons a l e=>
   unfold iZ;rw [zBw (by rw [b a (by simp)];simp)];exact e (fun a d=>b a (by simp [d])) _
theorem tX {p:Nat->Bool} {l:List Nat} (b:∃a∈l,p a=true) (d:Nat):∃(e a:Nat),iZ p l d=((d+e:Nat):Int)/\l[e]?=some a/\p a=true:=by
 induction l generalizing d with
 | nil=>obtain ⟨a,f,_⟩:=b;cases f
 | cons i l o=>
   unfold iZ;by_cases c:p i=true;rw [zBx c];exact ⟨0,i,rfl,rfl,c⟩;rw [zBw c];obtain ⟨a,f,g⟩:=b;have n:a∈l:=(by rcases List.mem_cons.1 f with rfl | b;exact absurd g c;exact b);obtain ⟨e,q,j,k,m⟩:=o ⟨a,n,g⟩ (d+1);exact ⟨e+1,q,by rw [j];congr 1;omega,by simpa using k,m⟩
theorem aGD {b:Nat} {ks:List Nat} (d:∀a∈ks,a < b+1) (e:Nat->Bool) (f:Fin (b+1)) (c:Nat):Lib.idxByFrom (fun (_ j:Fin (b+1))=>e j.val) f ((ks.map fun a=>(⟨a %(b+1),Nat.mod_lt _ (Nat.succ_pos b)⟩:Fin (b+1)))) c=iZ e ks c:=by
 induction ks generalizing c with
 | nil=>rfl
 | cons a k i=>
   rw [List.map_cons];unfold Lib.idxByFrom iZ;simp only [zBu (d a (by simp))];rw [i (fun a g=>d a (by simp [g]))]
theorem iX (B gp ga:Nat) (vl vo vt vf:Value) (R P:Nat) (ks:List Nat) (C:List (Nat×Nat)) (tk:List Bool) (fr:List Nat) (d:Nat) (w:World) (f:PermAt w B gp ga vl vo vt vf R P ks C tk fr) (G:ks.length<=1099511627776):
 Calls prog 149 #[gp,(d:Int)] w fun b l=>b=.returned (.int .i64 (iZ (fun a=>decide (aI C a=d)) ks 0))/\Below w.heap.size w l:=by
 have a4:=f.blk.lt;have K:w.cell? ⟨gp,2,none⟩=some vo:=(f.blk.cell 2).trans rfl;obtain ⟨g,p⟩:∃g,g=(w.alloc (.cells #[gp] 90)).alloc (.cells #[(d:Int)] 3):=⟨_,rfl⟩;have e:Below w.heap.size w g:=p ▸(bR.alloc nL _).alloc (by simp) _;have r:Bk g w.heap.size 90 #[gp]:=p ▸(Bk.new _ _ _).alloc _;have s:Bk g (w.heap.size+1) 3 #[(d:Int)]:=by have:=Bk.new (w.alloc (.cells #[gp] 90)) 3 #[(d:Int)];rw [<-p] at this;simpa using this
 have D:∀k n i,vo=.slice k n i->Calls prog 196 #[.slice k n i,.func (.func 197) #[] #[w.heap.size,.pointer (some ⟨w.heap.size+1,0,none⟩)]] g fun b l=>b=.returned (.int .i64 (iZ (fun a=>decide (aI C a=d)) ks 0))/\Below w.heap.size w l:=by
  intro k n i x;rcases zBa ks.length with o | o;have X:ks= []:=zBk o;obtain ⟨a0,a1,m,_⟩:=aR f.orow;rw [x] at m;injection m with _ m _;rw [o] at m;subst m;subst X;refine (AnyE.slices_IndexFunc_empty shIdx k i (.func (.func 197) #[] #[w.heap.size,.pointer (some ⟨w.heap.size+1,0,none⟩)]) _).mono ?_;rintro b l ⟨rfl,rfl⟩;exact ⟨rfl,e⟩
  · rcases f.orow.2 with ⟨_,b⟩|⟨y,a2,L,b,a3,T,a6,a5,a7,I⟩;omega
    · rw [x] at b;injection b with e1 e2 e3;subst e1 e2 e3;rw [zBl] at I;obtain ⟨k0,W⟩:∃a,a∈ks:=(by obtain ⟨j,Y⟩:=List.exists_mem_of_length_pos o;exact ⟨j,Y⟩);obtain ⟨c,E⟩:∃c,C.length=c+1:=⟨C.length - 1,by have:=f.lt k0 W;omega⟩;have H:∀a∈ks,a < c+1:=fun a G=>by rw [<-E];exact f.lt a G
      have F:Bk w y 3 L:=T;have U:=F.below e F.lt;have N:=qB U H I;have u:PredAt prog 197 #[w.heap.size,.pointer (some ⟨w.heap.size+1,0,none⟩)] (eW c) (fun j=>decide (aI C j.val=d)) g:=(by intro v j q;have Q:=r.below q r.lt;have S:=s.below q s.lt;obtain ⟨k,n,i,b,u⟩:=f.prd (w':=v) (Q.cell 0) (e.trans (q.mono e.size));exact aB0 w.heap.size (w.heap.size+1) gp k n i C j.val d v u (S.cell 0) (by rw [E];exact j.isLt));have a8:ks.length=(ks.map fun a=>(⟨a %(c+1),Nat.mod_lt _ (Nat.succ_pos c)⟩:Fin (c+1))).length:=(by simp);have z:=AnyE.slices_IndexFunc shIdx (eW c) (fun j=>decide (aI C j.val=d)) 197 #[w.heap.size,.pointer (some ⟨w.heap.size+1,0,none⟩)] (enters_of func197 kR rfl) y 0 ks.length i (ks.map fun a=>(⟨a %(c+1),Nat.mod_lt _ (Nat.succ_pos c)⟩:Fin (c+1))) g u (by simp) oM (fun Z V=>by
       have M:=(N Z (by simpa [fM] using V)).1;simpa [fM] using M)
      rw [zAg (by simp),Lib.idxBy,aGD H (fun a=>decide (aI C a=d))] at z;refine z.mono ?_;rintro b l ⟨rfl,a9,rfl⟩;exact ⟨rfl,e.os,e.tape,e.output,e.size,e.block⟩
 obtain ⟨k,i,b,_⟩:=aR f.orow;have A:=D _ _ _ b;rw [b] at K;obtain ⟨J,t⟩:∃J,iZ (fun a=>decide (aI C a=d)) ks 0=J:=⟨_,rfl⟩;rw [t] at A;rw [t];subst p;clear D f t e b r s;go_enter func149,ntmps149;go_wp2_with fail;refine A.mono ?_;rintro b l ⟨rfl,O⟩;go_wp2_with fail;go_ret;exact ⟨rfl,O⟩
end
section
open Go.RowKit
theorem pT (ga:Nat) (d:Option Addr) (f:Nat) (e:Option Addr) (g a b:Nat) (w:World) (c:Bk w ga 221 #[.slice d a f,.slice e b g,.int .i64 268435456]) (o:a<=1048576) (n:b<=a):
 Calls prog 198 #[ga] w fun i j=>i=.returned (.int .i64 ((a - b:Nat):Int))/\Below w.heap.size w j:=by
 have k:w.cell? ⟨ga,0,none⟩=some (.slice d a f):=(c.cell 0).trans rfl;have l:w.cell? ⟨ga,1,none⟩=some (.slice e b g):=(c.cell 1).trans rfl;have m:IntKind.i64.wrap ((a:Int) -(b:Int))=((a - b:Nat):Int):=by rw [IntKind.wrap_i64];omega
 clear c;go_enter func198,ntmps198;go_wp2;go_quiet (fail);go_wp2;go_ret;exact ⟨fB oM,below_drewN bR _⟩
theorem sH (B ga:Nat) (c:Option Addr) (e:Nat) (m:Option Addr) (n a:Nat) (tk:List Bool) (w:World) (o:Bk w ga 221 #[.slice c a e,.slice m 0 n,.int .i64 268435456]) (v:w.ownsRow B 4 1 (.slice c a e) a (tk.map Value.bool)) (ah:B<=w.heap.size) (ai:a<=1000000):
 Calls prog 150 #[ga] w fun H r=>H=.returned (.tuple #[(a:Int),.int .i64 0])/\Keep (fun d=>d=ga∨(Value.slice c a e).ownBlock=some d) w r/\∃vt,Bk r ga 221 #[vt,.slice m 0 n,.int .i64 268435456]/\r.ownsRow B 4 1 vt (a+1) ((tk++ [true]).map Value.bool)/\(vt.ownBlock=(Value.slice c a e).ownBlock∨∃I,vt.ownBlock=some I/\w.heap.size<=I):=by
 obtain ⟨a9,Z,a6,a7,a8⟩:=info_parts oZ;have aj:=o.lt;obtain ⟨i,S,Q⟩:=hqq3 o v (bE v o dC);clear o v;go_enter func150,ntmps150;go_wp2;refine wp_region_any kR ?_;refine aQ [10,11,12,13,14,15,16,9] (Grow) (Vs [is ga,is (a:Int),is ga,is ga,is (.pointer (some ⟨ga,2,none⟩)),is (.int .i64 268435456),is (.bool false),is (.bool false)]) _ _ rfl kR bR (fun _ _=>Grow.trans) (cV tA1) ?_ ?_
 · refine aO ?_;refine pH 0 (.pointer (some ⟨ga,0,none⟩)) ?_;refine sC (fun _ f b _ _ _ g _ _ _ t=>?_) ?_
   · have ad:_=_:=g 0 10 kR rfl;replace b:(Grow) w f:=gD b;go_simp;refine (pT ga c e m n a 0 f (i.out.below b i.out.lt) oM oM).mono ?_;rintro H ao ⟨rfl,Y⟩;exact t _ _ Y rfl
   refine pH 0 (.pointer (some ⟨ga,0,none⟩)) ?_;refine pV 2 12 ?_;refine pV 3 13 ?_;refine pL 4 14 (fun f b=>have b:(Grow) w f:=gD b;(((i.out.below b i.out.lt).cell 2).trans rfl:f.cell? ⟨ga,2,none⟩=some (.int .i64 268435456))) ?_;refine sC (fun _ _ _ _ _ _ g _ _ _ t=>?_) ?_
   · have ae:_=_:=g 1 11 kR rfl;have af:_=_:=g 5 15 kR rfl;have ak:((a:Int)==268435456)=false:=(by simp;omega);go_simp;exact t _ _ bR (by first | rfl | simp [is] |(simp [is];omega))
   refine pV 6 16 ?_;exact aD
 · intro W l b g;replace b:(Grow) w l:=gD b;have V:W (.tmp 9)=.bool false:=g 7 9 rfl;simp only [zqq];rw [V];clear g;have k:=i.out.below b i.out.lt;have a5:=Below.size b;have M:=aS S.out b;have U:l.cell? ⟨ga,1,none⟩=some (.slice m 0 n):=(k.cell 1).trans rfl;have E:l.cell? ⟨ga,0,none⟩=some (.slice c a e):=(k.cell 0).trans rfl;have X:=k.frozen 0;have L:ga < l.heap.size:=oM;obtain ⟨s,z,D⟩:=hqq3 b k M;clear b k M;generalize l=W2 at z a5 E U X s L D⊢;have aa:=(World.cell?_alloc_lt W2 (Obj.cells #[.bool true] 4) ⟨ga,0,none⟩ L).trans E;go_wp2_with (at_builtin;refine bF _ rfl (.tmp 53) (.tmp 54) _ rfl B 4 a9 (.bool false) 1 1 underlying175 Z a6 a7 a8 rfl dC (.slice c a e) a _ rfl D.out rfl rfl (by simp [Value.oneCell']) (by unfold maxLen;omega) oM oM ?_;intro an f x u al J;have q:=z.out.grown u Q.out;obtain ⟨T,O,N,A⟩:=hqq4 x u J q;have ac:f.cell? ⟨ga,0,none⟩=some (.slice c a e):=(q.cell 0).trans rfl;have ag:=q.frozen 0;obtain ⟨y,G,rfl,a3⟩:=aU x;clear x u J q a3);go_ret2;have a4:=Keep.setCell (F:=fun d=>d=ga∨(Value.slice c a e).ownBlock=some d) (Keep.refl _ f) (p:=⟨ga,0,none⟩) (.inl (.inl rfl)) (.slice y (a+1) G);have a1:Keep (fun d=>d=ga∨(Value.slice c a e).ownBlock=some d) w W2:=Keep.of_below s.out;have a2:=a1.grown O.out (fun am a0=>.inl (.inr a0));refine ⟨rfl,a2.trans' a4 (fun d _ j=>j),_,A.out.set 0 _,?_,?_⟩;have:=aA (w':=f.setCell ⟨ga,0,none⟩ (.slice y (a+1) G)) T.out fun d ab _ K=>K.far (Bk.ne K A.out dC) _;simpa using this;rcases N.out with j | j;exact .inl j;exact .inr ⟨_,j,by have:=s.out.size;omega⟩
theorem pR (B:Nat) (b:Option Addr) (a c:Nat) (l:List Value) (e:Option Addr) (f j:Nat) (w:World) (g:w.ownsRow B 3 1 (.slice b a c) a l) (i:Rd w w.heap.size 1 e 1 [sv j]) (p:B<=w.heap.size) (A:a<=1000000):
 Calls prog 151 #[.slice b a c,(a:Int),.slice e 1 f] w fun o k=>∃d,o=.returned d/\k.ownsRow B 3 1 d (a+1) (l++ [sv j])/\w.grownBy k (Value.slice b a c).ownBlock/\(d.ownBlock=(Value.slice b a c).ownBlock∨d.ownBlock=some w.heap.size):=by
 obtain ⟨y,s,u,v,x⟩:=info_parts fR;have D:=pZ (P:=prog) 22 3 1 underlying22 Tryz.sizeOf3 b a c a nL;obtain ⟨m,n⟩:=hqq2 g i;clear g i;go_enter func151,ntmps151;go_wp2_with (at_builtin;refine bY _ rfl (.tmp 23) (.tmp 24) _ rfl B 3 y (.int .i64 0) 1 8 underlying22 s u v x rfl dC (.slice b a c) a _ rfl m.out w.heap.size e 1 f _ rfl n.out (by simp [Value.oneCell',sv]) (by unfold maxLen;omega) oM p ?_;intro z E t r q);go_ret;exact ⟨z,rfl,t,r,q⟩
theorem tD:(prog.info? 170).map (fun a=>(a.zero,a.size,a.bytes))=some (some (.agg #[.int .i64 0,.int .i64 0]),2,16):=by kernel_rfl
def PF (gp ga:Nat) (vl vo vt:Value) (a:Nat):Prop:=a=gp∨a=ga∨vl.ownBlock=some a∨vo.ownBlock=some a∨vt.ownBlock=some a
theorem kJ (C:List (Nat×Nat)) (a:Nat×Nat):bU (C++ [a])=bU C++mY a:=by simp [bU]
theorem PermAt.below {w c:World} {B gp ga:Nat} {vl vo vt vf:Value} {R P:Nat} {ks:List Nat} {C:List (Nat×Nat)} {tk:List Bool} {fr:List Nat} (a:PermAt w B gp ga vl vo vt vf R P ks C tk fr) (b:Below w.heap.size w c):PermAt c B gp ga vl vo vt vf R P ks C tk fr:=
 ⟨a.blk.below b a.blk.lt,aS a.lrow b,aS a.orow b,a.ar.below b a.ar.lt,aS a.trow b,aS a.frow b,a.apart,a.lt,a.lo⟩
theorem gC {d:Nat->Prop} {w j:World} {B:Nat} {c:TypeId} {g f:Nat} {i:Value} {k:List Value} (m:w.ownsRow B c g i f k) (o:Keep d w j) (n:∀a b,d a->Bk w a c b->False):j.ownsRow B c g i f k:=
 aA m fun a b _ e=>o.bk e (fun l=>n a b l e)
theorem aH6 {w:World} {B g cap:Nat} {C:List (Nat×Nat)} {y:Nat×Nat} (l:w.ownsRow B 170 2 (.slice (some ⟨g,0,none⟩) (C.length+1) cap) (C.length+1) (bU (C++ [y]))) (a:Nat×Nat):
 ((w.setCell ⟨g,C.length*2,none⟩ (.int .i64 (a.1:Int))).setCell ⟨g,C.length*2+1,none⟩ (.int .i64 (a.2:Int))).ownsRow B 170 2 (.slice (some ⟨g,0,none⟩) (C.length+1) cap) (C.length+1) (bU (C++ [a])):=by
 rcases l.2 with ⟨c,_⟩|⟨x,v,k,c,m,n,o,p,q,e⟩
 · cases c
 · injection c with h8 h9 h10;injection h8 with h8;injection h8 with h8 _;subst h8 h10;have r:Bk w g 170 k:=n;have s:=(r.set (C.length*2) (.int .i64 (a.1:Int))).set (C.length*2+1) (.int .i64 (a.2:Int));refine ⟨by rw [dB];simp,.inr ⟨g,cap,_,rfl,m,s,o,p,by simpa using q,?_⟩⟩;rw [kJ] at e⊢;have f:=dB C;apply List.ext_getElem?;intro b;have d:=congrArg (fun t=>t[b]?) e;simp only [zBs,Array.getElem?_toList] at d;rw [zBs,Array.getElem?_toList,zCd,zCd];by_cases u:b < C.length*2
   · rw [zBx oM] at d⊢;rw [zBw oM,zBw oM,d,zAn oM,zAn oM]
   · by_cases i:b=C.length*2;subst i;rw [zBx oM,zBw oM,zBx rfl,zBx oM,zAo oM,f,Nat.sub_self];rfl
     · by_cases j:b=C.length*2+1;subst j;rw [zBx oM,zBx rfl,zBx (by simp;omega),zAo oM,f,show C.length*2+1 - C.length*2=1 by omega];rfl
       · rw [zBw oM,zBg (by simp [mY];omega)]
theorem aDE (B gp ga:Nat) (vl vo vt:Value) (R P:Nat) (ks:List Nat) (C:List (Nat×Nat)) (tk:List Bool) (row q:Nat) (w:World) (m:PermAt w B gp ga vl vo vt (.slice none 0 0) R P ks C tk []) (bB:ks.Pairwise (fun c5 f=>aB C c5 < aB C f))
 (aJ:∀i∈ks,aB C i < row) (bA:∀i∈ks,aI C i≠q) (cG:row < R) (cF:q < P) (a4:tk.length=C.length) (ch:C.length<=900000) (n:ks.length<=900000) (bg:B<=w.heap.size):
 Calls prog 90 #[gp,(row:Int),(q:Int)] w fun v o=>v=.returned (.int .i64 0)/\Keep (PF gp ga vl vo vt) w o/\∃aT aV U,PermAt o B gp ga aT aV U (.slice none 0 0) R P (ks++ [C.length]) (C++ [(row,q)]) (tk++ [true]) []/\(aV.ownBlock=vo.ownBlock∨∃e,aV.ownBlock=some e/\w.heap.size<=e)/\(aT.ownBlock=vl.ownBlock∨∃e,aT.ownBlock=some e/\w.heap.size<=e)/\(U.ownBlock=vt.ownBlock∨∃e,U.ownBlock=some e/\w.heap.size<=e):=by
 obtain ⟨cs,cl,cp,cq,cr⟩:=info_parts tD;have bm:ks.countP (fun i=>decide (aB C i < row))=ks.length:=List.countP_eq_length.2 fun i n=>by simpa using aJ i n
 have bn:decide (∃i∈ks,aB C i=row)=false:=by rw [decide_eq_false_iff_not];rintro ⟨i,n,v⟩;have:=aJ i n;omega
 have bv:iZ (fun i=>decide (aI C i=q)) ks 0=-1:=kN (fun i n=>by simpa using bA i n) 0;have c7:w.cell? ⟨gp,3,none⟩=some (.int .i64 (R:Int)):=(m.blk.cell 3).trans rfl;have c8:w.cell? ⟨gp,4,none⟩=some (.int .i64 (P:Int)):=(m.blk.cell 4).trans rfl;have X:=kA B gp ga vl vo vt (.slice none 0 0) R P ks C tk [] row w m bB oM;rw [bm,bn] at X;have aC:=fun c4 ci=>iX B gp ga vl vo vt (.slice none 0 0) R P ks C tk [] q c4 ci oM;simp only [bv] at aC;obtain ⟨s,aF⟩:=eqx ks.length;obtain ⟨b,bh⟩:=eqx C.length;rw [aF] at X;obtain ⟨b5,ab,aj,u,b8⟩:=hqq5 aC m aF bh a4;have cE:b<=900000:=oM;have cI:s<=900000:=oM;have ad:=lhd bg;clear bm bn bv aC bB aJ bA m aF bh a4 ch n bg;go_enter func90,ntmps90;go_wp2_with fail;refine X.mono ?_;clear X;rintro v w1 ⟨rfl,ap⟩;have D:=ab.out.below ap;obtain ⟨ac,ae⟩:=hqq2 D ap;clear D ap c7 c8;go_wp2_with fail;refine (b5.out w1 ac.out).mono ?_;rintro v I ⟨rfl,aq⟩;have M:=ac.out.below aq;have bj:=ae.out.trans (aq.mono ae.out.size);have c6:I.cell? ⟨gp,0,none⟩=some (.pointer (some ⟨ga,0,none⟩)):=(M.blk.cell 0).trans rfl;obtain ⟨k,z⟩:=hqq2 M bj;clear M bj aq ac ae b5;go_wp2_with fail;obtain ⟨b0,bc,a9,_⟩:=aR k.out.trow;have a5:tk.length=b:=by rw [b8.out,u.out]
 have an:=sH B ga b0 bc none 0 b tk I (by have:=k.out.ar;rw [a9,a5] at this;exact this) (by have:=k.out.trow;rw [a9,a5] at this;exact this) (by have:=ad.out;have:=z.out.size;omega) oM;have bL:vt=.slice b0 b bc:=by rw [a9,a5]
 rw [<-bL] at an;refine an.mono ?_;clear an a9 bL a5;rintro v aW ⟨rfl,N,U,bl,bz,bo⟩;have S:=N.bk k.out.blk (fun a=>by
  rcases a with a | a;exact Bk.ne k.out.blk k.out.ar dC a
  · exact bE k.out.trow k.out.blk dC a.symm)
 have a6:=gC k.out.lrow N (fun f j a c=>by
  rcases a with a | a;subst a;exact Bk.ne c k.out.ar dC rfl
  · exact bE k.out.trow c dC a.symm)
 have bI:=gC k.out.orow N (fun f j a c=>by
  rcases a with a | a;subst a;exact Bk.ne c k.out.ar dC rfl
  · exact bE k.out.trow c dC a.symm)
 obtain ⟨bS,ca,bD,_⟩:=aR a6;have aL:vl=.slice bS b ca:=by rw [bD,u.out]
 have Q:aW.cell? ⟨gp,1,none⟩=some vl:=(S.cell 1).trans rfl;have cd:=S.frozen 1;rw [aL] at Q;have ck:=S.lt;rw [u.out] at a6;have cg:B<=aW.heap.size:=by have:=N.size;have:=ad.out;have:=z.out.size;omega
 obtain ⟨ai,ag,b7,bT,ah,K,ba,b9⟩:=hqq8 N bl bz bo S a6 bI aL;have cb:=(World.cell?_alloc_lt aW (Obj.cells #[.int .i64 0,.int .i64 0] 170) ⟨gp,1,none⟩ ck).trans Q;clear N bl bz bo S a6 bI bD aL c6;go_wp2_with fail;refine wp_loop_rounds 2 ?_;rw [rounds_succ];go_wp2_with (at_builtin;refine bF _ rfl (.tmp 72) (.tmp 74) _ rfl B 170 cs (.agg #[.int .i64 0,.int .i64 0]) 2 16 underlying109 cl cp cq cr rfl dC vl b _ b9.out.symm K.out rfl rfl (by simp [Value.oneCell']) (by unfold maxLen;omega) oM cg ?_;intro cK t aG aw cJ bi;have Y:=ah.out.grown aw (bE K.out ah.out dC);have be:t.cell? ⟨gp,1,none⟩=some vl:=(Y.cell 1).trans rfl;have cc:=Y.frozen 1;rw [b9.out] at be;obtain ⟨bQ,l,rfl,co⟩:=aU aG;obtain ⟨A,ak,O,b1⟩:=hqq4 Y aG aw bi;clear co aG aw bi Y);obtain ⟨d,bd,rfl,cH,av,cj⟩:∃d,∃V:Array Value,bQ=some ⟨d,0,none⟩/\B<=d/\Bk t d 170 V/\b*2+1 < V.size:=by rcases ak.out.2 with ⟨D,M⟩|⟨e,c9,V,D,M,cf,cy,cz,cA,cB⟩;omega;injection D with D _ _;exact ⟨e,V,D,M,cf,by omega⟩
 have bu:gp≠d:=Bk.ne A.out av dC;have T:=A.out.set 1 (.slice (some ⟨d,0,none⟩) (b+1) l);have E:=av.far (p:=⟨gp,1,none⟩) (fun v=>bu v.symm) (.slice (some ⟨d,0,none⟩) (b+1) l);have aD:Keep (PF gp ga vl vo vt) I (t.setCell ⟨gp,1,none⟩ (.slice (some ⟨d,0,none⟩) (b+1) l)):=
  ((ai.out.mono (G:=PF gp ga vl vo vt) (fun f _ a=>by rcases a with a | a;exact .inr (.inl a);exact .inr (.inr (.inr (.inr a))))).grown O.out (fun i n=>.inl (.inr (.inr (.inl n))))).setCell (.inl (.inl rfl)) _
 have aM:=aA (w':=t.setCell ⟨gp,1,none⟩ (.slice (some ⟨d,0,none⟩) (b+1) l)) ak.out fun f j _ c=>c.far (p:=⟨gp,1,none⟩) (Bk.ne c A.out dC) _;have bJ:=aA (w':=t) ba.out fun f j _ c=>c.grown O.out (bE K.out c dC);have a8:=aA (w':=t.setCell ⟨gp,1,none⟩ (.slice (some ⟨d,0,none⟩) (b+1) l)) bJ fun f j _ c=>c.far (p:=⟨gp,1,none⟩) (Bk.ne c A.out dC) _;have ay:=ag.out.grown O.out (bE K.out ag.out dC);have az:=ay.far (p:=⟨gp,1,none⟩) (Bk.ne ay A.out dC) (.slice (some ⟨d,0,none⟩) (b+1) l);have bM:=aA (w':=t) b7.out fun f j _ c=>c.grown O.out (bE K.out c dC);have aP:=aA (w':=t.setCell ⟨gp,1,none⟩ (.slice (some ⟨d,0,none⟩) (b+1) l)) bM fun f j _ c=>c.far (p:=⟨gp,1,none⟩) (Bk.ne c A.out dC) _;have bp:(Value.slice (some ⟨d,0,none⟩) (b+1) l).ownBlock=vl.ownBlock∨∃e,(Value.slice (some ⟨d,0,none⟩) (b+1) l).ownBlock=some e/\I.heap.size<=e:=by rcases b1.out with a | a;exact .inl a;exact .inr ⟨_,a,by have:=ai.out.size;omega⟩
 clear ai ag b7 ah K ba A ak O b1 Q cd cb cc be bJ ay bM;generalize t.setCell ⟨gp,1,none⟩ (.slice (some ⟨d,0,none⟩) (b+1) l)=w6 at T E aD aM a8 az aP⊢;have Q:w6.cell? ⟨gp,1,none⟩=some (.slice (some ⟨d,0,none⟩) (b+1) l):=(T.cell 1).trans rfl;have aX:=E.cell (b*2);have aY:=E.cell (b*2+1);rw [zAq oM] at aX aY;have ct:=E.frozen (b*2);have cu:=E.frozen (b*2+1);generalize bd[b*2]' oM=u0 at aX;generalize bd[b*2+1]' oM=u1 at aY;obtain ⟨bW,af,b6,bZ,c1,b3,c2,b2⟩:=hqq8 T E aD aM a8 az aP bp;have cm:decide (b+1<=b)=false:=by simp
 have cn:decide ((b:Int)+1<=(b:Int))=false:=by simp;omega
 have W:w6.cell? ⟨gp,2,none⟩=some vo:=(T.cell 2).trans rfl;obtain ⟨aZ,bb,bH,_⟩:=aR a8;have aO:vo=.slice aZ s bb:=by rw [bH,aj.out]
 have al:=lhd aO;rw [aO] at W;clear T E aD aM a8 az aP bp bH aO av cj;rw [rounds_succ];go_wp2_with fail
 have a7:=aH6 (C:=C) (y:=(0,0)) (g:=d) (cap:=l) (w:=w6) (B:=B) (by
  rw [u.out,kJ];exact bZ.out) (row,q)
 rw [u.out] at a7;have H:Keep (fun f=>f=d) w6 ((w6.setCell ⟨d,b*2,none⟩ (.int .i64 (row:Int))).setCell ⟨d,b*2+1,none⟩ (.int .i64 (q:Int))):=((Keep.refl (fun f=>f=d) w6).setCell (p:=⟨d,b*2,none⟩) (.inl rfl) _).setCell (p:=⟨d,b*2+1,none⟩) (.inl rfl) _;have aK:((w6.setCell ⟨d,b*2,none⟩ (.int .i64 (row:Int))).setCell ⟨d,b*2+1,none⟩ (.int .i64 (q:Int))).heap.size=w6.heap.size:=by simp [World.setCell]
 rw [<-aK];clear aX aY ct cu Q W cm cn;generalize (w6.setCell ⟨d,b*2,none⟩ (.int .i64 (row:Int))).setCell ⟨d,b*2+1,none⟩ (.int .i64 (q:Int))=w7 at a7 H aK⊢;have bt:=H.bk bW.out (fun a=>bu a);have br:=H.bk b3.out (fun a=>by subst a;exact Bk.ne b3.out af.out dC rfl);have bK:=gC c1.out H (fun f j a c=>by subst a;exact Bk.ne c af.out dC rfl);have bN:=gC c2.out H (fun f j a c=>by subst a;exact Bk.ne c af.out dC rfl);have cC:B<=I.heap.size:=by have:=ad.out;have:=z.out.size;omega
 have cD:=b6.out.size;have am:B<=(w7.alloc (.cells #[(b:Int)] 3)).heap.size:=by simp;omega
 have aS:w7.heap.size < (w7.alloc (.cells #[(b:Int)] 3)).heap.size:=by simp
 have a3:Rd (w7.alloc (.cells #[(b:Int)] 3)) (w7.alloc (.cells #[(b:Int)] 3)).heap.size 1 (some ⟨w7.heap.size,0,none⟩) 1 [sv b]:=(Rd.new_ w7 3 1 #[(b:Int)] rfl).mono (by simp);have r:=bK.alloc (.cells #[(b:Int)] 3);have aN:=a7.alloc (.cells #[(b:Int)] 3);have aQ:=bN.alloc (.cells #[(b:Int)] 3);have a0:=bt.alloc (.cells #[(b:Int)] 3);have Z:=br.alloc (.cells #[(b:Int)] 3);have au:Below w7.heap.size w7 (w7.alloc (.cells #[(b:Int)] 3)):=bR.alloc nL _;obtain ⟨ce,ax⟩:=eqx w7.heap.size;rw [ax] at a3 aS;rw [ax];generalize w7.alloc (.cells #[(b:Int)] 3)=w8 at am a3 r aN aQ a0 Z au aS⊢;have aE:Keep (PF gp ga vl vo vt) I w8:=(b6.out.trans' (H.trans' (Keep.of_below au) (fun _ _ a=>a)) (fun f c a=>by
  rcases b2.out with m |⟨e,m,cx⟩;exact .inr (.inr (.inl (by rw [<-m,a];rfl)))
  · exfalso;have:d=e:=(by simpa [Value.ownBlock] using m);omega))
 rw [aj.out,al.out] at r;have bw:=pR B aZ s bb (ks.map sv) (some ⟨ce,0,none⟩) 1 b w8 r a3 am oM;refine bw.mono ?_;clear bw;rintro v x ⟨bP,rfl,aH,F,ao⟩;rw [<-al.out] at F ao r;have a1:=a0.grown F (bE r a0 dC);have bs:=Z.grown F (bE r Z dC);have bG:=aA (w':=x) aN fun f j _ c=>c.grown F (bE r c dC);have bO:=aA (w':=x) aQ fun f j _ c=>c.grown F (bE r c dC);have bx:=aE.grown F (fun i n=>.inl (.inr (.inr (.inr (.inl n)))));have bq:bP.ownBlock=vo.ownBlock∨∃e,bP.ownBlock=some e/\I.heap.size<=e:=by rcases ao with a | a;exact .inl a;exact .inr ⟨_,a,aE.size⟩
 have W:x.cell? ⟨gp,2,none⟩=some vo:=(a1.cell 2).trans rfl;rw [al.out] at W;have cw:=a1.frozen 2;obtain ⟨J,L,bC,_⟩:=aR aH;obtain ⟨cv,b4,bV,c0,c3,bY,bX,bU⟩:=hqq8 bC a1 bs bG bO aH bx bq;clear a7 H aK bt br bK bN am aS a3 r aN aQ a0 Z au ax aE F ao a1 bs bG bO aH bx bq;subst bC;go_wp2_with fail;go_ret;have a2:∀f aa j,Bk x f aa j->aa≠166->Bk (x.setCell ⟨gp,2,none⟩ (.slice J (s+1) L)) f aa j:=fun f aa j c a4=>c.far (p:=⟨gp,2,none⟩) (Bk.ne c b4.out a4) _;refine ⟨rfl,(Keep.of_below z.out).trans' (bX.out.setCell (.inl (.inl rfl)) _) (fun _ _ a=>a),.slice (some ⟨d,0,none⟩) (b+1) l,.slice J (s+1) L,U,⟨b4.out.set 2 _,?_,?_,a2 _ _ _ bV.out dC,?_,?_,?_,?_,ab.out.lo⟩,?_,?_,?_⟩;have:=aA (w':=x.setCell ⟨gp,2,none⟩ (.slice J (s+1) L)) c0.out fun f j _ c=>a2 _ _ _ c dC;simpa [u.out] using this;have:=aA (w':=x.setCell ⟨gp,2,none⟩ (.slice J (s+1) L)) bY.out fun f j _ c=>a2 _ _ _ c dC;simpa [aj.out,u.out] using this;have:=aA (w':=x.setCell ⟨gp,2,none⟩ (.slice J (s+1) L)) c3.out fun f j _ c=>a2 _ _ _ c dC;simpa [b8.out,u.out] using this;exact World.ownsRow_nil _ _ _ _;rcases (Value.slice J (s+1) L).ownBlock with _ | e;exact .inl rfl;exact .inr (by simp [Value.ownBlock]);intro i n;rcases zCp.1 n with m | m;have:=ab.out.lt i m;simp;omega;simp at m;simp;omega;rcases bU.out with a |⟨e,a,bf⟩;exact .inl a;exact .inr ⟨e,a,by have:=z.out.size;omega⟩;rcases b2.out with a |⟨e,a,bf⟩;exact .inl a;exact .inr ⟨e,a,by have:=z.out.size;omega⟩;rcases bT.out with a |⟨e,a,bf⟩;exact .inl a;exact .inr ⟨e,a,by have:=z.out.size;omega⟩
def OwnF (b:Nat->Prop) (c:Value):Prop:=∀a,c.ownBlock=some a->b a
def Gw (b:Nat->Prop) (c:Nat) (a:Nat):Prop:=b a∨c<=a
theorem Gw.keep {F:Nat->Prop} {w w1 b:World} (c:Keep F w w1) (d:Keep (Gw F w.heap.size) w1 b):Keep F w b:=c.trans' d fun e f a=>by
 rcases a with a | a;exact a;omega
theorem OwnF.mono {F G:Nat->Prop} {b:Value} (c:OwnF F b) (e:∀a,F a->G a):OwnF G b:=fun a d=>e a (c a d)
theorem OwnF.slice {b:Nat->Prop} {c g f d:Nat} (e:b c):OwnF b (.slice (some ⟨c,g,none⟩) f d):=fun i a=>by
 injection a with a;rw [<-a];exact e
theorem OwnF.at {b:Nat->Prop} {a f e c:Nat} (d:OwnF b (.slice (some ⟨a,f,none⟩) e c)):b a:=d a rfl
def ArenaE (w:World) (c:Nat->Prop) (ga:Nat) (tk:List Bool) (fr:List Nat):Prop:=
 c ga/\∃b e a d,Bk w ga 221 #[.slice b tk.length e,.slice a fr.length d,.int .i64 268435456]/\w.ownsRow 0 4 1 (.slice b tk.length e) tk.length (tk.map Value.bool)/\w.ownsRow 0 3 1 (.slice a fr.length d) fr.length (fr.map sv)/\OwnF c (.slice b tk.length e)/\OwnF c (.slice a fr.length d)
theorem aJB {w:World} {B a m b c:Nat} {e:TypeId} {d:Option Addr} {j:List Value} (f:w.ownsRow B e b (.slice d a c) a j) (r:m<=a) (v:0 < a):w.ownsRow B e b (.slice d m c) m (j.take (m*b)):=by
 rcases f.2 with ⟨g,i⟩|⟨l,t,k,g,i,n,u,o,p,q⟩;omega
 · injection g with h8 h9 h10;subst h8 h10;have s:m*b<=a*b:=Nat.mul_le_mul_right _ r;refine ⟨by rw [zAj,f.1];omega,.inr ⟨l,c,k,rfl,i,n,by omega,o,p,?_⟩⟩;rw [<-q,List.take_take,zCt s]
theorem aJC {w:World} {B c k b:Nat} {f:TypeId} {e:Option Addr} {l:List Value} (g:w.ownsRow B f k (.slice e c b) c l):c<=b/\b<=maxLen:=by
 rcases g.2 with ⟨a,d⟩|⟨o,m,n,a,d,p,i,j,q,r⟩;injection a with _ _ a;subst a;subst d;exact ⟨zAs _,zAp _⟩;injection a with _ _ a;subst a;exact ⟨i,j⟩
theorem ArenaE.vis {w w':World} {b:Nat->Prop} {ga:Nat} {tk:List Bool} {fr:List Nat} (g:ArenaE w b ga tk fr) (a:Vis w w'):ArenaE w' b ga tk fr:=by
 obtain ⟨i,d,f,c,e,j,k,l,m,n⟩:=g;exact ⟨i,d,f,c,e,a.bk j dC dC,a.own k dC dC,a.own l dC dC,m,n⟩
theorem ArenaE.mono {w:World} {F G:Nat->Prop} {ga:Nat} {tk:List Bool} {fr:List Nat} (l:ArenaE w F ga tk fr) (c:∀a,a < w.heap.size->F a->G a):ArenaE w G ga tk fr:=by
 obtain ⟨m,i,k,g,j,d,e,f,n,o⟩:=l;exact ⟨c _ d.lt m,i,k,g,j,d,e,f,fun a b=>c a (e.lt a b).2 (n a b),fun a b=>c a (f.lt a b).2 (o a b)⟩
theorem ArenaE.keep {w m:World} {F G:Nat->Prop} {ga:Nat} {tk:List Bool} {fr:List Nat} (r:ArenaE w F ga tk fr) (f:Keep G w m) (e:∀a l c,l∈ [221,4,3]->Bk w a l c->F a->¬G a):ArenaE m F ga tk fr:=by
 obtain ⟨g,o,q,n,p,i,s,t,j,k⟩:=r;refine ⟨g,o,q,n,p,f.bk i (e _ _ _ dC i g),aA s fun a c d b=>f.bk b (e _ _ _ dC b (j a d)),aA t fun a c d b=>f.bk b (e _ _ _ dC b (k a d)),j,k⟩
theorem uF (f:Nat->Prop) (ga b:Nat) (tk:List Bool) (fr:List Nat) (w:World) (ak:ArenaE w f ga tk (fr++ [b])) (ar:b < tk.length) (ay:tk.length<=1000000) (a1:fr.length < tk.length):
 Calls prog 150 #[ga] w fun k x=>k=.returned (.tuple #[(b:Int),.int .i64 0])/\ArenaE x f ga (tk.set b true) fr/\Keep f w x:=by
 obtain ⟨Y,az,G,aB,i,n,r,q,N,M⟩:=ak;obtain ⟨v,K⟩:=eqx tk.length;obtain ⟨a,o⟩:=eqx fr.length;have a4:(fr++ [b]).length=a+1:=by simp [o]
 rw [a4] at n q M;rw [K] at n r N ay ar a1;rw [o] at a1;obtain ⟨e,aI,H,_,aq⟩:=World.ownsRow.form r oM;injection H with H _ hcc;subst H hcc;obtain ⟨d,aF,I,_,a3⟩:=World.ownsRow.form q oM;injection I with I _ hcc2;subst I hcc2;have aU:=aJC q;have O:=aJB (m:=a) q oM oM;have a2:((fr++ [b]).map sv).take (a*1)=fr.map sv:=by
  have:(fr.map sv).length=a:=by rw [zBc,o]
  rw [zAz,zBl,<-this,List.take_left]
 rw [a2] at O;have V:w.cell? ⟨d,a,none⟩=some (.int .i64 (b:Int)):=by refine (World.ownsRow.cellAt q a oM).trans ?_;rw [zAz,zAo (by simp [o]),zBc,o,Nat.sub_self];rfl
 obtain ⟨D,a9⟩:∃D,tk[b]?=some D:=⟨_,zAa oM⟩;have X:w.cell? ⟨e,b,none⟩=some (.bool D):=by refine (World.ownsRow.cellAt r b oM).trans ?_;rw [zAf,a9];rfl
 have a8:ga≠e:=fun k=>bE r n dC (by rw [k];rfl);have aV:ga≠d:=fun k=>bE q n dC (by rw [k];rfl);have ap:∃z,Bk w e 4 z:=by
  rcases r.2 with ⟨j,_⟩|⟨aT,aG,z,j,_,al,_⟩
  · cases j
  injection j with j _ _;injection j with j;injection j with j _;subst j;exact ⟨z,al⟩
 obtain ⟨z,a0⟩:=ap;have aY:=n.lt;obtain ⟨t,ag,ae,ad,ac,S,Q,T⟩:=hqq8 n r O N M a0 K o;clear n r q O N M a2 a4 a9 K o a0;go_enter func150,ntmps150;go_wp2;refine wp_region_any kR ?_;refine aQ [10,11,12,13,14,15,16,9] (Grow) (Vs [is ga,is (.int .i64 ((v -(a+1):Nat):Int)),is ga,is ga,is (.pointer (some ⟨ga,2,none⟩)),is (.int .i64 268435456),is (.bool false),is (.bool false)]) _ _ rfl kR bR (fun _ _=>Grow.trans) (cV tA1) ?_ ?_
 · refine aO ?_;refine pH 0 (.pointer (some ⟨ga,0,none⟩)) ?_;refine sC (fun _ y c _ _ _ s _ _ _ J=>?_) ?_
   · have aL:_=_:=s 0 10 kR rfl;replace c:(Grow) w y:=gD c;go_simp;refine (pT ga (some ⟨e,0,none⟩) G (some ⟨d,0,none⟩) i v (a+1) y (t.out.below c t.out.lt) oM oM).mono ?_;rintro k b5 ⟨rfl,L⟩;exact J _ _ L rfl
   refine pH 0 (.pointer (some ⟨ga,0,none⟩)) ?_;refine pV 2 12 ?_;refine pV 3 13 ?_;refine pL 4 14 (fun y c=>have c:(Grow) w y:=gD c;(((t.out.below c t.out.lt).cell 2).trans rfl:y.cell? ⟨ga,2,none⟩=some (.int .i64 268435456))) ?_;refine sC (fun _ _ _ _ _ _ s _ _ _ J=>?_) ?_
   · have aM:_=_:=s 1 11 kR rfl;have aN:_=_:=s 5 15 kR rfl;have b0:(((v -(a+1):Nat):Int)==268435456)=false:=(by rw [zCb];omega);go_simp;exact J _ _ bR (by first | rfl | simp [is] |(simp [is];omega))
   refine pV 6 16 ?_;exact aD
 · intro aj g c s;replace c:(Grow) w g:=gD c;have ai:aj (.tmp 9)=.bool false:=s 7 9 rfl;simp only [zqq];rw [ai];clear s;have u:=t.out.below c t.out.lt;have A:=S.out.below c S.out.lt;have aC:g.cell? ⟨ga,0,none⟩=some (.slice (some ⟨e,0,none⟩) v G):=(u.cell 0).trans rfl;have aE:g.cell? ⟨ga,1,none⟩=some (.slice (some ⟨d,0,none⟩) (a+1) i):=(u.cell 1).trans rfl;have aP:=u.frozen 1;have aR:=A.frozen b;have aH:g.cell? ⟨d,a,none⟩=some (.int .i64 (b:Int)):=(c.cell (p:=⟨d,a,none⟩) a3).trans V;have aJ:g.cell? ⟨e,b,none⟩=some (.bool D):=(c.cell (p:=⟨e,b,none⟩) aq).trans X;have aW:=u.lt;have aZ:=A.lt;have aX:d < g.heap.size:=zAl a3 c.size;have a6:=aS ag.out c;have a5:=aS ae.out c;obtain ⟨aa,E,ab,ah,af⟩:=hqq5 c u A a6 a5;have aK:IntKind.i64.wrap (((a+1:Nat):Int) - 1)=(a:Int):=(by rw [IntKind.wrap_i64];omega);have b1:(a:Int) < ((a+1:Nat):Int):=oM;have b2:(b:Int) < (v:Int):=oM;have b3:(a:Int)<=(i:Int):=oM;have b4:((a+1:Nat):Int) > 0:=oM;clear c u A a6 a5 V X;go_wp2_with fail;go_ret2;have au:Keep f w g:=Keep.of_below aa.out;have an:=E.out.set 1 (.slice (some ⟨d,0,none⟩) a i);have L:=an.far (p:=⟨e,b,none⟩) a8 (.bool true);have ax:=aA (w':=g.setCell ⟨ga,1,none⟩ (.slice (some ⟨d,0,none⟩) a i)) ah.out fun U W _ l=>l.far (Bk.ne l E.out dC) _;have a7:=(World.ownsRow.stored ax b (.bool true)).1;have av:=aA (w':=g.setCell ⟨ga,1,none⟩ (.slice (some ⟨d,0,none⟩) a i)) af.out fun U W _ l=>l.far (Bk.ne l E.out dC) _;have ao:=ab.out.far (p:=⟨ga,1,none⟩) (fun k=>a8 k.symm) (.slice (some ⟨d,0,none⟩) a i);have aw:=aA (w':=(g.setCell ⟨ga,1,none⟩ (.slice (some ⟨d,0,none⟩) a i)).setCell ⟨e,b,none⟩ (.bool true)) av fun U W _ l=>l.far (Bk.ne l ao dC) _;have Z:f e:=OwnF.at ad.out;have am:f d:=OwnF.at ac.out;rw [show ((tk.map Value.bool).set b (.bool true))=(tk.set b true).map Value.bool by rw [List.map_set]] at a7;refine ⟨rfl,⟨Y,some ⟨e,0,none⟩,G,some ⟨d,0,none⟩,i,?_,?_,?_,?_,?_⟩,?_⟩;rw [zAt,Q.out,T.out];exact L;rw [zAt,Q.out];exact a7;rw [T.out];exact aw;rw [zAt];exact OwnF.slice Z;exact OwnF.slice am;exact Keep.setCell (F:=f) (Keep.setCell (F:=f) au (p:=⟨ga,1,none⟩) (.inl Y) _) (p:=⟨e,b,none⟩) (.inl Z) _
theorem aDT (j:Nat->Prop) (ga a:Nat) (tk:List Bool) (fr:List Nat) (w:World) (m:ArenaE w j ga tk fr) (e:tk[a]?=some true):
 Calls prog 244 #[ga,(a:Int)] w fun l r=>l=.returned (.bool true)/\w=r:=by
 obtain ⟨z,s,k,t,v,b,c,q,p,o⟩:=m;obtain ⟨n,_⟩:=zAc.1 e;obtain ⟨f,i⟩:=eqx tk.length;rw [i] at b c n;obtain ⟨g,y,d,_,D⟩:=World.ownsRow.form c oM;injection d with d _ hcc;subst d hcc;have u:w.cell? ⟨ga,0,none⟩=some (.slice (some ⟨g,0,none⟩) f k):=(b.cell 0).trans rfl;have x:w.cell? ⟨g,a,none⟩=some (.bool true):=by refine (World.ownsRow.cellAt c a oM).trans ?_;rw [zAf,e];rfl
 have A:=b.lt;have F:(a:Int) < (f:Int):=oM;have E:decide ((a:Int)>=0)=true:=by simp
 clear b c q p o i e;go_enter func244,ntmps244;go_wp2_with fail;go_ret;exact ⟨rfl,rfl⟩
theorem aDM (d:Nat->Prop) (ga j a:Nat) (tk:List Bool) (fr:List Nat) (w:World) (n:ArenaE w d ga tk fr) (G:tk[a]?=some true) (u:Bk w j 3 #[(a:Int)]) (aw:fr.length<=1000000):
 Calls prog 205 #[ga,.slice (some ⟨j,0,none⟩) 1 1] w fun m I=>m=.returned (.int .i64 0)/\ArenaE I (Gw d w.heap.size) ga (tk.set a false) (fr++ [a])/\Keep d w I:=by
 have ab:=aDT d ga a tk fr w n G;obtain ⟨a8,aO,y,o,r,e,l,V,T,S⟩:=n;obtain ⟨aC,_⟩:=zAc.1 G;obtain ⟨aM,ay,aJ,aK,aL⟩:=info_parts fR;obtain ⟨q,N⟩:=eqx tk.length;obtain ⟨f,Q⟩:=eqx fr.length;rw [Q] at e V S aw;rw [N] at e l T aC;obtain ⟨b,aP,M,_,aY⟩:=World.ownsRow.form l oM;injection M with M _ hcc;subst M hcc;have ao:w.cell? ⟨b,a,none⟩=some (.bool true):=by refine (World.ownsRow.cellAt l a oM).trans ?_;rw [zAf,G];rfl
 have aI:ga≠b:=fun m=>bE l e dC (by rw [m];rfl);have ax:∃A,Bk w b 4 A:=by
  rcases l.2 with ⟨c,_⟩|⟨a7,an,A,c,_,L,_⟩
  · cases c
  injection c with c _ _;injection c with c;injection c with c _;subst c;exact ⟨A,L⟩
 obtain ⟨A,E⟩:=ax;have au:=E.frozen a;have am:w.cell? ⟨ga,0,none⟩=some (.slice (some ⟨b,0,none⟩) q y):=(e.cell 0).trans rfl;have ap:w.cell? ⟨j,0,none⟩=some (.int .i64 (a:Int)):=(u.cell 0).trans rfl;have aW:=e.lt;have aX:=u.lt;have aZ:(a:Int) < (q:Int):=oM;have aH:j≠b:=Bk.ne u E dC;obtain ⟨g,k⟩:=eqx (w.setCell ⟨b,a,none⟩ (.bool false));have s:Bk g ga 221 #[.slice (some ⟨b,0,none⟩) q y,.slice o f r,.int .i64 268435456]:=by rw [<-k];exact e.far (p:=⟨b,a,none⟩) aI _
 have X:Bk g j 3 #[(a:Int)]:=by rw [<-k];exact u.far (p:=⟨b,a,none⟩) aH _
 have ae:g.ownsRow 0 4 1 (.slice (some ⟨b,0,none⟩) q y) q ((tk.set a false).map Value.bool):=by rw [<-k,List.map_set];exact (World.ownsRow.stored l a (.bool false)).1
 have W:g.ownsRow 0 3 1 (.slice o f r) f (fr.map sv):=by rw [<-k];exact aA V fun x a5 _ i=>i.far (p:=⟨b,a,none⟩) (Bk.ne i E dC) _
 have a9:d b:=OwnF.at T;have ac:Keep d w g:=by rw [<-k];exact Keep.setCell (F:=d) (Keep.refl _ _) (p:=⟨b,a,none⟩) (.inl a9) _
 have aR:g.cell? ⟨ga,1,none⟩=some (.slice o f r):=(s.cell 1).trans rfl;have aV:=s.lt;have ad:Rd g g.heap.size 1 (some ⟨j,0,none⟩) 1 [.int .i64 (a:Int)]:=⟨rfl,fun _=>⟨j,0,rfl,X.lt,fun H b1 af=>by
  rw [zBi,X.cell];rcases H with _ | H;exact af
  · simp at af⟩⟩
 obtain ⟨ai,a4,a3,a1,al,ag,a2,K,Z⟩:=hqq9 s ae W ac ad k S Q N;have aj:=lhd (bE W s dC);clear e l V T S N Q E u G s X ae W ac k ad;go_enter func205,ntmps205;go_wp2_with fail;refine wp_loop_rounds 2 ?_;rw [rounds_succ];go_wp2_with fail;refine ab.mono ?_;rintro m w1 ⟨rfl,rfl⟩;clear ab;go_wp2_with fail;rw [ag.out];clear am ap ao au;rw [rounds_succ];go_wp2_with (at_builtin;refine bY _ rfl (.tmp 48) (.tmp 49) _ rfl 0 3 aM (.int .i64 0) 1 8 underlying22 ay aJ aK aL rfl dC (.slice o f r) f _ rfl a3.out _ _ _ _ _ rfl al.out (by simp [Value.oneCell']) (by unfold maxLen;omega) oM (zAp _) ?_;intro b2 Y U O aa;have D:=ai.out.grown O aj.out;have aT:=D.frozen 1;have aS:=D.cell 1;obtain ⟨ak,a0,ah,J⟩:=hqq4 U O aa D;obtain ⟨v,z,rfl,aD⟩:=aU U;clear U O aa D aD);go_ret;have aB:Keep d w Y:=a1.out.grown a0.out (fun H az=>.inl (a2.out H az));have av:=J.out.set 1 (.slice v (f+1) z)
 have aF:=World.ownsRow.kept a4.out a0.out (by
  rcases hh:(Value.slice o f r).ownBlock with _ | aN
  · right;simp [Value.ownBlock]
  · right;intro m;have aq:b=aN:=(by simpa [Value.ownBlock] using m);subst aq;rcases a3.out.2 with ⟨c,_⟩|⟨a7,an,aQ,c,_,L,_⟩
    · rw [c] at hh;simp [Value.ownBlock] at hh
    · rw [c] at hh;have ar:a7=b:=(by simpa [Value.ownBlock] using hh);subst ar;exact bE a4.out (t:=3) L dC rfl)
 have aG:=aA (w':=Y.setCell ⟨ga,1,none⟩ (.slice v (f+1) z)) aF fun x a5 _ i=>i.far (Bk.ne i J.out dC) _;have aE:=aA (w':=Y.setCell ⟨ga,1,none⟩ (.slice v (f+1) z)) ak.out fun x a5 _ i=>i.far (Bk.ne i J.out dC) _;have b0:=a1.out.size;refine ⟨rfl,⟨.inl a8,some ⟨b,0,none⟩,y,v,z,?_,?_,?_,?_,?_⟩,?_⟩;rw [zAt,Z.out,zAi,K.out];exact av;rw [zAt,Z.out];exact aG;rw [zAi,K.out,zAz];exact aE;exact OwnF.slice (.inl a9);intro x e;rw [zAi,K.out] at e;rcases ah.out with n | n;exact .inl (a2.out x (n.symm.trans e));have a6:=n.symm.trans e;injection a6 with a6;exact .inr oM;exact Keep.setCell (F:=d) aB (p:=⟨ga,1,none⟩) (.inl a8) _
end
end Go.Proofs.YthldmddkfbijhaaGreatDoor
