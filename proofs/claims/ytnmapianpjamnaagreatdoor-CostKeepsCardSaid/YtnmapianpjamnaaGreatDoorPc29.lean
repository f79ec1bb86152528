/- Lemmas of the walk. Conditions: each its own. -/
import Derived.Test.YtnmapianpjamnaaGreatDoorPc28
import Derived.Test.YtnmapianpjamnaaGreatDoorProg
import Derived.Test.YtnmapianpjamnaaGreatDoorShl
import Derived.Test.YtnmapianpjamnaaGreatDoorShi
import Derived.Test.YtnmapianpjamnaaGreatDoorSht
set_option linter.all false
set_option maxRecDepth 100000
set_option maxHeartbeats 4000000
open Go.Proofs.Tryz
namespace Go.Proofs.YtnmapianpjamnaaGreatDoor
section
open Go.RowKit
def zI (f i gk:Nat) (own:Nat->Nat) (v w x:Value) (g u:List Nat) (b:World) (n:Bk b i 109 #[gk,v,w,x]) (z:WalkE b f own gk g u):
 ∃a,aDD g a/\Calls prog 31 #[i] b (fF b (shA a 9)):=by
 obtain ⟨y,E,j,_,⟨t,e,d⟩,_⟩:=z;obtain ⟨a,k,l⟩:=d.trees;refine ⟨a,l,?_⟩;have B:=n.cell 0;have C:=j.cell 0;have c:=nB f y own t _ e a b d.blk k;unfold fF at c⊢;obtain ⟨F,o⟩:=eqx ((shA a 9).length);obtain ⟨A,m⟩:=eqx (bJ (shA a 9));rw [o,m] at c⊢;clear j d o m n k l;go_enter func31,ntmps31;go_wp2_with fail;refine c.mono ?_;rintro D G ⟨e,rfl,p,q⟩;obtain ⟨r,s⟩:=hqq2 p q;clear c p q;go_wp2_with fail;go_ret;exact ⟨e,rfl,r.out,s.out⟩
structure ShpOk (s:Shp):Prop where
 len:0 < s.len/\s.len<=1100
 ht:0<=s.height/\s.height<=1000
 least:least s.height<=s.leaves
 leaves:1<=s.leaves/\s.leaves<=1100
 few:s.leaves - 1<=s.len / 128*4+s.len % 128*4 / 128
 nodes:s.nodes=2*s.leaves - 1
def Tr.Ok.shape {a:Tr} (b:a.Ok) (j:a.bits.length<=1100):ShpOk (shT a):=by
 have d:=b.pos;have e:=Tr.ht_lv a;have f:=Tr.avl_least b.avl;have g:=Tr.lv_pos a;have i:a.lv=1∨a.lv*32<=a.bits.length:=by
  cases a with
  | lf c=>exact .inl rfl
  | nd k l=>exact .inr (Tr.full_lv b.2)
 refine ⟨⟨?_,?_⟩,⟨?_,?_⟩,?_,⟨?_,?_⟩,?_,rfl⟩<;> unfold shT <;> simp only;omega;omega;omega;omega;unfold Go.Proofs.YtnmapianpjamnaaGreatDoor.least;rw [zBw oM];have:=lS (min (a.ht:Int).toNat 45) a.ht oM;omega;omega;omega;omega
def mB (g:World) (f:Nat) (k:Ending) (d:World):Prop:=∃e j a b,k=.returned (.slice e b j)/\a.length=b/\b<=1000/\Rd d d.heap.size 4 e b (bJ a)/\(∃c i,a=c::i/\c.len=((f+1:Nat):Int))/\(∀c∈a,ShpOk c)/\16*(bZ a).nodes<=9*((f+1:Nat):Int)+8176/\Below g.heap.size g d
def TxM.shapes {c:World} {j d gk u J a:Nat} {own:Nat->Nat} {G:Int} {b:List UInt8} {k:List Nat} {i:List Nat} {H:List (Nat×Nat)} (e:TxM c j own d gk u J G (aY b) k a i H) (B:b.length=a) (L:a<=900):
 Calls prog 31 #[d] c (mB c a):=by
 obtain ⟨s,f,E⟩:=zI j d gk own _ _ _ _ k c e.live.blk e.live.walk;refine E.mono ?_;rintro l P ⟨O,rfl,n,D⟩;have A:∀p∈aK (aY b) i,p < 257:=gN (iV b);have g:(aK (aY b) i).length=a+1:=by rw [eK,e.suf.len,bO,B]
 obtain ⟨N,r,C,o⟩:=aCF f A (fun l=>by rw [l] at g;simp at g);have m:=tG f;rw [g] at m o;obtain ⟨q,t,rfl,M⟩:=bE n;refine ⟨q,t,_,_,rfl,rfl,by have:=aA7 s;omega,Rd.of_own n,⟨_,r,C,by unfold shT;simp only;rw [o]⟩,fun p F=>?_,m,D⟩;obtain ⟨lv,I,K,v,w,x,rfl⟩:=aA6 F;obtain ⟨y,z⟩:=(f lv I v w).2 K x;exact y.shape z
end
section
open Go.RowKit
open Classical in
def VisF.split {f:Nat->Prop} {b c:World} (i:VisF f b c):∃w1,Keep f b w1/\Vis w1 c:=by
 let e:Array Obj:=Array.ofFn (n:=c.heap.size) fun m=>if j:m.val < b.heap.size/\¬f m.val then b.heap[m.val]'j.1 else c.heap[m.val]
 have y:e.size=c.heap.size:=Array.size_ofFn;have t:∀a,a < c.heap.size->e[a]?=if a < b.heap.size/\¬f a then b.heap[a]? else c.heap[a]?:=fun a j=>by
  rw [zAq oM,Array.getElem_ofFn];by_cases d:a < b.heap.size/\¬f a
  · rw [zBx d,dif_pos d,zAq d.1]
  · rw [zBw d,dif_neg d,zAq j]
 refine ⟨{ c with heap:=e },⟨i.os,i.tape,i.output,?_,fun l u x=>?_⟩,⟨rfl,rfl,rfl,?_,fun a j _=>?_⟩⟩;show b.heap.size<=e.size;rw [y];exact i.size
 · show e[l]?=b.heap[l]?;rw [t l (zAl u i.size),zBx ⟨u,x⟩]
 show e.size<=c.heap.size;omega;have w:a < c.heap.size:=(by have:a < e.size:=j;omega);have k:({ c with heap:=e }:World).heap[a]?=if a < b.heap.size/\¬f a then b.heap[a]? else c.heap[a]?:=t a w;by_cases d:a < b.heap.size/\¬f a;rw [zBx d] at k;have s:∀q g,Bk b a q g->Bk { c with heap:=e } a q g:=fun q g l=>k.trans l;rcases i.block a d.1 d.2 with v |⟨g,r,o,p⟩|⟨g,r,o,p⟩;exact .inl (by rw [k];exact v);exact .inr (.inl ⟨g,r,s _ _ o,p⟩);exact .inr (.inr ⟨g,r,s _ _ o,p⟩);rw [zBw d] at k;exact .inl k.symm
def LiveE.visF {g i:World} {a:Nat} {own:Nat->Nat} {d:Nat} {f:List UInt8} {e:Nat} {b:Nat->Prop} (j:LiveE g a own d f e) (n:VisF b g i) (m:∀c,b c->own c=0):LiveE i a own d f e:=by
 obtain ⟨w1,k,l⟩:=n.split;exact (j.far0 k m).vis l
end
section
open Go.RowKit
def WaveE.visF {f g:World} {b:Nat} {own:Nat->Nat} {e:Nat} {d:List Nat} {c:Nat->Prop} (i:WaveE f b own e d) (n:VisF c f g) (l:∀a,c a->own a=0):WaveE g b own e d:=by
 obtain ⟨w1,j,k⟩:=n.split;exact (i.far j fun a m=>by rw [l a m];omega).vis k
def aA0 {c:World} {f:Nat} {own:Nat->Nat} {d:Nat} {e:List UInt8} {k:Nat} (i:LiveE c f own d e k):∃a:Int,a<=(e.length:Int)+1/\Calls prog 28 #[d] c fun g l=>g=.returned (.int .i64 a)/\c=l:=by
 obtain ⟨gk,o,a,m,r,q,b,_,_,_,j⟩:=i;refine ⟨a,j,?_⟩;have n:=b.live.blk.cell 3;have p:=b.live.blk.lt;clear b;go_enter func28,ntmps28;go_wp2_with fail;go_ret;exact ⟨rfl,rfl⟩
def LiveE.shp {b:World} {g:Nat} {own:Nat->Nat} {c a:Nat} {f:List UInt8} {k:Nat} (i:LiveE b g own c f k) (d:f.length=a) (j:a<=900):Calls prog 31 #[c] b (mB b a):=by
 obtain ⟨gk,m,n,l,p,o,e,_⟩:=i;rw [d] at e;exact e.shapes d j
def ShpOk.small {b:Shp} (a:ShpOk b):b.small:=by
 have c:=a.len;have d:=a.leaves;have e:=a.nodes;unfold Shp.small;omega
def qY (c:Nat) (e:Nat->Value) (f a:Int) (b:World) (d:Bk b c 135 (wcells e f a)):
 Calls prog 35 #[c] b fun g i=>g=.returned (.int .i64 a)/\b=i:=by
 have j:b.cell? ⟨c,10,none⟩=some (.int .i64 a):=(d.cell 10).trans (aT e f a).2.2.2.2.2.2.2.2.2.2;have k:=d.lt;clear d;go_enter func35,ntmps35;go_wp2_with fail;go_ret;exact ⟨rfl,rfl⟩
def aFy (a:Nat):hB a<=44:=by
 unfold hB;have:=pD ((4*(a+1)/ 128+1:Nat):Int);omega
def aE5 {n:Nat} {a:Int} (e:n<=1000) (c:a<=((9*(6*hB n+3):Nat):Int)):¬(a > lG (n:Int)):=by
 unfold lG;rw [vN _ oM oM];have b:4*((n:Int)+1)/ 128+1=((4*(n+1)/ 128+1:Nat):Int):=oM;rw [b];unfold hB at c;have:=pD ((4*(n+1)/ 128+1:Nat):Int);have d:(0:Int)<=gA ((4*(n+1)/ 128+1:Nat):Int):=(aAu _ oM).2;generalize gA ((4*(n+1)/ 128+1:Nat):Int)=x at*
 omega
def aFK {a:Int} (b:0<=a) (c:a<=100000):wrap64 a=a:=by unfold wrap64;omega
def aE7 {y:Int} {a:Nat} (e:a<=1000):∃b:Nat,wrap64 (y %((a:Int)+1))=(b:Int)/\b<=a:=by
 have c:0<=y %((a:Int)+1):=Int.emod_nonneg _ oM;have d:y %((a:Int)+1) < (a:Int)+1:=Int.emod_lt_of_pos _ oM;generalize y %((a:Int)+1)=r at c d⊢;exact ⟨r.toNat,by unfold wrap64;omega,by omega⟩
def aE6 (a:Nat):∃b:Nat,97+(a:Int)% 3=(b:Int)/\b < 257:=⟨97+a % 3,by omega,by omega⟩
def yF {M:Nat} {nd:Int} (b:M<=300) (a:16*nd<=9*((M+1:Nat):Int)+8176):nd<=lW (M:Int):=by
 unfold lW;rw [vN _ oM oM];omega
def WvT.below {a f:World} {B:Nat} {own:Nat->Nat} {d:Nat} {b:Nat->Value} {c:Nat->Nat->Option Tr} (k:WvT a B own d b c) (e:Below a.heap.size a f):WvT f B own d b c:=fun lv l=>by
 obtain ⟨g,i,j⟩:=k lv l;exact ⟨g,aO i e,fun n m=>(j n m).below e⟩
def mW {w0 c g:World} {i l:Nat} {own p b:Nat->Nat} {j:List Nat} (f:LF w0.heap.size c g own p) (o:WaveE c i b l j) (m:∀a,own a≠0->b a=0) (n:Below w0.heap.size w0 c):WaveE g i b l j/\(∀a,p a≠0->b a=0)/\Below w0.heap.size w0 g:=by
 refine ⟨o.visF f.vis fun a d=>m a d,fun a e=>?_,n.trans (f.keep.to_below n.size fun a e d=>by have t:w0.heap.size<=a:=d;omega)⟩;by_cases k:a < c.heap.size;rw [f.old a k] at e;exact m a e;exact Classical.byContradiction fun q=>by obtain ⟨s,u,r⟩:=o;exact k (r.bnd a q).2
def aFI {a:Nat} (b:a<=212):wrap64 ((a:Int)+1)=((a+1:Nat):Int):=by unfold wrap64;omega
def aFD {a:Nat} (b:a<=213):lX ((a:Int)+1)=(a:Int)+1:=vN _ oM oM
def aEE {b:Int} {a:Nat} (c:b<=(a:Int)+1):¬(b > (a:Int)+1+2):=oM
def aFB {a:Nat} (b:a<=213):wrap64 ((a:Int)+1)=((a+1:Nat):Int):=by unfold wrap64;omega
def aFM {a:Nat} (b:a<=212):IntKind.i64.wrap ((a:Int)+1)=((a+1:Nat):Int):=by rw [IntKind.wrap_i64];omega
def aFJ {a:Nat} (b:a<=212):IntKind.u64.wrap ((a+1:Nat):Int)=((a+1:Nat):Int):=by rw [IntKind.wrap_u64];omega
def aFL {a b:Nat} (d:a<=b) (c:b<=212):IntKind.i64.wrap (a:Int)=(a:Int):=by rw [IntKind.wrap_i64];omega
def aFC {b a:Nat} (c:(b:Int) < ((a+1:Nat):Int)):b<=a:=oM
def rW (b4:Option Addr) (aX bW:Nat) (cE:List Int) (bX:Bool) (bL:Option Addr) (H da:Nat) (cF:List Int) (c:World) (cu:Rd c c.heap.size 1 b4 aX (cE.map iv)) (ds:aX<=maxLen) (cv:Rd c c.heap.size 1 bL H (cF.map iv)) (cp:H<=maxLen) (bk:TabW c):
 Calls prog 6 #[.slice b4 aX bW,.bool bX,.slice bL H da] c fun b m=>b=.returned (.bool true)/\Below c.heap.size c m:=by
 have bH:=bk.pos;obtain ⟨bU,bV,dK,cO⟩:=hqq4 cu cv cp bk;clear cu bk cv cp;go_enter func6,ntmps6;go_wp2_with fail;refine (aDE b4 aX bW c.heap.size cE 200 bX c bU.out nL ds oM).mono ?_;rintro b w1 ⟨av,b5,bh,bG,_,rfl,bw,c4⟩;obtain ⟨ag,aO⟩:=eqx av.length;rw [aO] at bw bG;rw [aO];obtain ⟨aA,bT,aC,aB⟩:=hqq4 aO bw c4 bG;clear aO bw c4 bU bG;go_wp2_with fail;have ao:Below w1.heap.size w1 (w1.alloc (.cells #[.slice b5 ag bh] 22)):=bR.alloc nL _;refine (wU 8 _ 1 1 _ [⟨b5,ag,bh,av⟩] av ag (by simp [iC]) aA.out _ (Rd.made w1 22 1 1 #[.slice b5 ag bh] rfl) (fun A R=>by simp at R;subst R;exact (bT.out.below ao).rd) nL oM (by have:=aB.out;omega) oM oM).mono ?_;rintro b a7 ⟨al,own,rfl,dl,cn,c7⟩;have c6:=ao.trans (c7.mono ao.size);have aD:=lhd (aC.out.trans (c6.mono aC.out.size));have bc:=lhd (cn.low (B':=c.heap.size) (by have:=aC.out.size;have:=ao.size;omega));clear cn c7 c6 ao dl aC bT;go_wp2_with fail;have ap:Below a7.heap.size a7 (a7.alloc (.cells #[.int .i64 97,.int .i64 98] 3)):=bR.alloc nL _;refine (nC _ 2 2 _ [97,98] _ (Rd.made a7 3 1 2 #[.int .i64 97,.int .i64 98] rfl) nL oM dC).mono ?_;rintro b dH ⟨r,a2,rfl,bI,c8⟩;have aQ:=ap.trans (c8.mono ap.size);have an:∀i,own i≠0->a2 i=0:=fun i Y=>Classical.byContradiction fun z=>by have W:=(bc.out.bnd i Y).2;obtain ⟨d9,dD,aP⟩:=bI;have am:=(aP.bnd i z).1;have:=ap.size;omega
 obtain ⟨bd,aG,b8,o⟩:=hqq4 (bc.out.vis (Vis.of_below aQ)) bI (aD.out.trans (aQ.mono aD.out.size)) an;have dV:a7.heap.size<=dH.heap.size:=aQ.size;have b6:=lhd (show c.heap.size<=(a7.alloc (.cells #[.int .i64 97,.int .i64 98] 3)).heap.size from zAk aD.out.size ap.size);obtain ⟨x,bY⟩:=eqx ((a7.alloc (.cells #[.int .i64 97,.int .i64 98] 3)).heap.size);rw [bY] at aG b6;clear bI c8 aQ an bc aD ap bY
 go_upto_block 0 with fail
 go_cut [12,13,14] from 46 to 120 (fun _ _ _ ad=>WaveE ad x a2 r [97,98]/\Below c.heap.size c ad)
 case first=>
  go_wp2_with fail;go_loopw [12,13] (fun B l wr=>∃(j a:Nat) (a6:List UInt8) (own:Nat->Nat),j<=H/\j<=12/\a6.length=a/\a<=200+j/\B=.int .i64 (a:Int)/\l=.int .i64 (j:Int)/\LiveE wr c.heap.size own al a6 8/\WaveE wr x a2 r [97,98]/\(∀i,own i≠0->a2 i=0)/\Below c.heap.size c wr) (fun _ l _=>12 -(intOf l).toNat)
  case atStart=>exact ⟨0,ag,av,own,zAp _,by omega,aA.out,by have:=aB.out;omega,rfl,rfl,bd.out,aG.out,o.out,b8.out⟩
  case round=>
   clear aA aB bd aG o b8;obtain ⟨j,a,a6,own,dR,dS,cz,c1,rfl,rfl,co,G,an,O⟩:=hrel;obtain ⟨K,g,o,e,f,ay⟩:=hqq6 co G an O cz c1;clear co G an O cz c1;by_cases P:j < H/\j < 12
   · obtain ⟨dq,dr⟩:=P;have aS:(j:Int) < (H:Int):=oM;obtain ⟨D,cD⟩:∃D,cF[j]?=some D:=⟨_,zAa (by have:=bV.out.1;rw [zBc] at this;omega)⟩;obtain ⟨bg,cG,rfl,bm,ci⟩:=bV.out.2 oM;have dL:wr.cell? ⟨bg,cG+j,none⟩=some (.int .i64 D):=(e.out.cell (p:=⟨bg,cG+j,none⟩) bm).trans (ci j _ (by rw [zAf,cD];rfl));have dP:bg < wr.heap.size:=zAl bm e.out.size;have L:a<=212:=zAk ay.out oM;obtain ⟨d,a0,cl⟩:=aA4 D ((a+1:Nat):Int) oM;have br:d<=a:=aFC cl;have aH:wrap64 ((a:Int)+1)=((a+1:Nat):Int):=aFI L;have bi:IntKind.i64.wrap ((a:Int)+1)=((a+1:Nat):Int):=aFM L;have aJ:IntKind.u64.wrap ((a+1:Nat):Int)=((a+1:Nat):Int):=aFJ L;have bj:IntKind.i64.wrap (d:Int)=(d:Int):=aFL br L;obtain ⟨af,aM⟩:=eqx (a+1);rw [aM] at aH bi aJ a0;have df:¬af=0:=(by rw [<-aM];exact Nat.succ_ne_zero a);have dM:¬(af:Int)=0:=fun z=>df (Int.ofNat.inj z);obtain ⟨aE,a8,bf⟩:=hqq3 br aM aH;clear cl ci cD aM br bm
     go_upto_block 2 with fail
     go_cut [12] from 46 to 120 (fun B ad=>∃(q:Nat) (b0:List UInt8) (aY:Nat->Nat),B=.int .i64 (q:Int)/\b0.length=q/\q<=a+1/\LiveE ad c.heap.size aY al b0 8/\WaveE ad x a2 r [97,98]/\(∀i,aY i≠0->a2 i=0)/\Below c.heap.size c ad)
     case first=>
      have bM:=lhd (cO.out.below e.out bH);by_cases aj:bits .and .i64 D 3=3/\d < a
      · obtain ⟨cI,ac⟩:=aj;have bp:=zK wr c.heap.size own al a6 8 d K.out bM.out bH (by rw [f.out];exact zAk L dC) (by rw [f.out];exact ac) dC dC;unfold wW at bp;have cT:=lhd bp;obtain ⟨q,X⟩:∃q,a=q+1:=⟨a - 1,by omega⟩;have dN:IntKind.i64.wrap ((a:Int) - 1)=(q:Int):=(by rw [X,IntKind.wrap_i64];omega);have az:=lhd X;clear bp X aH bi aJ bj a0;go_wp2_with fail;refine cT.out.mono ?_;rintro b b1 ⟨rfl,I,s,t⟩;obtain ⟨u,v,w⟩:=mW t g.out o.out e.out;obtain ⟨E,F⟩:=hqq2 s (And.intro u (And.intro v w));clear s t u v w;go_wp2_with fail;go_meet;exact ⟨q,_,I,rfl,by have W:=bF a6 (k:=d) (by rw [f.out];exact ac);rw [f.out,az.out] at W;exact Nat.succ.inj W,by rw [az.out];omega,E.out,F.out⟩
      · by_cases ak:bits .and .i64 D 3=2/\d < a
        · obtain ⟨cI,ac⟩:=ak;have dA:¬bits .and .i64 D 3=3:=(by rw [cI];decide);have aV:=aDI wr c.heap.size own al a6 8 d 99 K.out bM.out bH (by rw [f.out];exact zAk L dC) (by rw [f.out];exact ac) dC dC;rw [show (((99:UInt8).toNat:Nat):Int)=99 from rfl] at aV;unfold wW at aV;have d0:=lhd aV;clear aV aH bi aJ bj a0;go_wp2_with fail;refine d0.out.mono ?_;rintro b b1 ⟨rfl,I,s,t⟩;obtain ⟨u,v,w⟩:=mW t g.out o.out e.out;obtain ⟨E,F⟩:=hqq2 s (And.intro u (And.intro v w));clear s t u v w;go_wp2_with fail;go_meet;exact ⟨a,_,I,rfl,by rw [zAt];exact f.out,Nat.le_succ a,E.out,F.out⟩
        have Z:=zJ wr c.heap.size own al a6 8 d 97 K.out (by rw [f.out];exact zAk L dC) (by rw [f.out];exact aE.out) dC dC;rw [show (((97:UInt8).toNat:Nat):Int)=97 from rfl] at Z;unfold wW at Z;have ae:=lhd Z;clear Z aJ bj a0;by_cases cK:bits .and .i64 D 3=3
        · have ac:¬d < a:=fun z=>aj ⟨cK,z⟩;have dA:¬bits .and .i64 D 3=2:=(by rw [cK];decide);clear aj ak;go_wp2_with fail;refine ae.out.mono ?_;rintro b b1 ⟨rfl,I,s,t⟩;obtain ⟨u,v,w⟩:=mW t g.out o.out e.out;obtain ⟨E,F⟩:=hqq2 s (And.intro u (And.intro v w));clear s t u v w;go_wp2_with fail;go_meet;exact ⟨af,_,I,by rw [<-bf.out],by rw [bB _ _ (by rw [f.out];exact aE.out),f.out];exact a8.out,by rw [<-a8.out];exact zAs _,E.out,F.out⟩
        · by_cases dJ:bits .and .i64 D 3=2
          · have ac:¬d < a:=fun z=>ak ⟨dJ,z⟩;clear aj ak;go_wp2_with fail;refine ae.out.mono ?_;rintro b b1 ⟨rfl,I,s,t⟩;obtain ⟨u,v,w⟩:=mW t g.out o.out e.out;obtain ⟨E,F⟩:=hqq2 s (And.intro u (And.intro v w));clear s t u v w;go_wp2_with fail;go_meet;exact ⟨af,_,I,by rw [<-bf.out],by rw [bB _ _ (by rw [f.out];exact aE.out),f.out];exact a8.out,by rw [<-a8.out];exact zAs _,E.out,F.out⟩
          · clear aj ak;go_wp2_with fail;refine ae.out.mono ?_;rintro b b1 ⟨rfl,I,s,t⟩;obtain ⟨u,v,w⟩:=mW t g.out o.out e.out;obtain ⟨E,F⟩:=hqq2 s (And.intro u (And.intro v w));clear s t u v w;go_wp2_with fail;go_meet;exact ⟨af,_,I,by rw [<-bf.out],by rw [bB _ _ (by rw [f.out];exact aE.out),f.out];exact a8.out,by rw [<-a8.out];exact zAs _,E.out,F.out⟩
     case rest=>
     clear K g o e f;obtain ⟨q,b0,aY,rfl,aW,X,aR,cC,c3,cf⟩:=hcut;have aN:q<=213:=zAk X (Nat.succ_le_succ L);obtain ⟨dX,aT,cr⟩:=aA0 aR;rw [aW] at aT;have ch:=aFD aN;have du:=zBy (aEE aT);have dv:=aEE aT;have dg:wrap64 ((q:Int)+1)=((q+1:Nat):Int):=aFB aN;have bA:=aR.shp aW (zAk aN dC);unfold mB at bA;obtain ⟨cX,d1,cQ,K,g,o,e,f,az⟩:=hqq9 cr bA ch aR cC c3 cf aW X;have cN:=lhd aN;clear cr bA ch aR cC c3 cf aW X aT;go_wp2_with fail;refine cX.out.mono ?_;rintro b ax ⟨rfl,rfl⟩;go_wp2_with fail;refine (uA _ _).mono ?_;rintro b ax ⟨rfl,rfl⟩;rw [cQ.out];go_wp2_with fail;refine d1.out.mono ?_;rintro b ax ⟨cL,db,T,dy,rfl,dp,cq,cw,_,ar,Q,c9⟩;have ab:∀A∈T,A.small:=fun A R=>(ar A R).small;have aa:=yF (zAk cN.out dC) Q;obtain ⟨⟨a3,a4,a5,nd⟩,a1⟩:∃B,bZ T=B:=⟨_,rfl⟩;rw [a1] at aa;have S:=wK cL dy db T ax.heap.size ax cw nL ab (zAk cq dC);rw [a1,show Shp.val ⟨a3,a4,a5,nd⟩=.agg #[.int .i64 a3,.int .i64 a4,.int .i64 a5,.int .i64 nd] from rfl] at S;have aF:=lhd S;have ct:¬(nd > lW (q:Int)):=Int.not_lt.2 aa;have dU:=zBy ct;have dk:∀V,(Instr.field 68 (.agg #[.int .i64 a3,.int .i64 a4,.int .i64 a5,.int .i64 nd]) 3).run prog V=.ok (.int .i64 nd) V:=fun V=>by kernel_rfl
     have b9:=lhd c9;clear ab aa a1 S ar Q cw dp cq c9 du dv dg;go_wp2_with fail;refine aF.out.mono ?_;rintro b b2 ⟨rfl,cb⟩;have ca:=b9.out.trans (cb.mono b9.out.size);have ba:=lhd ca;clear cb ca aF b9;go_wp2_with fail;refine (oG _ _).mono ?_;rintro b bJ ⟨rfl,rfl⟩;go_wp2_with fail;go_roundw
     case rel=>exact ⟨j+1,q,b0,aY,dq,dr,f.out,zAk az.out (Nat.succ_le_succ ay.out),rfl,by go_num,K.out.vis (Vis.of_below ba.out),g.out.vis (Vis.of_below ba.out),o.out,e.out.trans (ba.out.mono e.out.size)⟩
     case measure=>simp [intOf];omega
   · have bP:=lhd (And.intro g.out e.out);by_cases bq:j < H
     · have aS:(j:Int) < (H:Int):=Int.ofNat_lt.2 bq;have dT:¬(j:Int) < 12:=fun z=>P ⟨bq,Int.ofNat_lt.1 z⟩;clear P K g o e f ay;go_wp2_with fail;go_meet;exact bP.out
     · have aS:¬(j:Int) < (H:Int):=fun z=>bq (Int.ofNat_lt.1 z);clear P K g o e f ay;go_wp2_with fail;go_meet;exact bP.out
 case rest=>
 obtain ⟨G,O⟩:=hcut;obtain ⟨g,e⟩:=hqq2 G O;clear G O aA aB bd aG o b8;go_wp2_with fail;go_loopw [15] (fun B wr=>∃(l:Nat) (C:List Nat) (au:Nat->Nat),l<=200/\B=.int .i64 (l:Int)/\C.length=l+2/\(∀b3∈C,b3 < 257)/\WaveE wr x au r C/\Below c.heap.size c wr) (fun B _=>200 -(intOf B).toNat)
 case atStart=>exact ⟨0, [97,98],a2,zAp _,rfl,rfl,by decide,g.out,e.out⟩
 case round=>
  clear g e;obtain ⟨l,C,au,dn,rfl,aL,c0,G,O⟩:=hrel;obtain ⟨U,aU⟩:=eqx (l+2);rw [aU] at aL;have aq:U<=202:=by rw [<-aU];exact Nat.add_le_add_right dn 2
  have bu:=fR x r C wr G.at
  rw [aL] at bu;obtain ⟨bS,J,b7,g,e,Hn⟩:=hqq6 bu aL c0 G O aU;clear bu aL c0 G O aU;by_cases P:l < 200
  · have aS:(l:Int) < 200:=oM;have dm:=P;obtain ⟨bK,dx⟩:∃b3:Int,(l:Int)*7=b3:=⟨_,rfl⟩;have dO:wrap64 bK=bK:=(by rw [<-dx];exact aFK oM oM);obtain ⟨d,a0,bs⟩:=aE7 (y:=bK) (zAk aq dC:U<=1000);obtain ⟨aZ,cy,bD⟩:=aE6 l;obtain ⟨cU,d5⟩:=hqq2 a0 cy;have ck:x<=r/\∀i,au i≠0->x<=i:=(by obtain ⟨d9,dD,aP⟩:=g.out;exact ⟨aP.base.1,fun i Y=>(aP.bnd i Y).1⟩);have Z:=nD x r (hB (U+1)) au C d aZ wr g.out bD (by rw [J.out];exact bs) b7.out (by rw [J.out];exact zAk aq dC) (fun av W am=>W.ht_hB (by rw [J.out] at am;exact am) (zAk (Nat.succ_le_succ aq) dC)) (zAk (aFy _) dC);obtain ⟨ae,bQ,cV,d6⟩:=hqq4 Z ck bs bD;clear a0 bs P Z ck cy bD;go_wp2_with fail;refine bS.out.mono ?_;rintro b ax ⟨rfl,rfl⟩;go_wp2_with fail;rw [cU.out,d5.out];refine ae.out.mono ?_;rintro b b2 ⟨rfl,cH,⟨ah,aw,N,dw,cA⟩,_,_,cm⟩;have bt:(aI C d aZ).length=U+1:=by rw [bB _ _ (by rw [J.out];exact cV.out),J.out]
    have cg:=e.out.trans (cm.to_below e.out.size fun i Y aK=>by
        rcases aK with aK | aK;rw [aK] at Y;exact absurd (zAk b6.out bQ.out.1) (Nat.not_le.2 Y)
        · exact absurd (zAk b6.out (bQ.out.2 i oM)) (Nat.not_le.2 Y))
    have a9:=fR x r _ b2 (WaveE.at ⟨ah,aw,N⟩);rw [bt] at a9;have cB:=qY r ah _ aw b2 N.blk;have cj:=aE5 (n:=U+1) (zAk (Nat.succ_le_succ aq) dC) cA;obtain ⟨de,bo⟩:=eqx (lG ((U+1:Nat):Int));rw [bo] at cj;have cS:=lhd bo;have dQ:=zBy cj;clear bo;obtain ⟨be,d7,d8,cW,cP⟩:=hqq5 a9 cB (show WaveE b2 x cH r (aI C d aZ) from ⟨ah,aw,N⟩) bt cg;clear a9 cB bt cg cm N dw cA;go_wp2_with fail;refine d7.out.mono ?_;rintro b bJ ⟨rfl,rfl⟩;go_wp2_with fail;refine be.out.mono ?_;rintro b bJ ⟨rfl,rfl⟩;go_wp2_with fail;refine (rF _ _).mono ?_;rintro b bJ ⟨rfl,rfl⟩;rw [show lG ((U:Int)+1)=de from cS.out];go_wp2_with fail;go_roundw
    case rel=>exact ⟨l+1,aI C d aZ,cH,dm,by go_num,by rw [cW.out,<-Hn.out],aBi b7.out d6.out,d8.out,cP.out⟩
    case measure=>simp [intOf];omega
  · have aS:¬(l:Int) < 200:=oM;obtain rfl:l=200:=oM;obtain rfl:=Hn.out;obtain ⟨ah,aw,N⟩:=g.out;obtain ⟨ai,c2,bl⟩:=N.trees;have cx:=fun m (d:Below wr.heap.size wr m)=>nB x r au ah _ aw ai m (N.below d).blk (c2.below d);have ar:∀A∈shA ai 9,ShpOk A:=fun A R=>by obtain ⟨lv,dz,dB,W,am,dh,rfl⟩:=aA6 R;obtain ⟨di,dj⟩:=(bl lv dz W am).2 dB dh;exact di.shape dj
    have ab:∀A∈shA ai 9,A.small:=fun A R=>(ar A R).small;have Q:=tG bl;have bx:=aA7 ai;rw [J.out] at Q;obtain ⟨T,bv⟩:=eqx (shA ai 9);rw [bv] at ab Q bx;have bC:∀m:World,Below wr.heap.size wr m->Calls prog 38 #[r] m (fF m T):=fun m d=>by rw [<-bv];exact cx m d
    unfold fF at bC;obtain ⟨⟨a3,a4,a5,nd⟩,a1⟩:∃B,bZ T=B:=⟨_,rfl⟩;rw [a1] at Q;have aa:nd<=lW ((202:Nat):Int):=yF (M:=202) dC (Int.le_trans Q dC)
    have a9:∀m:World,Below wr.heap.size wr m->Calls prog 34 #[r] m fun b dE=>b=.returned (.int .i64 202)/\m=dE:=fun m d=>by
        have:=fR x r C m (g.out.vis (Vis.of_below d)).at
        rw [J.out] at this;exact this
    obtain ⟨d2,be,d4,d3,cY,cZ⟩:=hqq6 bC a9 a1 ab bx aa;clear N c2 bl cx ar ab Q bx bv bC a1 aa a9 g J b7 bS P aq;go_wp2_with fail;refine (zY wr).mono ?_;rintro b dI ⟨rfl,cc⟩;have bb:=lhd cc;clear cc;go_wp2_with fail;refine (d2.out dI bb.out).mono ?_;rintro b cJ ⟨dY,rfl,bz,ce⟩;obtain ⟨cM,dc,rfl,dt⟩:=bE bz;have cd:=bb.out.trans (ce.mono bb.out.size);have S:=wK cM _ dc T cJ.heap.size cJ (Rd.of_own bz) nL d3.out (zAk cY.out dC);rw [d4.out,show Shp.val ⟨a3,a4,a5,nd⟩=.agg #[.int .i64 a3,.int .i64 a4,.int .i64 a5,.int .i64 nd] from rfl] at S;have dk:∀V,(Instr.field 68 (.agg #[.int .i64 a3,.int .i64 a4,.int .i64 a5,.int .i64 nd]) 3).run prog V=.ok (.int .i64 nd) V:=fun V=>by kernel_rfl
    obtain ⟨dW,cs⟩:=eqx T.length;rw [cs] at S⊢;obtain ⟨aF,bO⟩:=hqq2 S cd;clear S ce cd bz dt cs;go_wp2_with fail;refine aF.out.mono ?_;rintro b dF ⟨rfl,c5⟩;have bN:=lhd (bO.out.trans (c5.mono bO.out.size));clear c5;go_wp2_with fail;refine (be.out dF bN.out).mono ?_;rintro b dG ⟨rfl,rfl⟩;obtain ⟨dd,bn⟩:=eqx (lW 202);have ct:nd<=dd:=(by rw [<-bn];exact cZ.out);have cR:=lhd bn;clear bn;go_wp2_with fail;refine (oG _ _).mono ?_;rintro b dG ⟨rfl,rfl⟩;rw [cR.out];go_wp2_with fail;go_ret;exact ⟨rfl,e.out.trans (bN.out.mono e.out.size)⟩
end
end Go.Proofs.YtnmapianpjamnaaGreatDoor
