/- Lemmas of the walk. Conditions: each its own. -/
import Derived.Test.YtnmapianpjamnaaGreatDoorPc27
import Derived.Test.YtnmapianpjamnaaGreatDoorProg
import Derived.Test.YtnmapianpjamnaaGreatDoorShl
import Derived.Test.YtnmapianpjamnaaGreatDoorShi
import Derived.Test.YtnmapianpjamnaaGreatDoorSht
set_option linter.all false
set_option maxRecDepth 100000
set_option maxHeartbeats 8000000
open Go.Proofs.Tryz
namespace Go.Proofs.YtnmapianpjamnaaGreatDoor
section
open Go.RowKit
def aCE:(prog.info? 68).map (fun a=>(a.zero.map (·.cells.size),a.size,a.bytes))=some (some 4,4,32):=by kernel_rfl
def aBB:∃b c,prog.info? 68=some b/\b.zero=some c/\b.size=4/\b.bytes=32/\c.cells.size=4:=by
 have a:=aCE;cases e:prog.info? 68 with
 | none=>rw [e] at a;cases a
 | some b=>
   rw [e] at a;cases d:b.zero with
   | none=>simp [d] at a
   | some c=>
     simp [d] at a;exact ⟨b,c,rfl,d,a.2.1,a.2.2,a.1⟩
def aEL (a:Nat->Nat->Option Tr) (lv:Nat):(shA a lv).length+1<=2 ^ lv:=by
 induction lv with
 | zero=>exact zAs _
 | succ lv b=>
   have:=uN (a lv) (2 ^ lv);unfold shA;rw [zAi,Nat.pow_succ];omega
def fF (a:World) (b:List Shp) (e:Ending) (d:World):Prop:=∃c,e=.returned c/\d.ownsRow a.heap.size 68 4 c b.length (bJ b)/\Below a.heap.size a d
def WvT (c:World) (d:Nat) (own:Nat->Nat) (i:Nat) (e:Nat->Value) (f:Nat->Nat->Option Tr):Prop:=∀lv,lv < 9->∃b:Nat->Nat,c.ownsRow d 143 3 (e lv) (2 ^ lv) (cO b lv (2 ^ lv))/\∀a,a < 2 ^ lv->TreeEo c (fun g=>own g=TC lv a) (b a) (f lv a)
def TreeEo.ok {i:World} {c:Nat->Prop} {d:Nat} {b:Tr} (e:TreeEo i c d (some b)):b.Ok/\b.bits.length<=1100:=by
 obtain ⟨_,_,_,_,_,_,_,_,_,_,_,⟨a,_⟩|⟨j,a,_,_,f,g,_⟩⟩:=e
 · cases a
 injection a with a;subst a;exact ⟨f,g⟩
def WaveS.trees {e:World} {k:Nat} {own:Nat->Nat} {s:Nat} {l:Nat->Value} {f:List Nat} {C D:Int} (A:WaveS e k own s l (fun _=>f) C D):∃g,WvT e k own s l g/\aDD f g:=by
 have B:∀lv,∃d:Nat->Option Tr,lv < 9->(∃c:Nat->Nat,e.ownsRow k 143 3 (l lv) (2 ^ lv) (cO c lv (2 ^ lv))/\∀a,a < 2 ^ lv->TreeEo e (fun n=>own n=TC lv a) (c a) (d a))/\∀a,a < 2 ^ lv->bK (d a)=aF f lv a/\∀j,d a=some j->j.Ok/\j.bits.length<=1100:=fun lv=>by
  by_cases q:lv < 9
  · obtain ⟨c,x,_,y⟩:=A.rows lv q;have z:∀a,∃i,a < 2 ^ lv->bK i=aF f lv a/\TreeEo e (fun n=>own n=TC lv a) (c a) i:=fun a=>by by_cases r:a < 2 ^ lv;obtain ⟨i,v,w⟩:=y a r;exact ⟨i,fun _=>⟨v,w⟩⟩;exact ⟨none,fun m=>absurd m r⟩
    obtain ⟨d,o⟩:=Classical.skolem.1 z;exact ⟨d,fun _=>⟨⟨c,x,fun a b=>(o a b).2⟩,fun a b=>⟨(o a b).1,fun j u=>by have:=(o a b).2;rw [u] at this;exact this.ok⟩⟩⟩
  exact ⟨fun _=>none,fun m=>absurd m q⟩
 obtain ⟨g,t⟩:=Classical.skolem.1 B;exact ⟨g,fun lv p=>(t lv p).1,fun lv a p b=>(t lv p).2 a b⟩
def nB (aN f:Nat) (own:Nat->Nat) (e:Nat->Value) (aH aL:Int) (b:Nat->Nat->Option Tr) (c:World) (d:Bk c f 135 (wcells e aH aL)) (aq:WvT c aN own f e b):
 Calls prog 38 #[f] c (fF c (shA b 9)):=by
 obtain ⟨bp,bt,bg,bl,bm,bn,bo⟩:=aBB;have aE:=aq;obtain ⟨O,ai,aj,ak,al,am,an,ao,ap,b8,b7⟩:=aT e aH aL;have bw:c.cell? f=some (e 0):=(d.cell 0).trans O;have bx:c.cell? ⟨f,1,none⟩=some (e 1):=(d.cell 1).trans ai;have bz:c.cell? ⟨f,2,none⟩=some (e 2):=(d.cell 2).trans aj;have bA:c.cell? ⟨f,3,none⟩=some (e 3):=(d.cell 3).trans ak;have bB:c.cell? ⟨f,4,none⟩=some (e 4):=(d.cell 4).trans al;have bC:c.cell? ⟨f,5,none⟩=some (e 5):=(d.cell 5).trans am;have bD:c.cell? ⟨f,6,none⟩=some (e 6):=(d.cell 6).trans an;have bE:c.cell? ⟨f,7,none⟩=some (e 7):=(d.cell 7).trans ao;have bF:c.cell? ⟨f,8,none⟩=some (e 8):=(d.cell 8).trans ap;have b0:=lhd aE;clear aE d aq O ai aj ak al am an ao ap b8 b7;unfold fF;go_enter func38,ntmps38;go_wp2_with fail;go_loopw [3,14] (fun ac l wr=>∃lv:Nat,lv<=9/\l=.int .i64 (lv:Int)/\wr.ownsRow c.heap.size 68 4 ac (shA b lv).length (bJ (shA b lv))/\Below c.heap.size c wr) (fun _ l _=>9 -(intOf l).toNat)
 case atStart=>exact ⟨0,by omega,rfl,World.ownsRow_nil _ _ _ _,Below.refl _ _⟩
 case round=>
  obtain ⟨lv,bQ,rfl,a6,d⟩:=hrel;by_cases ax:lv < 9
  · have bh:=ix9 e lv ax;obtain ⟨ad,v,ab⟩:=b0.out lv ax;obtain ⟨k,p⟩:=eqx (2 ^ lv);have bS:k<=512:=(by rw [<-p];exact zAk (zBp dC (by omega:lv<=9)) dC);have bi:0 < k:=(by rw [<-p];exact Nat.pow_pos dC);rw [p] at v ab;obtain ⟨P,bH,ar,bT,bP⟩:=World.ownsRow.form v bi;rw [ar] at bh v;have a9:=aEL b lv;rw [p] at a9;obtain ⟨aY,aR,b3,b5,aX,b1⟩:=hqq6 a6 d v ab p a9;clear a6 d v ab ar p a9;go_wp2_with fail;have bf:decide ((lv:Int) < 9)=true:=zBz oM;rw [bf];go_loopw [3,19] (fun ac l aM=>∃a:Nat,a<=k/\l=.int .i64 (a:Int)/\aM.ownsRow c.heap.size 68 4 ac (shA b lv++shL (b lv) a).length (bJ (shA b lv++shL (b lv) a))/\Below c.heap.size c aM) (fun _ l _=>k -(intOf l).toNat)
    case atStart=>exact ⟨0,zAp _,rfl,by rw [show shA b lv++shL (b lv) 0=shA b lv from List.append_nil _];exact aY.out,aR.out⟩
    case round=>
        obtain ⟨a,bU,rfl,F,n⟩:=hrel;have bk:=n.size;by_cases aD:a < k
        · have bV:(a:Int) < (k:Int):=oM;have G:=aO b3.out n;obtain ⟨aI,aJ,aK⟩:=dV ad lv k a aD;have b6:wr.cell? ⟨P,a*3,none⟩=_:=(World.ownsRow.cellAt G (a*3) oM).trans aI;have bu:wr.cell? ⟨P,a*3+1,none⟩=_:=(World.ownsRow.cellAt G (a*3+1) oM).trans aJ;have bv:wr.cell? ⟨P,a*3+2,none⟩=_:=(World.ownsRow.cellAt G (a*3+2) oM).trans aK;obtain ⟨A,Y⟩:=eqx (ad a);rw [Y] at b6;have ht:=b5.out a aD;rw [Y] at ht;obtain ⟨N,C⟩:=eqx (wr.alloc (.cells #[.pointer (some ⟨A,0,none⟩),(lv:Int),(a:Int)] 143));obtain ⟨bb,Z⟩:=eqx wr.heap.size;have V:Below wr.heap.size wr N:=(by rw [<-C];exact bR.alloc nL _);have E:Bk N bb 143 #[.pointer (some ⟨A,0,none⟩),(lv:Int),(a:Int)]:=(by rw [<-C,<-Z];exact Bk.new _ _ _);have R:=n.trans (V.mono bk);have H:=ht.vis (Vis.of_below R);have az:=aO F V;obtain ⟨m,W⟩:=eqx (b lv a);rw [W] at H;have i:shL (b lv) (a+1)=shL (b lv) a++shE m:=(by rw [<-W];rfl);have a1:=fE A m N H.at
          have O:=E.cell 0;have be:=E.lt;obtain ⟨j,a2⟩:=eqx ((bK m).length);rw [a2] at a1;obtain ⟨aW,b4,aZ,ae,aQ,aV,af,Hn,aU⟩:=hqq9 a1 H az R C Z i a2 E;clear a1 H ht F az n R V C Z i a2 G aI aJ aK E Y W;go_wp2_with fail;rw [aQ.out]
          try rw [aV.out]
          refine aW.out.mono ?_;rintro b9 br ⟨rfl,o⟩;have D:=ae.out.trans (o.mono ae.out.size);have I:=b4.out.vis (Vis.of_below o);have u:=aO aZ.out o;have X:=aU.out.below o be;have ba:=X.cell 0;by_cases a3:j=0
          · subst a3;have bd:m=none:=by
             cases m with
             | none=>rfl
             | some g=>
               have bM:=I.ok.1.pos;have bN:g.bits.length=0:=Hn.out;omega
            have i:=af.out;rw [bd] at i;simp only [shE,List.append_nil] at i;obtain ⟨z,r,y⟩:=hqq3 u D i;clear u D i I X ba o;go_wp2_with fail;go_roundw
            case rel=>exact ⟨a+1,by omega,by go_num,by rw [y.out];exact z.out,r.out⟩
            case measure=>first |(simp [intOf];omega)| simp [intOf]
          · obtain ⟨g,rfl⟩:∃g,m=some g:=by
             cases m with
             | none=>exact absurd Hn.out.symm a3
             | some g=>exact ⟨g,rfl⟩
            have i:=af.out;simp only [shE] at i;obtain ⟨s,a0⟩:∃x:Int,(g.ht:Int)=x:=⟨_,rfl⟩;obtain ⟨q,t⟩:∃x:Int,(g.lv:Int)=x:=⟨_,rfl⟩;obtain ⟨w,a4⟩:∃x:Int,2*q - 1=x:=⟨_,rfl⟩;have bI:decide ((j:Int) > 0)=true:=zBz oM;have bL:decide (0 < j)=true:=zBz oM;have aa:=yS _ A g br I;have a5:g.bits.length=j:=Hn.out;have aG:(shT g).val=.agg #[(j:Int),.int .i64 s,.int .i64 q,.int .i64 w]:=(by unfold shT Shp.val;rw [a5,a0,t,a4];rfl);have aF:(shT g).cells= [.int .i64 (j:Int),.int .i64 s,.int .i64 q,.int .i64 w]:=(by unfold shT Shp.cells;rw [a5,a0,t,a4];rfl);rw [aG] at aa;obtain ⟨M,B⟩:=eqx ((shA b lv++shL (b lv) a).length);have bO:M<=1024:=(by have:=uN (b lv) a;have:=b1.out;rw [<-B,zAi];omega);rw [B] at u;obtain ⟨z,r,y,ah,b2,aP⟩:=hqq6 u D i aa aF B;clear u D i I X o aa aG aF B a3 a5 a0 t a4;go_wp2_with fail;refine ah.out.mono ?_;rintro b9 J ⟨rfl,S⟩;have T:=r.out.trans (S.mono r.out.size);have aA:=aO z.out S;have Q:Below J.heap.size J (J.alloc (.cells #[(j:Int),.int .i64 s,.int .i64 q,.int .i64 w] 68)):=bR.alloc nL _;have U:=T.trans (Q.mono T.size);have aB:=aO aA Q;have a8:=U.size;obtain ⟨ag,aS⟩:=hqq2 aB U;clear S T U aA aB Q ah z r;go_wp2_with (at_builtin;refine bG _ rfl (.tmp 27) (.tmp 31) _ rfl c.heap.size 68 bp bt 4 32 underlying70 bg bl bm bn bo dC u3 M _ rfl ag.out _ _ 1 1 _ rfl (qB (Bk.new J 68 #[(j:Int),.int .i64 s,.int .i64 q,.int .i64 w]) rfl) (by simp [Value.oneCell']) (by unfold maxLen;omega) oM a8 ?_;intro bq bs aC aw bc);have au:=cL aS.out ag.out aw a8;have ay:(shA b lv++shL (b lv) (a+1)).length=M+1:=(by rw [y.out,<-zCl,zAi,aP.out];rfl);have av:bJ (shA b lv++shL (b lv) (a+1))=bJ (shA b lv++shL (b lv) a)++ [.int .i64 (j:Int),.int .i64 s,.int .i64 q,.int .i64 w]:=(by rw [y.out,<-zCl,uL];rw [<-b2.out];simp [bJ]);have K:=lhd au;have L:=lhd (show bs.ownsRow c.heap.size 68 4 bq (shA b lv++shL (b lv) (a+1)).length (bJ (shA b lv++shL (b lv) (a+1))) by rw [ay,av];exact aC);clear au aC aw bc ay av a8;go_roundw
            case rel=>exact ⟨a+1,by omega,by go_num,L.out,K.out⟩
            case measure=>first |(simp [intOf];omega)| simp [intOf]
        · have bj:a=k:=oM;subst bj;have a7:=F;rw [show shA b lv++shL (b lv) a=shA b (lv+1) by rw [<-aX.out];rfl] at a7;obtain ⟨L,K⟩:=hqq2 a7 n;clear F a7 n;go_wp2_with fail;go_roundw
          case rel=>exact ⟨lv+1,by omega,by go_num,L.out,K.out⟩
          case measure=>first |(simp [intOf];omega)| simp [intOf]
  · have t:lv=9:=oM;subst t;go_wp2_with fail;go_ret;exact ⟨_,rfl,a6,d⟩
end
section
open Go.RowKit Go.Shelf
def WaveS.low {k:World} {b B':Nat} {own:Nat->Nat} {f:Nat} {d:Nat->Value} {c:Nat->List Nat} {i j:Int} (a:WaveS k b own f d c i j) (hB:B'<=b):WaveS k B' own f d c i j:=by
 refine ⟨a.blk,⟨zAk hB a.base.1,a.base.2⟩,fun lv p=>?_,fun e g=>⟨zAk hB (a.bnd e g).1,(a.bnd e g).2⟩⟩;obtain ⟨l,m,n,o⟩:=a.rows lv p;exact ⟨l,dO m hB,n,o⟩
def WalkE.low {d:World} {a B':Nat} {own:Nat->Nat} {gk:Nat} {b c:List Nat} (i:WalkE d a own gk b c) (hB:B'<=a):WalkE d B' own gk b c:=by
 obtain ⟨g,f,j,k,⟨e,o,l⟩,m,n⟩:=i;exact ⟨g,f,j,k,⟨e,o,l.low hB⟩,m,n⟩
def aC0 (own:Nat->Nat) (b gk a:Nat):Nat:=if a=b then 2 else if a=gk then 2 else own a
def yO (f:Option Addr) (e m g:Nat) (b:List Nat) (a:World) (B:Rd a g 1 f e (b.map sv)) (hB:g<=a.heap.size) (H:e<=896) (x:∀K∈b,K < 257):
 Calls prog 147 #[.slice f e m] a fun n o=>∃gk own,n=.returned (.pointer (some ⟨gk,0,none⟩))/\a.heap.size<=gk/\WalkE o a.heap.size own gk b b/\Below a.heap.size a o:=by
 obtain ⟨r,q⟩:=hqq2 B x;clear B x;go_enter func147,ntmps147;go_wp2_with fail;refine (nC f e m g b _ r.out hB H q.out).mono ?_;rintro n w1 ⟨w,own,rfl,D,y⟩;obtain ⟨t,c⟩:=hqq2 D y;clear D y;go_wp2_with fail;refine (wJ f e m g b w1 (r.out.below (c.out.mono hB)) (by have:=c.out.size;omega) oM q.out).mono ?_;rintro n p ⟨i,rfl,O,C,j⟩;have E:=t.out.vis (Vis.of_below j);have z:=c.out.trans (j.mono c.out.size);obtain ⟨G,s,l,F⟩:=hqq4 E C z j.size;clear E C z j;go_wp2_with fail;go_ret;have J:=G.out.vis (w':=p.alloc (.cells #[w,i] 148)) ((Vis.refl _).alloc _);have A:=t.out.bnd;have Q:=s.out.lt;have N:=c.out.size;have P:=F.out;have I:=J.paint (own':=aC0 own i p.heap.size) (fun d M L=>by
  have:=(A d oM).2;unfold aC0;rw [zBw oM,zBw oM]) (fun d k=>by
  unfold aC0 at k;by_cases u:d=i;subst u;exact ⟨by omega,by simp;omega⟩
  · rw [zBw u] at k;by_cases v:d=p.heap.size;subst v;exact ⟨by omega,by simp⟩
    · rw [zBw v] at k;have:=A d k;exact ⟨this.1,by simp;omega⟩)
 refine ⟨_,_,rfl,l.out.size,⟨w,i,Bk.new _ _ _,?_,I,s.out.alloc _,?_⟩,l.out.alloc l.out.size _⟩
 · unfold aC0;rw [zBw oM,zBx rfl]
 · unfold aC0;rw [zBx rfl]
def vU (e:Option Addr) (c j f:Nat) (b:List UInt8) (a:World) (m:Rd a f 1 e c (b.map bv)) (hB:f<=a.heap.size) (A:c<=895):
 Calls prog 70 #[.slice e c j] a fun i p=>∃gk d,IsSuf (aY b) d/\i=.returned (.pointer (some ⟨gk,0,none⟩))/\a.heap.size<=gk/\(∃own,WalkE p a.heap.size own gk (aK (aY b) d) (aK (aY b) d))/\Below a.heap.size a p:=by
 have s:=lhd m;clear m;go_enter func70,ntmps70;go_wp2_with fail;refine (rK e c j f b _ s.out hB oM).mono ?_;rintro i w1 ⟨d,q,v,n,rfl,l,k⟩;obtain ⟨t,r,g⟩:=hqq3 n l.rd k;clear n l k;go_wp2_with fail;refine (yO q (c+1) v _ _ w1 r.out nL oM (gN (iV b))).mono ?_;rintro i B ⟨gk,own,rfl,z,o,w⟩;have x:=g.out.trans (w.mono g.out.size);have y:=g.out.size;have u:=lhd o;clear o;go_wp2_with fail;go_ret;exact ⟨gk,d,t.out,rfl,by omega,⟨own,u.out.low y⟩,x⟩
def LiveE.far0 {l m:World} {f:Nat} {own:Nat->Nat} {i:Nat} {k:List UInt8} {j:Nat} {g:Nat->Prop} (q:LiveE l f own i k j) (e:Keep g l m) (d:∀a,g a->own a=0):LiveE m f own i k j:=by
 obtain ⟨gk,p,v,n,x,w,⟨r,b,s,t⟩,u⟩:=q;refine ⟨gk,p,v,n,x,w,⟨r,⟨e.bk b.blk fun c=>?_,b.col,b.walk.far e fun a c=>?_,b.perm.keep e fun a c o=>?_⟩,s,t⟩,u⟩;have:=d _ c;have:=b.col;omega;have:=d a c;omega;have:=d a o;omega
def LiveE.low {f:World} {b B':Nat} {own:Nat->Nat} {c:Nat} {e:List UInt8} {d:Nat} (j:LiveE f b own c e d) (hB:B'<=b):LiveE f B' own c e d:=by
 obtain ⟨gk,i,o,g,q,p,⟨k,a,l,m⟩,n⟩:=j;exact ⟨gk,i,o,g,q,p,⟨k,⟨a.blk,a.col,a.walk.low hB,a.perm⟩,l,m⟩,n⟩
open Classical in
noncomputable def ownL (own:Nat->Nat) (d b:Nat) (e f g:Value) (c a:Nat):Nat:=if PF d b e f g a then 1 else if a=c then 3 else own a
def PermAt.low {o:World} {p g f:Nat} {l m n k:Value} {d c:Nat} {i:List Nat} {b:List (Nat×Nat)} {j:List Bool} {e:List Nat} (a:PermAt o p g f l m n k d c i b j e):PermAt o 0 g f l m n k d c i b j e:=
 ⟨a.blk,dO a.lrow (zAp _),dO a.orow (zAp _),a.ar,dO a.trow (zAp _),dO a.frow (zAp _),a.apart,a.lt,⟨zAp _,zAp _⟩⟩
def aAm (a:List (Nat×Nat)):(List.range a.length).map (fun b=>(aB a b,aE a b))=a:=(oL a).symm
def aCH {e:List Nat} {d c b:Nat} (f:∃a,e[a]?=some b/\a < c) (j:b % d=0):Smp (bY e d c) b:=by
 obtain ⟨a,g,i⟩:=f;exact ⟨(a,b),(aCJ _ _ _ _ _).2 ⟨i,by rw [zAb,g];rfl,j⟩,rfl⟩
def aCI {c:List UInt8} {e:List Nat} {a:Nat} (d:IsSuf (aY c) e) (s:1<=a):uC (Smp (bY e a (c.length+1))) a c.length:=fun n ⟨o,l,f⟩ r=>by
 obtain ⟨q,b⟩:=o;have j:=(aCJ _ _ _ _ _).1 l;have g:b=n:=f;subst g;refine ⟨b+a,aCH ?_ (by rw [Nat.add_mod_right];exact j.2.2),by omega,zAs _⟩;obtain ⟨m,k,i⟩:=d.row (p:=b+a) (by rw [bO];omega);refine ⟨m,by rw [zAa k,i],?_⟩;have:=d.len;rw [bO] at this;omega
def aBN {w wr:World} {y w2s x:Nat} {own:Nat->Nat} {j gk g i c o:Nat} {k l m:Value} {f:List UInt8} {d:List Nat} {r:List Bool} (M:f.length=o) (t:IsSuf (aY f) d) (Q:1<=c) (W:o<=895) (K:WalkE wr y own gk (aK (aY f) d) (aK (aY f) d)) (N:∀a,own a≠0->a < w2s) (V:j=w2s) (T:w2s < x) (G:Bk wr j 109 #[gk,g,(c:Int),.int .i64 0])
 (p:PermAt wr x g i k l m (.slice none 0 0) (o+1) (o+1) (List.range (bY d c (o+1)).length) (bY d c (o+1)) r []) (J:r.length=(bY d c (o+1)).length) (R:∀a∈r,a=true) (U:y<=w2s):∃S,LiveE wr y S j f c:=by
 subst M;have A:∀a,PF g i k l m a->x<=a/\a < wr.heap.size:=fun a b=>by refine ⟨p.foot b,?_⟩;rcases b with rfl | rfl | b | b | b;exact p.blk.lt;exact p.ar.lt;exact (p.lrow.lt _ b).2;exact (p.orow.lt _ b).2;exact (p.trow.lt _ b).2
 have s:∀a,PF g i k l m a->ownL own g i k l m j a=1:=fun a b=>by unfold ownL;rw [zBx b]
 have O:ownL own g i k l m j j=3:=by unfold ownL;rw [zBw (fun e=>by have:=(A _ e).1;omega),zBx rfl]
 have P:∀a,a < w2s->ownL own g i k l m j a=own a:=fun a b=>by unfold ownL;rw [zBw (fun e=>by have:=(A _ e).1;omega),zBw oM]
 have X:d.length=f.length+1:=by rw [t.len,bO]
 refine ⟨ownL own g i k l m j,gk,g,0,_,d,bY d c (f.length+1),⟨t,⟨G,O,K.paint (fun a _ E=>P a (N a oM)) (fun a u=>?_),⟨⟨i,k,l,m,.slice none 0 0,List.range (bY d c (f.length+1)).length,bY d c (f.length+1),r, [],?_,(aAm _).symm⟩,mH _ _ _,fun B v=>?_⟩⟩,List.Perm.refl _,pT oM⟩,?_,aCI t Q,by decide,by omega⟩;unfold ownL at u;by_cases C:PF g i k l m a;have:=A a C;exact ⟨by omega,this.2⟩;rw [zBw C] at u;by_cases D:a=j;subst D;exact ⟨by omega,G.lt⟩;rw [zBw D] at u;exact K.bnd a u
 · have I:∀q,q < r.length->r[q]?=some true:=fun q H=>by rw [zAa H];congr 1;exact R _ (zBj H)
   refine ⟨p.low,s _ (.inl rfl),s _ (.inr (.inl rfl)),fun a b=>s _ (.inr (.inr (.inl b))),fun a b=>s _ (.inr (.inr (.inr (.inl b)))),fun a b=>s _ (.inr (.inr (.inr (.inr b)))),fun a b=>(by cases b),List.nodup_range,J,fun q=>?_,List.nodup_nil,fun q=>?_,by have:=aCK d c (f.length+1);omega⟩
   · rw [zCi,<-J];constructor
     · intro e;exact (zAc.1 e).1
     exact I q
   · constructor
     · intro e;cases e
     · intro e;have z:=I q (zAc.1 e).1;rw [z] at e;cases e
 have z:=kP v;have E:=pT (rs:=d) (rate:=c) (n:=f.length+1) oM B v;have F:=t.lt (zAd E);rw [bO] at F;exact ⟨z.1,F⟩;obtain ⟨B,v,L⟩:=aBD (rate:=c) t;exact ⟨B,v,L⟩
def wU (c:Nat) (a1:Option Addr) (V av H:Nat) (W:List Sl) (x:List UInt8) (s:Nat) (bj:iC W=x) (N:x.length=s) (n:World) (aV:Rd n H 1 a1 V (W.map slV)) (aX:∀al∈W,Rd n H 1 al.A al.n (al.l.map bv)) (hB:H<=n.heap.size) (bN:V<=1000000) (aP:s<=895) (bw:1<=c) (bQ:c<=64):
 Calls prog 17 #[(c:Int),.slice a1 V av] n fun q b2=>∃g own,q=.returned (.tuple #[.pointer (some ⟨g,0,none⟩),.int .i64 0])/\n.heap.size<=g/\LiveE b2 n.heap.size own g x c/\Below n.heap.size n b2:=by
 have bl:=N;have aI:=aA1 a1 V av H W x s bj N n aV aX hB oM oM;have bS:¬((c:Int) < 1):=oM;have bT:¬((c:Int) > 64):=oM;clear aV aX;go_enter func17,ntmps17;go_wp2_with fail;refine aI.mono ?_;clear aI;rintro q w1 ⟨am,aw,rfl,aN,aa⟩;have bm:=aa;have az:=aN.rd;obtain ⟨a2,J⟩:=hqq2 az aa;clear aN aa bm az;go_wp2_with fail;refine (vU am s aw w1.heap.size x w1 a2.out nL aP).mono ?_;rintro q f ⟨gk,d,aY,rfl,bp,G,y⟩;have aC:=a2.out.below y;have aG:=J.out.trans (y.mono J.out.size);have D:=lhd aY;obtain ⟨bV,G⟩:=G;have aS:=G.bnd;have b6:=lhd aS;clear aS;obtain ⟨ba,b4,K⟩:=hqq3 (G.low J.out.size) (aC.mono y.size) aG;clear aY G aC aG y a2 J bp;go_wp2_with fail;obtain ⟨i,aQ⟩:=eqx (s+1);have bs:(s:Int)+1=(i:Int):=oM;rw [bs];have Q:=Bk.new f 109 #[gk,.pointer none,(c:Int),.int .i64 0];have ac:Below f.heap.size f (f.alloc (.cells #[gk,.pointer none,(c:Int),.int .i64 0] 109)):=bR.alloc nL _;obtain ⟨g,P⟩:=eqx f.heap.size;rw [P] at Q;rw [P];have L:=lhd P;generalize f.alloc (.cells #[gk,.pointer none,(c:Int),.int .i64 0] 109)=w3 at Q ac⊢;obtain ⟨M,a4,I⟩:=hqq3 Q ac aQ;clear Q ac aQ P;refine (zB i w3 oM).mono ?_;rintro q a0 ⟨t,a7,rfl,aT,ab⟩;have R:=M.out.below ab M.out.lt;have bd:a0.cell? ⟨g,1,none⟩=some (.pointer none):=(R.cell 1).trans rfl;have be:=R.frozen 1;obtain ⟨ao,b8,b5⟩:=hqq3 R aT ab;clear R aT ab;go_wp2_with fail;have aK:=(Keep.refl (fun k=>k=g) a0).setCell (p:=⟨g,1,none⟩) (.inl rfl) (.pointer (some t));have ah:=ao.out.set 1 (.pointer (some t));have ai:=b8.out.keep aK (fun k x bc e o=>by
  subst e;have:=(aJ o ao.out).1;subst this;decide)
 have E:Below f.heap.size f (a0.setCell ⟨g,1,none⟩ (.pointer (some t))):=(a4.out.trans (b5.out.mono a4.out.size)).setCell (by rw [L.out];exact zAs _) _;have bL:=L.out;have b3:=lhd (show f.heap.size < w3.heap.size by have:=M.out.lt;omega);have bI:f.heap.size<=w3.heap.size:=a4.out.size;clear bd be;generalize a0.setCell ⟨g,1,none⟩ (.pointer (some t))=w5 at ah ai E⊢;have aj:=kH am s aw f.heap.size x w5 (b4.out.below E) E.size oM;rw [I.out] at aj;obtain ⟨a5,aq,a3⟩:=hqq3 ah ai E;clear aK ah ai E;refine aj.mono ?_;clear aj;rintro q bD ⟨bz,an,ax,aZ,rfl,aO,O⟩;obtain rfl:d=bz:=D.out.unique aZ;have aM:d.length=i:=by rw [D.out.len,bO,N,I.out]
 have a:LvInv f w3.heap.size w5.heap.size g gk t a7 i c an ax d 0 (.slice none 0 0) (.slice none 0 0) (.slice none 0 0) [] bD:=
  ⟨aq.out.below O,rfl,fun bb _ o=>(by cases o),aO.own,a5.out.below O a5.out.lt,a3.out.trans (O.mono a3.out.size)⟩
 obtain ⟨ap,j⟩:=hqq2 aM a;clear a aO O aZ aM a5 aq a3;go_wp2_with fail;go_loopw [8,9,36] (fun _ _ ak wr=>∃b:Nat,b<=i/\ak=.int .i64 b/\∃X Y Z z,LvInv f w3.heap.size w5.heap.size g gk t a7 i c an ax d b X Y Z z wr/\∀k∈z,k=true) (fun _ _ ak _=>i -(intOf ak).toNat)
 case atStart=>exact ⟨0,by omega,rfl,_,_,_,_,j.out,fun k o=>by cases o⟩
 case round=>
  clear j;obtain ⟨b,bM,rfl,X,Y,Z,z,a,b0⟩:=hrel;have a6:=lhd b0;clear b0;by_cases S:b < i
  · have ag:b < d.length:=(by rw [ap.out];exact S);obtain ⟨m,r⟩:∃m,d[b]?=some m:=⟨_,zAa ag⟩;have bu:m < i:=(by have:=D.out.lt (zAd r);rw [bO,N,I.out] at this;exact this);have ad:d.getD b 0=m:=(by rw [zAb,r];rfl);have aW:=Rd.of_own a.row;obtain ⟨k,bU,bW,bh,aH,U,bn⟩:=aW.get S;rw [zAf,r] at U;injection U with U;subst U bh;unfold sv at bn;have bG:=a.blk.cell 1;have br:((m:Int)).tmod (c:Int)=((m % c:Nat):Int):=(by rw [Int.tmod_eq_emod_of_nonneg oM];simp);have bq:((m:Int))%(c:Int)=((m % c:Nat):Int):=(by simp);obtain ⟨b1,T⟩:=eqx (m % c);rw [T] at br bq;have u:=aAi d c b;rw [ad,T] at u;obtain ⟨bE,b7,bF,j,b9⟩:=hqq5 ad r T a aH;clear ad r T a aW ag aH;by_cases aU:b1=0
    · subst aU;rw [zBx rfl] at u;have B:=lhd u;clear u;go_wp2_with fail;have aD:=zD w3.heap.size t a7 X Y Z i i (List.range (bY d c b).length) (bY d c b) z b m wr j.out.perm (xO (mH d c b)) (fun v ae=>(kP (xP (by simpa using ae))).1) (fun v ae q=>by
       have ay:=kP (xP (C:=bY d c b) (by simpa using ae));have bf:aE (bY d c b) v=d.getD (aB (bY d c b) v) 0:=ay.2;have bH:aB (bY d c b) v < b:=ay.1;have ag:b < d.length:=(by rw [ap.out];exact S);have bg:d[aB (bY d c b) v]?=d[b]?:=(by rw [b7.out,<-q,bf,zAb,zAa (show aB (bY d c b) v < d.length by omega)];rfl);have:=(List.getElem?_inj (show aB (bY d c b) v < d.length by omega) D.out.nodup).1 bg
       omega) S bu j.out.len (by
        have:(bY d c b).length<=b:=(by unfold bY;rw [zBc];exact zAk (zCs _ _) (by simp));omega) (by
        have:(bY d c b).length<=b:=(by unfold bY;rw [zBc];exact zAk (zCs _ _) (by simp));simp;omega) (by have:=j.out.perm.blk.lt;have:=j.out.perm.lo.1;omega)
      refine aD.mono ?_;clear aD;rintro q bX ⟨rfl,af,bA,bB,bC,bt,bo,bJ,bK⟩;go_wp2_with fail;go_roundw
      case rel=>
       have a:=j.out;refine ⟨b+1,by omega,by go_num,bA,bB,bC,z++ [true],⟨?_,?_,?_,?_,?_,?_⟩,fun k o=>by rcases zCm.1 o with a8 | a8;exact a6.out k a8;exact List.mem_singleton.1 a8⟩;rw [B.out];simpa [List.range_succ] using bt
       · rw [B.out];simp [a.len]
       exact a.apt.next2 bo (fun bb a9=>by injection a9 with a9;subst a9;exact b9.out);refine aA a.row fun au bc aF F=>af.bk F (fun e=>?_);rcases e with e | e | e | e | e;subst e;exact Bk.ne F a.perm.blk dC rfl;subst e;exact Bk.ne F a.perm.ar dC rfl;exact aR a.perm.lrow F dC e.symm;have y:k=au:=(by simpa [Value.ownBlock] using aF);subst y;exact a.apt _ rfl e;exact aR a.perm.trow F dC e.symm;refine af.bk a.blk (fun e=>?_);have:=a.perm.foot e;have:=M.out.lt;omega;exact a.below.trans (af.to_below a.below.size (fun au aF e=>by have:=a.perm.foot e;omega))
      case measure=>simp [intOf];omega
    · rw [zBw aU] at u;have B:=lhd u;have bP:((b1:Int)==0)=false:=(by simp;omega);clear u;go_wp2_with fail;go_roundw
      case rel=>have a:=j.out;exact ⟨b+1,by omega,by go_num,X,Y,Z,z,⟨by rw [B.out];exact a.perm,by rw [B.out];exact a.len,a.apt,a.row,a.blk,a.below⟩,a6.out⟩
      case measure=>simp [intOf];omega
  · obtain rfl:i=b:=oM;have j:=lhd a;clear a;go_wp2_with fail;go_ret2;have a:=j.out;have r:=a.perm;have aL:=a.len;rw [<-I.out] at r aL;obtain ⟨bx,bi⟩:=aBN (w:=n) (w2s:=f.heap.size) bl D.out bw aP (ba.out.vis (Vis.of_below a.below)) (fun k o=>(b6.out k o).2) L.out.symm b3.out a.blk r aL a6.out K.out.size;exact ⟨g,bx,rfl,by have:=K.out.size;have:=L.out;omega,bi,K.out.trans (a.below.mono K.out.size)⟩
def aBC {b:List Nat} {c a d:Nat} (e:b[c]?=some d):(b.set c a).Perm (a::aC b c):=by
 have f:=pS (s:=a) e;have g:=(dG e).symm.cons a;have i:(d::b.set c a).Perm (d::a::aC b c):=(f.trans g).trans (List.Perm.swap d a _);exact i.cons_inv
def aB0 {c:List Nat} {b a f k l:Nat} (g:c[a]?=some k) (i:c[b]?=some l) (m:b≠a):(aC (c.set a f) b)[aQ a b]?=some f:=by
 have j:=(zAc.1 i).1;have e:=(zAc.1 g).1;rw [cY _ (by rw [zAt];exact j)];unfold aQ;by_cases d:a > b
 · rw [zBx d,zBw oM,show a - 1+1=a by omega,List.getElem?_set_self e]
 · rw [zBw d,zBx oM,List.getElem?_set_self e]
def aAt {c:List Nat} {d row e:Nat} {o:List (Nat×Nat)} (j:c.Nodup) (i:c[d]?=some e) (ht:row < c.length) (p:∀b∈o,c[b.1]?=some b.2):∀b∈o.map (fun b=>(mvR d row b.1,b.2)),(aI (aC c d) row e)[b.1]?=some b.2:=fun b q=>by
 obtain ⟨a,r,rfl⟩:=zAy.1 q;have n:=p a r;have k:ro c a.2=a.1:=eB j n;have l:=zAd n;have m:=eB j i;obtain ⟨u,v,w⟩:=pA j (t:=row) i ht;show (aI (aC c d) row e)[mvR d row a.1]?=some a.2;have s:mvR d row a.1=ro (aI (aC c d) row e) a.2:=by
  unfold mvR;by_cases g:a.1=d
  · have f:a.2=e:=dN l (zAd i) (by rw [k,g,m]);rw [zBx g,f,v]
  · have f:a.2≠e:=fun f=>g (by rw [<-k,f,m]);rw [zBw g,w _ l f,k]
 rw [s];exact bI (u.mem_iff.2 l)
def aDI (a7:World) (y:Nat) (own:Nat->Nat) (v:Nat) (E:List UInt8) (ac d:Nat) (q:UInt8) (dZ:LiveE a7 y own v E ac) (d5:TabW a7) (cW:0 < y) (e5:E.length<=895) (bR:d < E.length) (en:1<=ac) (eo:ac<=64):
 Calls prog 26 #[v,(d:Int),.int .u8 (q.toNat:Int)] a7 (wW a7 y own v (E.set d q) ac):=by
 obtain ⟨gk,x,ea,bb,L,H,e,cp,cf,_⟩:=dZ;obtain ⟨m,bs⟩:∃m,E.length=m+1:=⟨E.length - 1,by omega⟩;have d3:=bs;rw [bs] at e cf e5 bR;have bR:d<=m:=oM;obtain ⟨bq,d6,e6⟩:=e.len bs;have aF:=jO E;rw [bs] at aF;obtain ⟨f,co⟩:=eqx (q.toNat+1);have bU:f < 257:=by have:=q.toNat_lt;omega
 have e7:0 < f:=oM;obtain ⟨a0,aw⟩:=eqx (aY E);have c8:aY (E.set d q)=a0.set d f:=by rw [aCx E q oM,aw,co]
 have ca:=aF.len;have c9:∀j∈a0,j < 257:=by rw [<-aw];exact iV E
 rw [aw] at aF bq ca;have aP:=e.suf;rw [aw] at aP;have aX:∀l,l<=m+1->l∈L:=fun l em=>aP.mem oM;have ci:L.Nodup:=aP.nodup;have du:L.Perm (List.range (m+1+1)):=by have:=aP.perm;rwa [ca] at this
 have bv:ro L d≠ro L (d+1):=fun b=>by have:=dN (aX d oM) (aX (d+1) oM) b;omega
 have db:=kB aP aF (show 0 < d+1 by omega) (show d+1<=m+1 by omega);rw [zBb] at db;obtain ⟨be,au⟩:=db;have bh:=fun p row cS=>aDU (s:=f) (n0:=p) (row:=row) (a:=cS) aP aF bR e7;have br:=fun row=>aBO (S:=a0) (s:=f) (row:=row) du aF bR;obtain ⟨i,bu⟩:=eqx (ro L d);obtain ⟨n,bS⟩:=eqx (ro L (d+1));have bg:L[i]?=some d:=by rw [<-bu];exact bI (aX d oM)
 have dw:L[n]?=some (d+1):=by rw [<-bS];exact bI (aX (d+1) oM)
 have el:i < m+2:=by have:=(zAc.1 bg).1;omega
 have da:n < m+2:=by have:=(zAc.1 dw).1;omega
 rw [bu] at bv be;rw [bS] at bv be au;rw [bu,bS] at bh br;obtain ⟨o,aE⟩:=eqx (aK a0 L);rw [aE] at bq be au bh br;obtain ⟨a6,cs⟩:=eqx (bC a0 d);rw [cs] at bh br;obtain ⟨ab,cd⟩:=eqx (a0.getD d 0);rw [cd] at be au bh;have bp:o[i]?=some a6:=by rw [<-aE,<-cs];unfold aK;rw [zAf,bg];rfl
 have bc:∀j∈o,j < 257:=by rw [<-aE];exact gN c9
 have ct:a6 < 257:=bc a6 (zAd bp);have e3:ab < 257:=bc ab (zAd au);have bf:=e.live;rw [aw,aE] at bf;have bi:=e.tal;rw [aw,aE] at bi;have cq:∀j∈o.set n f,j < 257:=fun j bV=>by rcases List.mem_or_eq_of_mem_set bV with J | J;exact bc j J;omega
 have de:∀j∈aC (o.set n f) i,j < 257:=lE cq;have cr:(o.set n f)[i]?=some a6:=by rw [List.getElem?_set_ne (fun b=>bv b.symm),bp]
 have ce:=bF (o.set n f) (k:=i) (by rw [zAt];omega);rw [zAt] at ce;have dg:=bF o (k:=n) oM;have df:(aC (o.set n f) i)[aQ n i]?=some f:=aB0 au bp bv;have dz:bb.Perm (ab::aC o n):=bi.trans (dG au).symm;obtain ⟨p,ch⟩:=eqx (mO (aC (o.set n f) i) (aC o n) f (aQ n i));obtain ⟨aV,aW⟩:∃aV:Int,(if d=0 then -1 else ((ro L (d - 1):Nat):Int))=aV:=⟨_,rfl⟩;obtain ⟨N,bQ⟩:∃N:Int,uW aV (i:Int)=N:=⟨_,rfl⟩;have cb:N=if d=0 then -1 else ((aQ (ro L (d - 1)) i:Nat):Int):=by
  rw [<-bQ,<-aW];by_cases K:d=0
  · rw [zBx K,zBx K,xS]
  · rw [zBw K,zBw K,iK]
 obtain ⟨row,bT⟩:∃row,(if a6=f/\N<=(p:Int) then p+1 else p)=row:=⟨_,rfl⟩;have dq:p+(if ab < f then 1 else 0)=o.countP (fun j=>decide (j < f))+((aC (o.set n f) i).take (aQ n i)).count f:=by rw [<-ch];unfold mO;rw [<-(dG au).countP_eq,zBn];simp only [zCa];omega
 obtain ⟨ep,cj⟩:=bh p row N cb dq bT.symm;have bO:=br row;obtain ⟨e9,dC,dD⟩:=pA ci (t:=row) bg oM;have cm:=aAt (row:=row) ci bg oM e.right;have cn:ro (aI (aC L i) row d) d=row:=dC;have cc:inI N (row:Int)=aOf (aI (aC L i) row d) d:=by
  rw [cb];unfold aOf;by_cases K:d=0
  · rw [zBx K,zBx K,aBj]
  · rw [zBw K,zBw K,pE];rw [dD (d - 1) (aX _ oM) oM]
 obtain ⟨aU,d4⟩:=eqx (aI (aC L i) row d);rw [d4] at cj bO cm cn cc;have dA:(aC o n++ [f]).Perm (aK (a0.set d f) aU):=by rw [bO];refine (List.perm_append_comm).trans ?_;refine (aBC au).symm.trans ?_;exact (dG cr).symm.trans (dQ _ _ _).symm
 have dv:H≠ []:=fun b=>by obtain ⟨j,bV,_⟩:=cp;rw [b] at bV;cases bV
 have dc:=bf.bnd;have d8:∀aZ,LiveM aZ y own v gk x ac 0 (m+1+1) (m+1+1) o bb H->Calls prog 97 #[v,(d:Int),(i:Int)] aZ fun b bW=>b=.returned (.int .i64 aV)/\VB y aZ bW:=fun aZ e0=>by by_cases K:d=0;rw [zBx K] at aW;subst K aW;refine (kJ i aZ v).mono ?_;rintro b bW ⟨rfl,rfl⟩;exact ⟨rfl,VisK.refl _ _⟩;rw [zBw K] at aW;obtain ⟨b1,b2⟩:=kB aP aF (show 0 < d by omega) oM;rw [aE,bu] at b1 b2;have:=mA d i (a0.getD (d - 1) 0) e0 oM b2 bc oM oM;rw [iM bi,b1,aW] at this;exact this
 have e1:-1000000<=aV/\aV<=1000000:=by rw [<-aW];by_cases K:d=0;rw [zBx K];omega;rw [zBw K];have eq:ro L (d - 1) < L.length:=List.idxOf_lt_length_iff.2 (aX (d - 1) oM);omega
 have bd:-1000000<=N/\N<=1000000:=by rw [<-bQ];unfold uW;split <;> omega
 have dr:p<=row/\row<=p+1:=by rw [<-bT];split <;> omega
 have cg:=eQ y v o (m+1) a7 (bf.g bi).lvw bq oM;have dX:IntKind.i64.wrap (((m+1:Nat):Int) - 1)=(m:Int):=by rw [IntKind.wrap_i64];omega
 have dy:ab=f->aY (E.set d q)=aY E:=fun b=>by
  rw [c8,aw];apply List.ext_getElem?;intro e8;rw [zBm];by_cases K:d=e8;subst K;rw [zBx rfl,zBx oM,<-b,<-cd,zAb,zAa oM];rfl
  · rw [zBw K]
 obtain ⟨cO,cR,aT,aS,cN,cP,cF,cM,cQ⟩:=hqq9 dy e cp cf e.right e.suf bf.blk bf bi;obtain ⟨ar,cD,b3,O,dI,bY,eg,bZ,dO⟩:=hqq9 d3 aw c8 bq d6 bc bp au be;obtain ⟨dR,dT,bD,aR,bE,dP,dU,b0,dV⟩:=hqq9 bg cq de ce dg df cr bO dz;obtain ⟨ba,b8,aa,b7,b5,b9,bL,c5,bM⟩:=hqq9 dA cm dv cj cc cn ch dr bT;obtain ⟨cE,b4,cC,ei,dH,dS,dJ⟩:=hqq7 d8 c9 aE dc d5 co bQ;have e2:(d:Int)<=(m:Int):=oM;obtain ⟨ej,c7⟩:=eqx (m+1);rw [c7] at cg dX;have eh:=lhd c7;unfold wW;clear e bf bi bs d3 aw c8 bq d6 bc bp bg cq cr bO dz cm cj cc d8 c9 cf cp aP aX aF du ci d4 cs e6 ca bu aW aE dc d5 be au bS dw cd bv c7 dy bh br de ce dg df dA dv cn ch dr bT co bQ cb dq e9 dC dD;go_enter func26,ntmps26;go_wp2_with fail;refine cg.mono ?_;clear cg;rintro b w1 ⟨rfl,rfl⟩;go_wp2_with fail;refine (wZ v _ _ _ ea (d:Int) (m:Int) a7 cF.out oM e2).mono ?_;rintro b w1 ⟨rfl,rfl⟩;obtain ⟨dm,dh⟩:=cM.out.setMv 0;obtain ⟨bG,c0⟩:=hqq2 dm dh;clear dm dh cF cM;generalize a7.setCell ⟨v,3,none⟩ (.int .i64 0)=w1 at bG c0⊢;have dx:Calls prog 78 #[v,(d:Int)] w1 fun b bW=>b=.returned (.int .i64 (i:Int))/\VB y w1 bW:=by have e4:=bG.out.g cQ.out;exact gE y v gk x ac E L H i d w1 (by rw [ar.out,cD.out];rw [cC.out];exact e4) cN.out cP.out (by rw [ar.out];omega) dR.out
 go_wp2_with fail;refine dx.mono ?_;clear dx;rintro b dE ⟨rfl,cv⟩;have cL:=lhd (bG.out.vis cv.1);have cG:=lhd (c0.out.trans (LF.of_vb (own:=own) cv));clear cv bG c0;go_wp2_with fail;refine (oF q dE).mono ?_;rintro b dF ⟨rfl,d9⟩;rw [dS.out];have cw:VB y dE dF:=VisK.of_below d9;have bH:=lhd (cL.out.vis cw.1);have c1:=lhd (cG.out.trans (LF.of_vb (own:=own) cw));clear cw d9 cL cG;have I:=bH.out.blk.cell 0;have dt:=rC y gk o n i ab dF (bH.out.walk.at cQ.out) bZ.out dO.out bY.out (by rw [O.out];omega) (dH.out.keepLF c1.out cW) cW;go_wp2_with fail;refine dt.mono ?_;clear dt;rintro b ec ⟨rfl,cx⟩;have c3:=lhd (bH.out.vis cx.1);have cH:=lhd (c1.out.trans (LF.of_vb (own:=own) cx));clear cx I bH c1;have d7:=cE.out ec c3.out;clear cE;go_wp2_with fail;refine d7.mono ?_;clear d7;rintro b aZ ⟨rfl,cy⟩;have bJ:=lhd (c3.out.vis cy.1);have cI:=lhd (cH.out.trans (LF.of_vb (own:=own) cy));clear cy c3 cH;obtain ⟨dY,ek,dl,dB⟩:=bJ.out.gw;have I:=bJ.out.blk.cell 0;have Z:=dl.cell 0;have dk:=dK y dY o n ab aZ dB (by rw [O.out];exact da) (by have av:=bZ.out;rw [zAa (by rw [O.out];exact da)] at av;injection av) bY.out (by rw [O.out];omega);clear dl dB;go_wp2_with fail;refine dk.mono ?_;clear dk;rintro b ed ⟨rfl,cz⟩;have bj:=lhd (bJ.out.vis cz.1);have c2:=lhd (cI.out.trans (LF.of_vb (own:=own) cz));clear cz I Z bJ cI;by_cases cT:ab=f
 · have dW:((ab:Int)==(f:Int))=true:=(by rw [cT];simp);go_wp2_with fail;go_ret;have z:(E.set d q).length=E.length:=zAt ..;refine ⟨rfl,own,⟨gk,x,0,bb,L,H,?_,aT.out,by rw [z,ar.out];exact aS.out,by decide,by omega⟩,c2.out⟩;rw [cO.out cT,z,ar.out];refine ⟨cP.out,?_,cR.out.tal,cN.out⟩;have:=bj.out;rw [cD.out,cC.out];exact this
 have dW:((ab:Int)==(f:Int))=false:=by rw [zCb];omega
 clear cR cO;have I:=bj.out.blk.cell 0;have dd:=gT y gk own o bb n ab f ed bj.out.walk bZ.out bU bY.out (by rw [O.out];omega);go_wp2_with fail;refine dd.mono ?_;clear dd;rintro b ee ⟨rfl,eb,cX,d0⟩;obtain ⟨dn,di⟩:=bj.out.walkOp cX d0;obtain ⟨bK,cJ⟩:=hqq2 dn (c2.out.trans di);clear dn di cX d0 I bj c2;have I:=bK.out.blk.cell 0;have hcut:=eO y gk eb (o.set n f) bb i a6 ee bK.out.walk dU.out dT.out (by rw [zAt,O.out];omega);go_wp2_with fail;refine hcut.mono ?_;clear hcut;rintro b a8 ⟨rfl,bw,cY,d1⟩;obtain ⟨al,ak⟩:=bK.out.walkOp cY d1;obtain ⟨G,a1⟩:=hqq2 al (cJ.out.trans ak);clear al ak cY d1 I bK cJ;have I:=G.out.blk.cell 0;have aj:=iR y gk bw _ bb (aC o n) ab a8 G.out.walk dV.out e3 (by rw [dI.out];omega);go_wp2_with fail;refine aj.mono ?_;clear aj;rintro b ef ⟨rfl,cZ,d2⟩;obtain ⟨dp,dj⟩:=G.out.walkOp cZ d2;obtain ⟨c4,cK⟩:=hqq2 dp (a1.out.trans dj);clear dp dj cZ d2 I G a1;have cu:=pN (aQ n i) f c4.out dP.out bD.out (by have:=aR.out;have:=O.out;omega) (by have:=bE.out;have:=O.out;omega);rw [bL.out] at cu;have ck:=iS (n:Int) (i:Int) ef oM;rw [iK] at ck;go_wp2_with fail;refine ck.mono ?_;clear ck;rintro b M ⟨rfl,rfl⟩;go_wp2_with fail;refine cu.mono ?_;clear cu;rintro b bX ⟨rfl,cA⟩;have a9:=lhd (c4.out.vis cA.1);have b6:=lhd (cK.out.trans (LF.of_vb (own:=bw) cA));clear cA c4 cK;have cl:=iS aV (i:Int) bX e1;rw [dJ.out] at cl;go_wp2_with fail;refine cl.mono ?_;clear cl;rintro b M ⟨rfl,rfl⟩;by_cases ay:a6=f/\N<=(p:Int)
 · have av:=bM.out;rw [zBx ay] at av;clear bM;have I:=a9.out.blk.cell 0;have aM:=dL y gk bw (aC (o.set n f) i) (aC o n) row a6 bX a9.out.walk ct (by have:=aR.out;have:=O.out;omega) bD.out (by have:=aR.out;have:=O.out;omega);have bk:((a6:Int)==(f:Int))=true:=(by rw [ay.1];simp);have c6:decide ((p:Int)>=N)=true:=zBz ay.2;have cV:wrap64 ((p:Int)+1)=(row:Int):=(by rw [<-av,cU oM oM];omega);clear av ay;go_wp2_with fail;rw [cV];clear cV bk c6 bL c5;refine aM.mono ?_;clear aM;rintro b bz ⟨rfl,X,az,aB⟩;obtain ⟨aJ,aG⟩:=a9.out.walkOp az aB;obtain ⟨a3,ax⟩:=hqq2 aJ (b6.out.trans aG);clear aJ aG az aB I a9 b6;have I:=a3.out.blk.cell 0;have aj:=eF y gk X _ (aC o n) f bz a3.out.walk bU (by have:=bE.out;have:=O.out;omega);go_wp2_with fail;refine aj.mono ?_;clear aj;rintro b M ⟨rfl,aA,aD⟩;obtain ⟨aL,aH⟩:=a3.out.walkOp aA aD;obtain ⟨r,a2⟩:=hqq2 aL (ax.out.trans aH);clear aL aH aA aD I a3 ax;have bx:M.cell? ⟨v,3,none⟩=some (.int .i64 0):=(r.out.blk.cell 3).trans rfl;have bn:=r.out.blk.frozen 3;have bt:=r.out.blk.lt;have Z:M.cell? ⟨v,1,none⟩=some (.pointer (some x)):=(r.out.blk.cell 1).trans rfl;have aN:row < m+1+1:=oM;have aO:i < m+1+1:=oM;have a5:m+1+1<=100000:=oM;by_cases a4:row=i
   · have bl:((row:Int)==(i:Int))=true:=(by rw [a4];simp);have bm:((row:Int)!=(i:Int))=false:=(by rw [a4];simp);clear a4;have U:=bP (fun q=>X q=1) x (m+1+1) (m+1+1) i row H M r.out.perm aO aN a5 a5 aa.out;go_wp2_with fail;refine U.mono ?_;clear U;rintro b F ⟨rfl,⟨D,T,P⟩,Q⟩;obtain ⟨C,A⟩:=r.out.permOp (P.mono fun q _ ai=>.inl ai) Q;obtain ⟨ao,R⟩:=eqx (cB X M.heap.size F.heap.size 1);rw [R] at C A;obtain ⟨af,ae,u⟩:=hqq3 C (a2.out.trans A) T;clear C A P Q T R Z r a2;have B:=gF N (row:Int) F bd;rw [b5.out] at B;go_wp2_with fail;refine B.mono ?_;clear B;rintro b bA ⟨rfl,rfl⟩;have W:∀l,Smp D l↔Smp H l:=fun l=>by constructor;rintro ⟨j,e,rfl⟩;obtain ⟨aq,am,b⟩:=zAy.1 (u.out.subset e);exact ⟨aq,am,by rw [<-b]⟩;rintro ⟨j,e,rfl⟩;exact ⟨_,u.out.symm.subset (zAy.2 ⟨j,e,rfl⟩),rfl⟩
     have w:=dM a7 F y own ao v gk x ac 0 (a0.set d f) (aC o n++ [f]) (m+1) d aU D D ⟨b7.out,by rw [b0.out];exact af.out,ba.out,fun j e=>b8.out j (u.out.subset e),fun l=>Iff.rfl,fun bo b=>by
        subst b;have:=u.out.length_eq;simp at this;exact aa.out (zBk this.symm),ae.out,⟨by decide,by omega⟩⟩ oM oM (fun j e=>by
        rcases List.mem_or_eq_of_mem_set e with J | J;exact b4.out j J
        · omega)
     rw [b9.out] at w;unfold fH at w;have ag:=lhd W;clear W;go_wp2_with fail;refine w.mono ?_;clear w;rintro b bB ⟨rfl,ap,an,ah,Y,c⟩;have ad:=lhd c;clear c;go_wp2_with fail;go_ret;have c:=ad.out;have z:(E.set d q).length=m+1:=(by rw [zAt,ar.out]);have V:Smp Y=Smp H:=funext fun l=>propext ((c.plc l).trans (ag.out l));refine ⟨rfl,ap,⟨gk,x,an,aC o n++ [f],ah,Y,?_,by rw [V];exact aT.out,by rw [V,z];exact aS.out,c.mvb.1,by rw [z];have:=c.mvb.2;omega⟩,c.lf⟩;rw [b3.out,z];exact ⟨c.near.sorted,c.live,c.tal,c.right⟩
   · have bl:((row:Int)==(i:Int))=false:=(by rw [zCb];omega);have bm:((row:Int)!=(i:Int))=true:=(by rw [bne_iff_ne];omega);clear a4;go_wp2_with fail;obtain ⟨al,ak⟩:=r.out.setMv 1;obtain ⟨G,a1⟩:=hqq2 al (a2.out.trans ak);clear al ak bx bn bt Z r a2;generalize M.setCell ⟨v,3,none⟩ (.int .i64 1)=a8 at G a1⊢;have Z:a8.cell? ⟨v,1,none⟩=some (.pointer (some x)):=(G.out.blk.cell 1).trans rfl;have U:=bP (fun q=>X q=1) x (m+1+1) (m+1+1) i row H a8 G.out.perm aO aN a5 a5 aa.out;refine U.mono ?_;clear U;rintro b F ⟨rfl,⟨D,T,P⟩,Q⟩;obtain ⟨C,A⟩:=G.out.permOp (P.mono fun q _ ai=>.inl ai) Q;obtain ⟨ao,R⟩:=eqx (cB X a8.heap.size F.heap.size 1);rw [R] at C A;obtain ⟨af,ae,u⟩:=hqq3 C (a1.out.trans A) T;clear C A P Q T R Z G a1;have B:=gF N (row:Int) F bd;rw [b5.out] at B;go_wp2_with fail;refine B.mono ?_;clear B;rintro b bA ⟨rfl,rfl⟩;have W:∀l,Smp D l↔Smp H l:=fun l=>by constructor;rintro ⟨j,e,rfl⟩;obtain ⟨aq,am,b⟩:=zAy.1 (u.out.subset e);exact ⟨aq,am,by rw [<-b]⟩;rintro ⟨j,e,rfl⟩;exact ⟨_,u.out.symm.subset (zAy.2 ⟨j,e,rfl⟩),rfl⟩
     have w:=dM a7 F y own ao v gk x ac 1 (a0.set d f) (aC o n++ [f]) (m+1) d aU D D ⟨b7.out,by rw [b0.out];exact af.out,ba.out,fun j e=>b8.out j (u.out.subset e),fun l=>Iff.rfl,fun bo b=>by
        subst b;have:=u.out.length_eq;simp at this;exact aa.out (zBk this.symm),ae.out,⟨by decide,by omega⟩⟩ oM oM (fun j e=>by
        rcases List.mem_or_eq_of_mem_set e with J | J;exact b4.out j J
        · omega)
     rw [b9.out] at w;unfold fH at w;have ag:=lhd W;clear W;go_wp2_with fail;refine w.mono ?_;clear w;rintro b bB ⟨rfl,ap,an,ah,Y,c⟩;have ad:=lhd c;clear c;go_wp2_with fail;go_ret;have c:=ad.out;have z:(E.set d q).length=m+1:=(by rw [zAt,ar.out]);have V:Smp Y=Smp H:=funext fun l=>propext ((c.plc l).trans (ag.out l));refine ⟨rfl,ap,⟨gk,x,an,aC o n++ [f],ah,Y,?_,by rw [V];exact aT.out,by rw [V,z];exact aS.out,c.mvb.1,by rw [z];have:=c.mvb.2;omega⟩,c.lf⟩;rw [b3.out,z];exact ⟨c.near.sorted,c.live,c.tal,c.right⟩
 · have av:=bM.out;rw [zBw ay] at av;subst av;clear bM;by_cases bN:a6=f
   · have ds:¬N<=(p:Int):=fun b=>ay ⟨bN,b⟩;have I:=a9.out.blk.cell 0;have aM:=dL y gk bw (aC (o.set n f) i) (aC o n) p a6 bX a9.out.walk ct (by have:=aR.out;have:=O.out;omega) bD.out (by have:=aR.out;have:=O.out;omega);have bk:((a6:Int)==(f:Int))=true:=(by rw [bN];simp);have c6:decide ((p:Int)>=N)=false:=zBy ds;clear bN ay ds;go_wp2_with fail;clear bk c6 bL c5;refine aM.mono ?_;clear aM;rintro b bz ⟨rfl,X,az,aB⟩;obtain ⟨aJ,aG⟩:=a9.out.walkOp az aB;obtain ⟨a3,ax⟩:=hqq2 aJ (b6.out.trans aG);clear aJ aG az aB I a9 b6;have I:=a3.out.blk.cell 0;have aj:=eF y gk X _ (aC o n) f bz a3.out.walk bU (by have:=bE.out;have:=O.out;omega);go_wp2_with fail;refine aj.mono ?_;clear aj;rintro b M ⟨rfl,aA,aD⟩;obtain ⟨aL,aH⟩:=a3.out.walkOp aA aD;obtain ⟨r,a2⟩:=hqq2 aL (ax.out.trans aH);clear aL aH aA aD I a3 ax;have bx:M.cell? ⟨v,3,none⟩=some (.int .i64 0):=(r.out.blk.cell 3).trans rfl;have bn:=r.out.blk.frozen 3;have bt:=r.out.blk.lt;have Z:M.cell? ⟨v,1,none⟩=some (.pointer (some x)):=(r.out.blk.cell 1).trans rfl;have aN:p < m+1+1:=oM;have aO:i < m+1+1:=oM;have a5:m+1+1<=100000:=oM;by_cases a4:p=i
     · have bl:((p:Int)==(i:Int))=true:=(by rw [a4];simp);have bm:((p:Int)!=(i:Int))=false:=(by rw [a4];simp);clear a4;have U:=bP (fun q=>X q=1) x (m+1+1) (m+1+1) i p H M r.out.perm aO aN a5 a5 aa.out;go_wp2_with fail;refine U.mono ?_;clear U;rintro b F ⟨rfl,⟨D,T,P⟩,Q⟩;obtain ⟨C,A⟩:=r.out.permOp (P.mono fun q _ ai=>.inl ai) Q;obtain ⟨ao,R⟩:=eqx (cB X M.heap.size F.heap.size 1);rw [R] at C A;obtain ⟨af,ae,u⟩:=hqq3 C (a2.out.trans A) T;clear C A P Q T R Z r a2;have B:=gF N (p:Int) F bd;rw [b5.out] at B;go_wp2_with fail;refine B.mono ?_;clear B;rintro b bA ⟨rfl,rfl⟩;have W:∀l,Smp D l↔Smp H l:=fun l=>by constructor;rintro ⟨j,e,rfl⟩;obtain ⟨aq,am,b⟩:=zAy.1 (u.out.subset e);exact ⟨aq,am,by rw [<-b]⟩;rintro ⟨j,e,rfl⟩;exact ⟨_,u.out.symm.subset (zAy.2 ⟨j,e,rfl⟩),rfl⟩
       have w:=dM a7 F y own ao v gk x ac 0 (a0.set d f) (aC o n++ [f]) (m+1) d aU D D ⟨b7.out,by rw [b0.out];exact af.out,ba.out,fun j e=>b8.out j (u.out.subset e),fun l=>Iff.rfl,fun bo b=>by
        subst b;have:=u.out.length_eq;simp at this;exact aa.out (zBk this.symm),ae.out,⟨by decide,by omega⟩⟩ oM oM (fun j e=>by
        rcases List.mem_or_eq_of_mem_set e with J | J;exact b4.out j J
        · omega)
       rw [b9.out] at w;unfold fH at w;have ag:=lhd W;clear W;go_wp2_with fail;refine w.mono ?_;clear w;rintro b bB ⟨rfl,ap,an,ah,Y,c⟩;have ad:=lhd c;clear c;go_wp2_with fail;go_ret;have c:=ad.out;have z:(E.set d q).length=m+1:=(by rw [zAt,ar.out]);have V:Smp Y=Smp H:=funext fun l=>propext ((c.plc l).trans (ag.out l));refine ⟨rfl,ap,⟨gk,x,an,aC o n++ [f],ah,Y,?_,by rw [V];exact aT.out,by rw [V,z];exact aS.out,c.mvb.1,by rw [z];have:=c.mvb.2;omega⟩,c.lf⟩;rw [b3.out,z];exact ⟨c.near.sorted,c.live,c.tal,c.right⟩
     · have bl:((p:Int)==(i:Int))=false:=(by rw [zCb];omega);have bm:((p:Int)!=(i:Int))=true:=(by rw [bne_iff_ne];omega);clear a4;go_wp2_with fail;obtain ⟨al,ak⟩:=r.out.setMv 1;obtain ⟨G,a1⟩:=hqq2 al (a2.out.trans ak);clear al ak bx bn bt Z r a2;generalize M.setCell ⟨v,3,none⟩ (.int .i64 1)=a8 at G a1⊢;have Z:a8.cell? ⟨v,1,none⟩=some (.pointer (some x)):=(G.out.blk.cell 1).trans rfl;have U:=bP (fun q=>X q=1) x (m+1+1) (m+1+1) i p H a8 G.out.perm aO aN a5 a5 aa.out;refine U.mono ?_;clear U;rintro b F ⟨rfl,⟨D,T,P⟩,Q⟩;obtain ⟨C,A⟩:=G.out.permOp (P.mono fun q _ ai=>.inl ai) Q;obtain ⟨ao,R⟩:=eqx (cB X a8.heap.size F.heap.size 1);rw [R] at C A;obtain ⟨af,ae,u⟩:=hqq3 C (a1.out.trans A) T;clear C A P Q T R Z G a1;have B:=gF N (p:Int) F bd;rw [b5.out] at B;go_wp2_with fail;refine B.mono ?_;clear B;rintro b bA ⟨rfl,rfl⟩;have W:∀l,Smp D l↔Smp H l:=fun l=>by constructor;rintro ⟨j,e,rfl⟩;obtain ⟨aq,am,b⟩:=zAy.1 (u.out.subset e);exact ⟨aq,am,by rw [<-b]⟩;rintro ⟨j,e,rfl⟩;exact ⟨_,u.out.symm.subset (zAy.2 ⟨j,e,rfl⟩),rfl⟩
       have w:=dM a7 F y own ao v gk x ac 1 (a0.set d f) (aC o n++ [f]) (m+1) d aU D D ⟨b7.out,by rw [b0.out];exact af.out,ba.out,fun j e=>b8.out j (u.out.subset e),fun l=>Iff.rfl,fun bo b=>by
        subst b;have:=u.out.length_eq;simp at this;exact aa.out (zBk this.symm),ae.out,⟨by decide,by omega⟩⟩ oM oM (fun j e=>by
        rcases List.mem_or_eq_of_mem_set e with J | J;exact b4.out j J
        · omega)
       rw [b9.out] at w;unfold fH at w;have ag:=lhd W;clear W;go_wp2_with fail;refine w.mono ?_;clear w;rintro b bB ⟨rfl,ap,an,ah,Y,c⟩;have ad:=lhd c;clear c;go_wp2_with fail;go_ret;have c:=ad.out;have z:(E.set d q).length=m+1:=(by rw [zAt,ar.out]);have V:Smp Y=Smp H:=funext fun l=>propext ((c.plc l).trans (ag.out l));refine ⟨rfl,ap,⟨gk,x,an,aC o n++ [f],ah,Y,?_,by rw [V];exact aT.out,by rw [V,z];exact aS.out,c.mvb.1,by rw [z];have:=c.mvb.2;omega⟩,c.lf⟩;rw [b3.out,z];exact ⟨c.near.sorted,c.live,c.tal,c.right⟩
   · skip
     have I:=a9.out.blk.cell 0;have aM:=dL y gk bw (aC (o.set n f) i) (aC o n) p a6 bX a9.out.walk ct (by have:=aR.out;have:=O.out;omega) bD.out (by have:=aR.out;have:=O.out;omega);have bk:((a6:Int)==(f:Int))=false:=(by rw [zCb];omega);clear bN ay;go_wp2_with fail;clear bk bL c5;refine aM.mono ?_;clear aM;rintro b bz ⟨rfl,X,az,aB⟩;obtain ⟨aJ,aG⟩:=a9.out.walkOp az aB;obtain ⟨a3,ax⟩:=hqq2 aJ (b6.out.trans aG);clear aJ aG az aB I a9 b6;have I:=a3.out.blk.cell 0;have aj:=eF y gk X _ (aC o n) f bz a3.out.walk bU (by have:=bE.out;have:=O.out;omega);go_wp2_with fail;refine aj.mono ?_;clear aj;rintro b M ⟨rfl,aA,aD⟩;obtain ⟨aL,aH⟩:=a3.out.walkOp aA aD;obtain ⟨r,a2⟩:=hqq2 aL (ax.out.trans aH);clear aL aH aA aD I a3 ax;have bx:M.cell? ⟨v,3,none⟩=some (.int .i64 0):=(r.out.blk.cell 3).trans rfl;have bn:=r.out.blk.frozen 3;have bt:=r.out.blk.lt;have Z:M.cell? ⟨v,1,none⟩=some (.pointer (some x)):=(r.out.blk.cell 1).trans rfl;have aN:p < m+1+1:=oM;have aO:i < m+1+1:=oM;have a5:m+1+1<=100000:=oM;by_cases a4:p=i
     · have bl:((p:Int)==(i:Int))=true:=(by rw [a4];simp);have bm:((p:Int)!=(i:Int))=false:=(by rw [a4];simp);clear a4;have U:=bP (fun q=>X q=1) x (m+1+1) (m+1+1) i p H M r.out.perm aO aN a5 a5 aa.out;go_wp2_with fail;refine U.mono ?_;clear U;rintro b F ⟨rfl,⟨D,T,P⟩,Q⟩;obtain ⟨C,A⟩:=r.out.permOp (P.mono fun q _ ai=>.inl ai) Q;obtain ⟨ao,R⟩:=eqx (cB X M.heap.size F.heap.size 1);rw [R] at C A;obtain ⟨af,ae,u⟩:=hqq3 C (a2.out.trans A) T;clear C A P Q T R Z r a2;have B:=gF N (p:Int) F bd;rw [b5.out] at B;go_wp2_with fail;refine B.mono ?_;clear B;rintro b bA ⟨rfl,rfl⟩;have W:∀l,Smp D l↔Smp H l:=fun l=>by constructor;rintro ⟨j,e,rfl⟩;obtain ⟨aq,am,b⟩:=zAy.1 (u.out.subset e);exact ⟨aq,am,by rw [<-b]⟩;rintro ⟨j,e,rfl⟩;exact ⟨_,u.out.symm.subset (zAy.2 ⟨j,e,rfl⟩),rfl⟩
       have w:=dM a7 F y own ao v gk x ac 0 (a0.set d f) (aC o n++ [f]) (m+1) d aU D D ⟨b7.out,by rw [b0.out];exact af.out,ba.out,fun j e=>b8.out j (u.out.subset e),fun l=>Iff.rfl,fun bo b=>by
        subst b;have:=u.out.length_eq;simp at this;exact aa.out (zBk this.symm),ae.out,⟨by decide,by omega⟩⟩ oM oM (fun j e=>by
        rcases List.mem_or_eq_of_mem_set e with J | J;exact b4.out j J
        · omega)
       rw [b9.out] at w;unfold fH at w;have ag:=lhd W;clear W;go_wp2_with fail;refine w.mono ?_;clear w;rintro b bB ⟨rfl,ap,an,ah,Y,c⟩;have ad:=lhd c;clear c;go_wp2_with fail;go_ret;have c:=ad.out;have z:(E.set d q).length=m+1:=(by rw [zAt,ar.out]);have V:Smp Y=Smp H:=funext fun l=>propext ((c.plc l).trans (ag.out l));refine ⟨rfl,ap,⟨gk,x,an,aC o n++ [f],ah,Y,?_,by rw [V];exact aT.out,by rw [V,z];exact aS.out,c.mvb.1,by rw [z];have:=c.mvb.2;omega⟩,c.lf⟩;rw [b3.out,z];exact ⟨c.near.sorted,c.live,c.tal,c.right⟩
     · have bl:((p:Int)==(i:Int))=false:=(by rw [zCb];omega);have bm:((p:Int)!=(i:Int))=true:=(by rw [bne_iff_ne];omega);clear a4;go_wp2_with fail;obtain ⟨al,ak⟩:=r.out.setMv 1;obtain ⟨G,a1⟩:=hqq2 al (a2.out.trans ak);clear al ak bx bn bt Z r a2;generalize M.setCell ⟨v,3,none⟩ (.int .i64 1)=a8 at G a1⊢;have Z:a8.cell? ⟨v,1,none⟩=some (.pointer (some x)):=(G.out.blk.cell 1).trans rfl;have U:=bP (fun q=>X q=1) x (m+1+1) (m+1+1) i p H a8 G.out.perm aO aN a5 a5 aa.out;refine U.mono ?_;clear U;rintro b F ⟨rfl,⟨D,T,P⟩,Q⟩;obtain ⟨C,A⟩:=G.out.permOp (P.mono fun q _ ai=>.inl ai) Q;obtain ⟨ao,R⟩:=eqx (cB X a8.heap.size F.heap.size 1);rw [R] at C A;obtain ⟨af,ae,u⟩:=hqq3 C (a1.out.trans A) T;clear C A P Q T R Z G a1;have B:=gF N (p:Int) F bd;rw [b5.out] at B;go_wp2_with fail;refine B.mono ?_;clear B;rintro b bA ⟨rfl,rfl⟩;have W:∀l,Smp D l↔Smp H l:=fun l=>by constructor;rintro ⟨j,e,rfl⟩;obtain ⟨aq,am,b⟩:=zAy.1 (u.out.subset e);exact ⟨aq,am,by rw [<-b]⟩;rintro ⟨j,e,rfl⟩;exact ⟨_,u.out.symm.subset (zAy.2 ⟨j,e,rfl⟩),rfl⟩
       have w:=dM a7 F y own ao v gk x ac 1 (a0.set d f) (aC o n++ [f]) (m+1) d aU D D ⟨b7.out,by rw [b0.out];exact af.out,ba.out,fun j e=>b8.out j (u.out.subset e),fun l=>Iff.rfl,fun bo b=>by
        subst b;have:=u.out.length_eq;simp at this;exact aa.out (zBk this.symm),ae.out,⟨by decide,by omega⟩⟩ oM oM (fun j e=>by
        rcases List.mem_or_eq_of_mem_set e with J | J;exact b4.out j J
        · omega)
       rw [b9.out] at w;unfold fH at w;have ag:=lhd W;clear W;go_wp2_with fail;refine w.mono ?_;clear w;rintro b bB ⟨rfl,ap,an,ah,Y,c⟩;have ad:=lhd c;clear c;go_wp2_with fail;go_ret;have c:=ad.out;have z:(E.set d q).length=m+1:=(by rw [zAt,ar.out]);have V:Smp Y=Smp H:=funext fun l=>propext ((c.plc l).trans (ag.out l));refine ⟨rfl,ap,⟨gk,x,an,aC o n++ [f],ah,Y,?_,by rw [V];exact aT.out,by rw [V,z];exact aS.out,c.mvb.1,by rw [z];have:=c.mvb.2;omega⟩,c.lf⟩;rw [b3.out,z];exact ⟨c.near.sorted,c.live,c.tal,c.right⟩
end
end Go.Proofs.YtnmapianpjamnaaGreatDoor
