/- Lemmas of the walk. Conditions: each its own. -/
import Derived.Test.YthldmddkfbijhaaGreatDoorPsl15
import Derived.Test.YthldmddkfbijhaaGreatDoorPsl16
import Derived.Test.YthldmddkfbijhaaGreatDoorProg
import Derived.Test.YthldmddkfbijhaaGreatDoorShl
import Derived.Test.YthldmddkfbijhaaGreatDoorSht
import Derived.Test.YthldmddkfbijhaaGreatDoorShs
set_option linter.all false
set_option maxRecDepth 100000
set_option maxHeartbeats 4000000
open Go.Proofs.Tryz
namespace Go.Proofs.YthldmddkfbijhaaGreatDoor
section
open Go.RowKit
def TpAt (j:World) (e f:Nat) (a:List UInt8) (i:Nat):Prop:=
 ∃d gk g c,IsSuf (aG a) d/\LiveG j e f gk g i (a.length+1) (aE (aG a) d) c/\(∀b∈c,d[b.1]?=some b.2)/\(∃b∈c,b.2=0)/\a.length<=127
def TpAt.vis {e w':World} {a b:Nat} {d:List UInt8} {c:Nat} (g:TpAt e a b d c) (l:Vis e w'):TpAt w' a b d c:=by
 obtain ⟨n,gk,f,m,i,j,k⟩:=g;exact ⟨n,gk,f,m,i,j.vis l,k⟩
def VB.grow {l:Nat} {k w1 m:World} (b:VB l k w1) (a:Below k.heap.size w1 m):VB l k m:=
 ⟨⟨a.os.trans b.1.os,a.tape.trans b.1.tape,a.output.trans b.1.output,zAk b.1.size a.size,fun d c i=>by
   rcases b.1.block d c i with n |⟨e,j,f,g⟩|⟨e,j,f,g⟩;exact .inl ((a.block d c).trans n);exact .inr (.inl ⟨e,j,f,g.below a c⟩)
   · exact .inr (.inr ⟨e,j,f,g.below a c⟩)⟩,
  ⟨a.os.trans b.2.os,a.tape.trans b.2.tape,a.output.trans b.2.output,zAk b.2.size a.size,fun d c i=>(a.block d c).trans (b.2.block d c i)⟩⟩
def TpAt.mono {d:World} {B B' a:Nat} {c:List UInt8} {b:Nat} (f:TpAt d B a c b) (k:B'<=B):TpAt d B' a c b:=by
 obtain ⟨m,gk,e,l,g,i,j⟩:=f;exact ⟨m,gk,e,l,g,i.mono k,j⟩
def aFg (a:World) (c:TypeId) (b:Array Value) (d:Nat×Nat) (e:Nat) (f:b.size=e):Rd (a.alloc (.cells b c d)) (a.heap.size+1) 1 (some ⟨a.heap.size,0,none⟩) e b.toList:=by
 refine ⟨by simp [f],fun _=>⟨_,0,rfl,by omega,fun i j g=>?_⟩⟩;rw [zBi,cell_of_row (a.alloc (.cells b c d)) a.heap.size i b c d (heap_alloc_new a _)];simpa using g
def sN (b:World) (a:Array Value) (d c:Nat):(convert 26 26 (.slice (some b.heap.size) d c)).run prog (b.alloc (.cells a 5))=.ok (.slice (some b.heap.size) d c) (b.alloc (.cells a 5 (a.size,a.size+1))):=
 Lib.run_convert_bytes_const (P:=prog) b 26 5 a d c underlying26 underlying5
def aDU (b:World) (e:Obj) (a:Array Value) (d c:Nat):(convert 26 26 (.slice (some ⟨b.heap.size+1,0,none⟩) d c)).run prog ((b.alloc e).alloc (.cells a 5))=.ok (.slice (some ⟨b.heap.size+1,0,none⟩) d c) ((b.alloc e).alloc (.cells a 5 (a.size,a.size+1))):=by
 have:=sN (b.alloc e) a d c;rw [World.size_alloc] at this;exact this
def nB (b:List Nat) (c a:Nat):Array Value:=((b.take a).map sv++List.replicate (c - a) (Value.int .i64 0)).toArray
def aEx (b:List Nat) (a:Nat):nB b a 0=Array.replicate a (Value.int .i64 0):=by
 unfold nB;apply Array.ext';simp
def aGs (a:List Nat) (b:Nat) (c:a.length=b):nB a b b=(a.map sv).toArray:=by
 unfold nB;rw [zAg oM,Nat.sub_self];simp
def aEy (b:List Nat) (a c:Nat) (d:b.length=a) (e:c<=a):(nB b a c).size=a:=by
 unfold nB;simp;omega
def aGr {b:List Nat} {c a e:Nat} (i:b.length=c) (d:b[a]?=some e):(nB b c a).setIfInBounds a (.int .i64 (e:Int))=nB b c (a+1):=by
 have j:=(zAc.1 d).1;apply Array.ext';unfold nB;rw [Array.toList_setIfInBounds,zAv,d];have f:c - a=(c -(a+1))+1:=oM;rw [f,List.replicate_succ];have g:((b.take a).map sv).length=a:=by rw [zBc,zAj];omega
 show List.set ((b.take a).map sv++(Value.int .i64 0::List.replicate (c -(a+1)) (Value.int .i64 0))) a _=_;rw [List.set_append_right _ _ oM,g,Nat.sub_self,zAz,zCo];rfl
def aEo {d:World} {B a n:Nat} {c:TypeId} {b:List Value} (i:Bk d a c b.toArray) (j:B<=a) (f:b.length=n) (e:n<=maxLen):Made d B c 1 (some ⟨a,0,none⟩) n n b:=by
 have g:d.ownsRow B c 1 (.slice (some a) n n) n b:=⟨by omega,.inr ⟨a,n,b.toArray,rfl,j,i,zAs _,e,by simp [f],by rw [zBl,zAg (by simp [f])]⟩⟩;exact ⟨g,Rd.of_own g,zAs _,e⟩
def iV (d:World) (f:Nat) (a:List Nat) (g:Ending) (e:World):Prop:=∃b c,g=.returned (.slice b a.length c)/\Made e d.heap.size 3 1 b a.length c (a.map sv)/\VB f d e
def aCW (f g:Nat) (d:List Nat) (b:World) (D:WaveAt b f g d) (E:∀a6∈d,a6 < 257) (J:d.length<=1000):
 Calls prog 124 #[g] b (iV b f d):=by
 have P:=D;obtain ⟨a2,s,m,i,a5⟩:=D;obtain ⟨c,r⟩:=eqx d.length;rw [r] at i;have a1:b.cell? ⟨g,9,none⟩=some (.int .i64 (c:Int)):=(i.cell 9).trans (bI s c m).2.2.2.2.2.2.2.2.2.1;have C:b.cell? ⟨g,10,none⟩=some (.int .i64 m):=(i.cell 10).trans (bI s c m).2.2.2.2.2.2.2.2.2.2;have ad:=i.lt;have a4:=mT c oM;obtain ⟨a0,U,T,e,X⟩:=hqq5 P i E r J;rw [r] at J;clear P i E r a5;unfold iV;go_enter func124,ntmps124;go_wp2_with fail;have G:Bk (b.alloc (.cells (Array.replicate c (.int .i64 0)) 3)) b.heap.size 3 (nB d c 0):=by rw [aEx];exact Bk.new _ _ _
 have M:VB f b (b.alloc (.cells (Array.replicate c (.int .i64 0)) 3)):=vR.alloc _;go_loopw [19] (fun y wr=>∃a:Nat,a<=c/\y=.int .i64 (a:Int)/\Bk wr b.heap.size 3 (nB d c a)/\VB f b wr) (fun y _=>c -(intOf y).toNat)
 case atStart=>exact ⟨0,zAp _,rfl,G,M⟩
 case round=>
  obtain ⟨a,ac,rfl,F,v⟩:=hrel;clear G M a4 a1 C;have ae:=v.1.size;obtain ⟨z,o⟩:=hqq2 F v;clear F v;by_cases u:a < c
  · obtain ⟨l,L⟩:∃l,d[a]?=some l:=⟨_,zAa (by rw [e.out];exact u)⟩;have A:=lhd L;clear L;go_wp2_with fail;refine (eB f g d a l wr (a0.out.vis o.out.1) (by rw [e.out];exact u) (zAc.1 A.out).2 T.out X.out).mono ?_;rintro a7 S ⟨rfl,w⟩;have k:=w.1.bk z.out dC dC;have x:=o.out.trans w;have ab:=k.lt;have a9:=k.frozen a;have t:=k.set a (.int .i64 (l:Int));rw [aGr e.out A.out] at t;have a3:∃Q,S.cell? ⟨b.heap.size,a,none⟩=some Q:=⟨_,(k.cell a).trans (zAq (by rw [aEy d c a e.out oM];exact u))⟩;obtain ⟨Q,af⟩:=a3;have N:VB f b (S.setCell ⟨b.heap.size,a,none⟩ (.int .i64 (l:Int))):=⟨Vis.fresh x.1 (p:=⟨b.heap.size,a,none⟩) nL _,Keep.setCell x.2 (p:=⟨b.heap.size,a,none⟩) (.inr nL) _⟩;obtain ⟨V,Y⟩:=hqq2 t N;clear k t w x N;go_wp2_with fail;go_roundw
    case rel=>exact ⟨a+1,by omega,by go_num,V.out,Y.out⟩
    case measure=>simp [intOf];omega
  · obtain rfl:a=c:=oM;have q:=z.out;rw [aGs d a e.out] at q;obtain ⟨R,j⟩:=o.out.1.waveC U.out;have C:wr.cell? ⟨g,10,none⟩=some (.int .i64 R):=(j.cell 10).trans (bI s a R).2.2.2.2.2.2.2.2.2.2;have a8:=j.frozen 10;have aa:=j.lt;have O:=o.out.trans (VB.set_wave j a2 m);have K:=Bk.ne q j dC;have H:=q.far (p:=⟨g,10,none⟩) K (.int .i64 m);have I:=aEo (B:=b.heap.size) (n:=a) H nL (by rw [zBc];exact e.out) (by unfold maxLen;omega);obtain ⟨W,Z⟩:=hqq2 I O;clear q j O H I K;go_wp2_with fail;go_ret;exact ⟨_,_,by rw [e.out];rfl,by rw [e.out];exact W.out,Z.out⟩
def aCZ (d gk:Nat) (a:List Nat) (c:World) (q:WalkAt c d gk a) (s:∀t∈a,t < 257) (i:a.length<=1000):
 Calls prog 66 #[gk] c (iV c d a):=by
 obtain ⟨p,w,e,f,r⟩:=q;have u:=e.cell 0;have b:=aCW d p a c f s i;unfold iV at b⊢;obtain ⟨x,j⟩:=eqx a.length;rw [j] at b⊢;clear e f r j i;go_enter func66,ntmps66;go_wp2_with fail;refine b.mono ?_;rintro v y ⟨l,o,rfl,g,k⟩;obtain ⟨m,n⟩:=hqq2 g k;clear b g k;go_wp2_with fail;go_ret;exact ⟨l,o,rfl,m.out,n.out⟩
def rZ (d f gk s q u:Nat) (a:List Nat) (n:List (Nat×Nat)) (c:World) (e:LiveG c d f gk s u q a n) (t:∀v∈a,v < 257) (j:a.length<=1000):
 Calls prog 16 #[f] c (iV c d a):=by
 obtain ⟨y,g⟩:=e.blk;have w:=g.cell 0;have b:=aCZ d gk a c e.walk t j;clear g;unfold iV at b⊢;obtain ⟨z,k⟩:=eqx a.length;rw [k] at b⊢;clear e k j;go_enter func16,ntmps16;go_wp2_with fail;refine b.mono ?_;rintro x A ⟨m,r,rfl,i,l⟩;obtain ⟨o,p⟩:=hqq2 i l;clear b i l;go_wp2_with fail;go_ret;exact ⟨m,r,rfl,o.out,p.out⟩
def mH (f b gk k l e:Nat) (i:List Nat) (g:List (Nat×Nat)) (a:World) (c:LiveG a f b gk k e l i g):
 Calls prog 12 #[b] a fun j m=>j=.returned (.int .i64 (e:Int))/\a=m:=by
 obtain ⟨o,d⟩:=c.blk;have n:=d.cell 2;clear c d;go_enter func12,ntmps12;go_wp2_with fail;go_ret;exact ⟨rfl,rfl⟩
def aJK (a:List Nat):a.map sv=(jA a).map iv:=by
 unfold jA;rw [zCh];rfl
def fB (d:World) (f:Nat) (a:List UInt8) (g:Ending) (e:World):Prop:=
 ∃b c,g=.returned (.tuple #[.slice b a.length c,.int .i64 0])/\Made e d.heap.size 5 1 b a.length c (a.map bv)/\VB f d e
def rR (n q gk N b g:Nat) (m:List UInt8) (d:List Nat) (ae:List (Nat×Nat)) (o:World) (z:LiveG o n q gk N b (m.length+1) (aE (aG m) d) ae) (bJ:∀j∈ae,d[j.1]?=some j.2) (v:IsSuf (aG m) d) (bA:m.length<=127) (bH:1<=b) (cX:b<=64) (cp:m.length<=g) (cQ:g<=2147483648):
 Calls prog 10 #[q,(g:Int)] o (fB o n (eI (aE (aG m) d) d g b m.length)):=by
 obtain ⟨bW,bo,bT,bU,bV⟩:=info_parts kE;obtain ⟨k,ap⟩:=eqx (aE (aG m) d);have F:=dR (rs:=d) (eU m);have R:k.length=m.length+1:=by rw [<-ap,bZ,v.len,aM]
 have aI:∀e w1,VB n o w1->e*b<=m.length->Calls prog 40 #[q,.int .i64 ((e*b:Nat):Int)] w1 fun f cG=>f=.returned (.int .i64 ((d.idxOf (e*b):Nat):Int))/\VB n w1 cG:=fun e w1 w bq=>by have cr:e*b∈d:=v.mem (by rw [aM];omega);exact fQ n q gk N b m d ae (d.idxOf (e*b)) (e*b) w1 (z.vis w.1) bJ v bA (zAc.2 ⟨List.idxOf_lt_length_iff.2 cr,List.getElem_idxOf _⟩)
 rw [ap] at z F⊢;obtain ⟨c,bg⟩:=eqx m.length;have bp:∀j,d.idxOf j<=128:=fun j=>by have:=List.idxOf_le_length (a:=j) (l:=d);rw [v.len,aM] at this;omega
 have a2:=rZ n q gk N (m.length+1) b k _ o z F oM;unfold iV at a2;rw [bg] at R aI cp bA⊢;rw [R] at a2;have br:=z.lvw;have bF:=aEu F;have bm:=pP k;rw [R] at bm;obtain ⟨W,ca,cf,cH,ai,ce,c7⟩:=hqq7 z br aI F R bF bp;have cB:¬g < c:=oM;have d7:decide (g < c)=false:=zBy cB;have cC:¬((g:Int) > 2147483648):=oM;have d8:decide ((g:Int) > 2147483648)=false:=zBy cC;have d5:0 < o.heap.size:=Nat.lt_of_le_of_lt (zAp _) z.lt;clear bJ z br aI F R bF ap v bg bp;unfold fB;go_enter func10,ntmps10;go_wp2_with fail;refine (cF n q _ c o ca.out ai.out oM).mono ?_;rintro f w1 ⟨rfl,rfl⟩;go_wp2_with fail;refine a2.mono ?_;clear a2;rintro f w1 ⟨c2,cg,rfl,bs,bO⟩;have aJ:=aEU c2 (c+1) cg w1.heap.size (jA k) w1 (by rw [<-aJK];exact bs.rd) nL oM;rw [ce.out] at aJ;have al:=lhd bO;clear bs bO;go_wp2_with fail;refine aJ.mono ?_;clear aJ;rintro f x ⟨cw,bh⟩;obtain ⟨cI,aO,bf,P,rfl,ay⟩:=cw.resolve_right (fun ⟨ct,_⟩=>by cases ct);injection P with P;obtain ⟨a7,Q⟩:=eqx ((gE k).length);rw [<-P,Q] at ay;rw [<-P,Q];rw [Q] at bm;have bP:VB n o x:=al.out.below bh;have K:=lhd bP;have b5:=lhd (ay.mono (B':=o.heap.size) al.out.1.size);have c8:=lhd Q;clear bh P ay Q bP al;go_wp2_with fail;go_loopw [8,9] (fun cD aL wr=>∃e p:Nat,e<=c / b+1/\aL=.int .i64 ((e*b:Nat):Int)/\wr.ownsRow x.heap.size 5 1 cD p ((aAP d b e).map bv)/\VB n x wr) (fun _ aL _=>(c+65 -(intOf aL).toNat))
 case atStart=>exact ⟨0,0,zAp _,by simp,World.ownsRow_nil _ _ _ _,VisK.refl _ _⟩
 case round=>
  obtain ⟨e,p,bq,rfl,G,w⟩:=hrel;have cV:p<=1500:=by have ck:=G.1;have cJ:=qJ d b e;have cK:c / b<=c:=Nat.div_le_self _ _;simp at ck;omega
  obtain ⟨V,aD⟩:=eqx (e*b);have T:=K.out.trans w;have a3:=cF n q _ c wr (W.out.vis T.1).lvw ai.out oM;have d2:=T.1.size;have d3:=w.1.size;by_cases F:V<=c
  · have a5:=cf.out e wr T oM;have aC:=sO d b e;obtain ⟨j,aK⟩:=eqx (d.idxOf (e*b));have d6:j<=128:=(by rw [<-aK];exact c7.out _);have cs:=aJ5 bH (by omega:e*b<=c);have cv:(e+1)*b=V+b:=(by rw [Nat.add_mul,aD,Nat.one_mul]);rw [aK] at a5 aC;rw [aD] at a5;rw [aD];obtain ⟨a8,ax⟩:=eqx ((cE j).length);have cP:a8<=11:=(by rw [<-ax];exact dL j);have cU:V<=127:=oM;obtain ⟨cc,c9,u,J⟩:=hqq4 aC ax w G;clear aC ax w G T aK;go_wp2_with fail;refine a3.mono ?_;clear a3;rintro f H ⟨rfl,rfl⟩;go_wp2_with fail;refine a5.mono ?_;clear a5;rintro f H ⟨rfl,a6⟩;have bD:=a6.1.own J.out dC dC;have bb:=lhd bD;have bS:=u.out.trans a6;have d4:=a6.1.size;have bd:=lhd bS;clear bD a6 bS J u;go_wp2_with fail;refine (yD _ _ _ _ [j] _ (cE j) a8 (pQ j) c9.out (Rd.made _ _ 1 1 _ rfl) nL (by simp;omega) oM).mono ?_;rintro f i ⟨I,M,rfl,S,O⟩;have r:=((Below.refl H.heap.size H).alloc nL (.cells #[.int .u64 (j:Int)] 72)).trans (O.mono (by simp));have A:i.ownsRow x.heap.size 5 1 u8 p ((aAP d b e).map bv):=aR (bb.out) r;have bL:=r.size;obtain ⟨X,ak⟩:=hqq2 S.rd (lP (cE j));have bQ:=bd.out.below r;have bM:x.heap.size<=i.heap.size:=oM;have L:=lhd bQ;clear S O r bb bd bQ;go_wp2_with (at_builtin;refine bY _ rfl (.tmp 41) (.tmp 47) _ rfl x.heap.size 5 bW (.int .u8 0) 1 1 underlying26 bo bT bU bV rfl dC u8 p _ rfl A i.heap.size I a8 M _ rfl X.out ak.out (by unfold maxLen;omega) oM bM ?_;intro db aN bE bn cm);have s:=aZ (Below.refl x.heap.size i) A bn bM;have bR:=VB.grow L.out s;obtain ⟨be,cd⟩:=hqq2 bR bE;clear A bE bn cm s bR L;have bI:=mH n q gk N _ b k _ aN (W.out.vis (K.out.trans be.out).1);go_wp2_with fail;refine bI.mono ?_;clear bI;rintro f c0 ⟨rfl,rfl⟩;have cM:IntKind.i64.wrap ((V:Int)+(b:Int))=((V+b:Nat):Int):=(by rw [IntKind.wrap_i64];omega);go_wp2_with fail;go_roundw
    case rel=>
        refine ⟨e+1,p+a8,cs,?_,?_,be.out⟩
        · rw [cv]
          first | rfl | exact dI oM
        rw [cc.out,zAz];exact cd.out
    case measure=>simp [intOf];omega
  · go_wp2_with fail;refine a3.mono ?_;clear a3;rintro f H ⟨rfl,rfl⟩;have co:=aJ8 bH bq oM;subst co;rw [<-uT] at G;obtain ⟨J,u⟩:=hqq2 G w;clear G w T;go_wp2_with fail;refine (mH n q gk N _ b k _ wr (W.out.vis (K.out.trans u.out).1)).mono ?_;rintro f H ⟨rfl,rfl⟩;go_wp2_with fail;refine (cF n q _ c wr (W.out.vis (K.out.trans u.out).1).lvw ai.out oM).mono ?_;rintro f H ⟨rfl,rfl⟩;go_wp2_with fail;obtain ⟨U,aw⟩:=eqx ((dS [g,b,c]).length);have cO:U<=33:=(by rw [<-aw];have:=wZ [g,b,c];simpa using this);have b4:=lhd aw;clear aw;refine (yD _ _ _ _ [g,b,c] _ (dS [g,b,c]) U rfl b4.out (Rd.made _ _ 1 3 _ rfl) nL (by simp;omega) oM).mono ?_;rintro f i ⟨I,M,rfl,S,O⟩;have r:=((Below.refl wr.heap.size wr).alloc nL (.cells #[.int .u64 (g:Int),.int .u64 (b:Int),.int .u64 (c:Int)] 72)).trans (O.mono (by simp));have bL:=r.size;have A:i.ownsRow x.heap.size 5 1 u8 p ((vO d b c).map bv):=aR (J.out) r;have bC:i.ownsRow o.heap.size 5 1 (.slice aO a7 bf) a7 ((gE k).map bv):=aR (u.out.1.own b5.out.own dC dC) r;obtain ⟨c5,cj,rfl,bu⟩:=aT A;obtain ⟨b6,bc,X,L⟩:=hqq4 bu.rd (Rd.of_own bC) S.rd ((K.out.trans u.out).below r);have bG:(vO d b c).length=p:=(by have:=A.1;simpa using this);clear S O r A bC bu J b5 u;have cA:=sN i;go_wp2_with fail;have a4:=aFg i 5 #[.int .u8 83,.int .u8 75,.int .u8 82,.int .u8 49] (4,5) 4 rfl;obtain ⟨C,a1⟩:=eqx i.heap.size;rw [a1] at a4;have s:Below i.heap.size i (i.alloc (.cells #[.int .u8 83,.int .u8 75,.int .u8 82,.int .u8 49] 5 (4,5))):=(Below.refl i.heap.size i).alloc nL _;have cy:(i.alloc (.cells #[.int .u8 83,.int .u8 75,.int .u8 82,.int .u8 49] 5 (4,5))).heap.size=C+1:=(by simp [a1]);have Y:=bc.out.below s;have Z:=b6.out.below s;have a0:=X.out.below s;have aq:=L.out.below s;rw [a1] at Y Z a0 s bL⊢;generalize i.alloc (.cells #[.int .u8 83,.int .u8 75,.int .u8 82,.int .u8 49] 5 (4,5))=aN at a4 s cy Y Z a0 aq⊢;obtain ⟨b8,aP,aQ,aU,b2⟩:=hqq5 a4 Y Z a0 aq;clear a4 Y Z a0 aq s bc b6 X L a1 cA;have cL:c / b<=c:=Nat.div_le_self _ _;have cx:=qJ d b (c / b+1);rw [<-uT,bG] at cx;have cW:p<=2000:=oM;obtain ⟨a9,az⟩:=eqx ((dX (gE k)).length);obtain ⟨aa,aA⟩:=eqx ((dX (vO d b c)).length);have cR:a9<=3000:=(by rw [<-az,jF,c8.out];have:=dL a7;omega);have cS:aa<=3000:=(by rw [<-aA,jF,bG];have:=dL p;omega);have aF:=rS aO a7 bf C (gE k) aN aP.out oM oM;rw [az] at aF;refine aF.mono ?_;clear aF;rintro f c0 ⟨ab,am,rfl,bw,D⟩;have cY:=D.size;obtain ⟨b9,aS,aV,aX,b3⟩:=hqq5 (b8.out.below (D.mono oM)) (aQ.out.below (D.mono oM)) (aU.out.below (D.mono oM)) bw.rd (b2.out.below D);clear D bw b8 aP aQ aU b2;go_wp2_with fail;have aH:=rS c5 p cj C (vO d b c) c0 aS.out oM oM;rw [aA] at aH;refine aH.mono ?_;clear aH;rintro f t ⟨ac,an,rfl,bx,E⟩;have cZ:=E.size;obtain ⟨ba,aW,aY,b0,af⟩:=hqq5 (b9.out.below (E.mono oM)) (aV.out.below (E.mono oM)) (aX.out.below E) bx.rd (b3.out.below E);clear E bx b9 aS aV aX b3;go_wp2_with fail;obtain ⟨y,av⟩:=eqx (oR k d g b c);obtain ⟨B,aB⟩:=eqx y.length;have cT:B<=10000:=by rw [<-aB,<-av];unfold oR;rw [zAi,zAi,zAi,b4.out,az,aA];have:gQ.length=4:=rfl;omega
    have bl:=mI (some ⟨t.heap.size,0,none⟩) 4 4 (t.heap.size+1) [⟨some ⟨C,0,none⟩,4,4,gQ⟩,⟨I,U,M,dS [g,b,c]⟩,⟨ab,a9,am,dX (gE k)⟩,⟨ac,aa,an,dX (vO d b c)⟩] y B (by rw [<-av];unfold oR;simp [gX]) aB (t.alloc (.cells #[.slice (some C) 4 4,.slice I U M,.slice ab a9 am,.slice ac aa an] 26)) ((Rd.made t _ 1 4 _ rfl).mono (by simp)) (by
        intro d9 v;simp at v;rcases v with rfl | rfl | rfl | rfl;exact ((ba.out.mono (B':=t.heap.size) oM).alloc nL _).mono oM;exact ((aW.out.mono (B':=t.heap.size) oM).alloc nL _).mono oM;exact ((aY.out.mono (B':=t.heap.size) oM).alloc nL _).mono oM
        · exact (b0.out.alloc nL _).mono oM) (by simp) oM oM
    refine bl.mono ?_;clear bl;rintro f c1 ⟨ad,ao,rfl,bz,bj⟩;have bi:=((Below.refl t.heap.size t).alloc nL (.cells #[.slice (some C) 4 4,.slice I U M,.slice ab a9 am,.slice ac aa an] 26)).trans (bj.mono (by simp));have ag:=lhd (af.out.below bi);have d0:=ag.out.1.size;have aj:=lhd (bz.mono (B':=o.heap.size) (by simp;have:=af.out.1.size;omega));clear bz bj bi af ba aW aY b0;go_wp2_with fail;refine (tF ad _ B ao _ y _ ((aj.out.rd.alloc oM _).mono (by simp)) oM (Rd.made _ _ 1 1 _ rfl)).mono ?_;rintro f dd ⟨rfl,bk⟩;have au:=((Below.refl c1.heap.size c1).alloc nL (.cells #[.slice ad B ao] 26)).trans (bk.mono (by simp));obtain ⟨b7,ah⟩:=hqq2 (aj.out.below au) (ag.out.below au);have d1:=ah.out.1.size;clear bk au aj ag;go_wp2_with fail;refine (aAE (nE y) _).mono ?_;rintro f bX ⟨c3,ch,rfl,bt,ar⟩;obtain ⟨cb,b1⟩:=hqq2 (b7.out.below ar) (ah.out.below ar);have bK:=b1.out.1.size;have c6:=lhd bt.rd;have bB:=cb.out.own;have ak:=lhd (lP (rG (nE y)));clear bt ar b7 ah;go_wp2_with (at_builtin;refine bY _ rfl (.tmp 68) (.tmp 72) _ rfl o.heap.size 5 bW (.int .u8 0) 1 1 underlying26 bo bT bU bV rfl dC (.slice ad B ao) B _ rfl bB bX.heap.size c3 4 ch _ rfl c6.out ak.out (by unfold maxLen;omega) oM bK ?_;intro da dc cu cn cN);have cl:=VB.grow b1.out (aZ (Below.refl o.heap.size bX) bB cn bK);obtain ⟨c4,ci,rfl,cq⟩:=aT cu;go_ret2;have bN:eI k d g b c=y++rG (nE y):=(by unfold eI;rw [av]);have cz:(eI k d g b c).length=B+4:=(by rw [bN,zAi,aB,rF]);rw [cz,bN,zAz];exact ⟨c4,ci,rfl,cq,cl⟩
def aAB (d:World) (f:Nat) (j:List UInt8) (g a:Nat) (i:Ending) (e:World):Prop:=
 ∃b c,i=.returned (.tuple #[.slice b a c,.int .i64 0])/\Made e d.heap.size 5 1 b a c (((j.drop g).take a).map bv)/\VB f d e
def aGR (j v aV:Nat) (d:List UInt8) (c x:Nat) (k:World) (B:TpAt k j v d aV) (a3:TabW k) (aw:1 < j) (br:c+x<=d.length):
 Calls prog 75 #[v,(c:Int),(x:Int)] k (aAB k j d c x):=by
 obtain ⟨bz,bn,ag,bw,bx⟩:=info_parts uQ;obtain ⟨s,gk,bh,bL,M,K,aO,ag,aF⟩:=B;have az:s.length=d.length+1:=by rw [M.len,aM]
 have a1:(aE (aG d) s).length=d.length+1:=by rw [bZ,az]
 have W:∀r,r<=d.length->∃D,s[D]?=some r:=fun r aL=>by obtain ⟨D,bo,l⟩:=M.row (p:=r) (by rw [aM];omega);exact ⟨D,zAc.2 ⟨bo,l⟩⟩
 have aK:∀(n D r:Nat) (g:UInt8),s[n]?=some (r+1)->s[D]?=some r->d[r]?=some g->(aE (aG d) s)[n]?=some (g.toNat+1)/\cL (aE (aG d) s) (g.toNat+1) n=D:=fun n D r g Z a0 S=>aHU M Z a0 S;obtain ⟨n,a9⟩:=W c oM;have aN:=fQ j v gk bh aV d s bL n c k K aO M aF a9;obtain ⟨c5,a6⟩:=K.blk;clear aO ag;obtain ⟨E,a2⟩:=eqx d.length;rw [a2] at a1 W br aF;have c3:1 < k.heap.size:=a3.pos;have bY:=a6.lt;have bB:decide ((c:Int) < 0)=false:=by simp
 have bD:decide ((x:Int) < 0)=false:=by simp
 have aR:¬E < c:=oM;have bE:decide (E < c)=false:=zBy aR;obtain ⟨Y,bm⟩:=eqx (E - c);have bH:IntKind.i64.wrap ((E:Int) -(c:Int))=(Y:Int):=by rw [IntKind.wrap_i64];omega
 have aS:¬Y < x:=oM;have bI:decide (Y < x)=false:=zBy aS;obtain ⟨am,ar,ak,b7,b4,Q⟩:=hqq6 K.lvw K.walk a6 W aK a1;have ai:=lhd (dR (eU d) (rs:=s));obtain ⟨aZ,aj,aX⟩:=hqq3 a9 a3 a2;clear a6 K W aK a1 a9 a3 M az a2 bm;unfold aAB;go_enter func75,ntmps75;go_wp2_with fail;refine (cF j v _ E k am.out Q.out oM).mono ?_;rintro l w1 ⟨rfl,rfl⟩;go_wp2_with fail;refine (cF j v _ E k am.out Q.out oM).mono ?_;rintro l w1 ⟨rfl,rfl⟩;go_wp2_with fail;refine aN.mono ?_;rintro l o ⟨rfl,aP⟩;have ba:=lhd aP;clear aN aP bB bD aR bE bH aS bI;go_wp2_with fail;go_loopw [8,9,40] (fun bM u n wr=>∃a row:Nat,a<=x/\n=.int .i64 (a:Int)/\u=.int .i64 (row:Int)/\s[row]?=some (c+a)/\wr.ownsRow k.heap.size 5 1 bM a (((d.drop c).take a).map bv)/\VB j k wr) (fun _ _ n _=>x -(intOf n).toNat)
 case atStart=>exact ⟨0,n,zAp _,rfl,rfl,aZ.out,World.ownsRow_nil _ _ _ _,ba.out⟩
 case round=>
  obtain ⟨a,row,U,rfl,rfl,ab,V,C⟩:=hrel;by_cases c0:a < x
  · obtain ⟨g,a8⟩:∃g,d[c+a]?=some g:=⟨_,zAa (by rw [aX.out];omega)⟩;obtain ⟨H,ac⟩:=b7.out (c+a+1) oM;obtain ⟨ad,ae⟩:=b4.out H row (c+a) g ac ab a8;obtain ⟨O,af⟩:∃O,O=g.toNat+1:=⟨_,rfl⟩;rw [<-af] at ad ae;have aI:((d.drop c).take (a+1)).map bv=((d.drop c).take a).map bv++ [bv g]:=(by rw [zAv,zBt,a8,zAz];rfl);have a5:=C.1.bk ak.out dC dC;have bc:=a5.cell 0;have bA:=a5.lt;have c2:=C.1.size;have aQ:=ar.out.vis C.1;obtain ⟨au,b9,ao,ap,an,aq,b2,b8⟩:=hqq8 aQ af ad ae V C aI ac;clear ac ad ae V C aI a5 aQ ab a8 af;go_wp2_with fail;refine (oS j gk _ H row O wr au.out ao.out ap.out ai.out (by rw [Q.out];omega)).mono ?_;rintro l bQ ⟨rfl,a4⟩;go_wp2_with fail;refine (tZ g O b9.out bQ).mono ?_;rintro l A ⟨rfl,ay⟩;have G:Below wr.heap.size wr A:=a4.trans (ay.mono a4.size);have L:=(VisK.of_below (F:=fun b=>j<=b) G).1.own an.out dC dC;have X:=aq.out.below G;have a7:=X.1.bk ak.out dC dC;have aB:∀b,u8.ownBlock=some b->b < A.heap.size:=fun b J=>(L.lt b J).2;have aA:∀b,u8.ownBlock=some b->k.heap.size<=b:=fun b J=>(L.lt b J).1;have aJ:¬u8.ownBlock=some v:=fun l=>bF L a7 dC l.symm;have bs:=X.1.size;obtain ⟨b5,R,aY,b0,al,b3⟩:=hqq6 L X a7 aB aA aJ;clear a4 ay G L X a7 aB aA aJ bc bA an aq au;go_wp2_with fail;refine wp_region_any kR ?_;refine cD j 10 [52,53,54,55,56,57,58,59,60,61] (fun b=>u8.ownBlock=some b) 3 [3] (fun o=>o.ownsRow k.heap.size 5 1 u8 a (((d.drop c).take a).map bv)) (fun u o=>o.ownsRow k.heap.size 5 1 u (a+1) (((d.drop c).take a).map bv++ [bv g])) [is (u8),is (bv g),fun u o=>∃z,u=.slice (some ⟨z,0,none⟩) 1 1/\Bk o z 5 #[bv g]/\u8.ownBlock≠some z,dA,is v,is v,is v,is gk,is (row:Int),is (H:Int)] _ _ rfl dC kR kR kR (b5.out) (fun w1 o B _ a=>a.1.own B dC dC) (fun _ _ _ B a=>a.1.own B dC dC) (by repeat' (first | exact iG _ _ | exact jM _ | exact fun _ _ _ ⟨z,Z,a0,S⟩ a=>⟨z,Z,a.1.bk a0 dC dC S,S⟩|(refine zAe.2 ⟨?_,?_⟩)|(intro r aL;cases aL))) ?_ ?_
    · refine bG ?_;refine pH3 8 (u8) ?_;refine pH3 10 (bv g) ?_;refine sC3 (fun _ t e _ _ _ _ m _ _ _ q=>?_) ?_
      · replace e:VFB j (fun b=>u8.ownBlock=some b) A t:=fD e;have av:_=_:=m 1 53 kR rfl;go_simp;exact q _ _ (aH (vR.alloc _)) ⟨_,rfl,Bk.new _ _ _,fun B=>by have:=(b0.out _ B);have:=e.1.size;omega⟩
      refine sC3 (fun I t e bi _ _ _ m _ _ bj q=>?_) ?_
      · replace e:VFB j (fun b=>u8.ownBlock=some b) A t:=fD e;have bq:=bi rfl;have be:_=_:=m 0 52 kR rfl;have bJ:(fun u o=>∃z,u=.slice (some ⟨z,0,none⟩) 1 1/\Bk o z 5 #[bv g]/\u8.ownBlock≠some z) (I (.tmp 54)) t:=m 2 54 kR rfl;obtain ⟨bg,av,bl,c1⟩:=bJ;subst bj;have bu:=e.1.size;refine eT t (.tmp 52) (.tmp 54) _ rfl k.heap.size 5 bz (.int .u8 0) 1 1 underlying26 bn ag bw bx rfl dC u8 a _ be bq t.heap.size (some ⟨bg,0,none⟩) 1 1 [bv g] av (aD7 bl) (by simp [Value.oneCell',bv]) (by unfold maxLen;omega) oM (zAk bs bu) ?_;intro bO P bp w bW;refine q _ _ (jK ⟨VisF.of_keep ⟨w.os,w.tape,w.output,w.size,fun a U aa=>w.block a U (fun l=>aa l.symm)⟩,⟨w.os,w.tape,w.output,w.size,fun a U aa=>w.block a U (fun l=>aa (.inl l.symm))⟩⟩) bp
      refine pH3 0 (.pointer (some v)) ?_;refine pV3 4 56 ?_;refine pV3 5 57 ?_;refine sC3 (fun _ t e _ _ _ _ m _ _ _ q=>?_) ?_
      · replace e:VFB j (fun b=>u8.ownBlock=some b) A t:=fD e;have bS:_=_:=m 6 58 kR rfl;have G:=e.1.bk aY.out dC dC b3.out;have bR:=G.cell 0;have c4:=G.lt;go_simp;exact q _ _ (aH vR) rfl
      refine pH3 9 (.int .i64 (row:Int)) ?_;refine sC3 (fun _ t e _ _ T _ m _ _ _ q=>?_) ?_
      · replace e:VFB j (fun b=>u8.ownBlock=some b) A t:=fD e;have bU:_=_:=m 7 59 kR rfl;have bV:_=_:=m 8 60 kR rfl;go_simp;have N:=(VFB.trans (VFB.of_vb R.out) e).to_vb (fun b J T=>by have:=(al.out b T);omega);refine (pU j gk _ H row O t (ar.out.vis N.1) ao.out ap.out ai.out (by rw [Q.out];omega) (aj.out.vb N aw aj.out.pos) aw).mono ?_;rintro l c6 ⟨rfl,bt⟩;exact q _ _ (aH bt) rfl
      exact aD
    · intro I P y e m ax;replace e:VFB j (fun b=>u8.ownBlock=some b) A P:=fD e;have ah:(fun u o=>o.ownsRow k.heap.size 5 1 u (a+1) (((d.drop c).take a).map bv++ [bv g])) (I (.tmp 55)) P:=m 3 55 dC rfl;have bf:I (.tmp 61)=.int .i64 (H:Int):=m 9 61 dC rfl;obtain ⟨bP,aU⟩:=ax 3 dC;have bK:(fun u o=>o.ownsRow k.heap.size 5 1 u (a+1) (((d.drop c).take a).map bv++ [bv g])) bP P:=aU;clear aU ax;simp only [zqq];rw [bf];clear m;have N:=(VFB.trans (VFB.of_vb R.out) e).to_vb (fun b J T=>by have:=(al.out b T);omega);change wpAny prog Region.Mode.any _ _ (2+y) (bX 10 12) _ P;rw [show 2+y=y+1+1 by omega];generalize I (.tmp 55)=bO at ah⊢;obtain ⟨b6,bb⟩:=hqq2 ah N;clear ah N e bK;refine bC (f:=y+1) (i:=10) kR ?_;refine bN rfl rfl ?_;generalize q:wpAny prog _ _ _ (y+1) _=K5;go_simp;subst q;refine bC (f:=y) (i:=11) kR ?_;refine bN rfl rfl ?_;generalize q:wpAny prog _ _ _ y _=K5;go_simp;subst q;refine bT kR ?_;go_wp2_with fail;go_roundw
      case rel=>exact ⟨a+1,H,by omega,by go_num,by first | rfl | trivial,b8.out,by rw [b2.out];exact b6.out,bb.out⟩
      case measure=>simp [intOf];omega
  · obtain rfl:a=x:=oM;obtain ⟨aW,bd,rfl,aC⟩:=aT V;obtain ⟨b1,R⟩:=hqq2 aC C;clear V aC C ab;go_wp2_with fail;go_ret2;exact ⟨aW,bd,rfl,b1.out,R.out⟩
end
section
open Go.RowKit Go.Shelf
def zG (b d c:Nat) (e:List (Nat×Nat)) (row:Nat) (a:World) (l:PermR a b d c e) (p:∀y∈e,y.1≠row):
 Calls prog 183 #[b,(row:Int)] a fun i x=>i=.returned (.int .i64 (-1))/\Below a.heap.size a x:=by
 obtain ⟨f,k,u,v,w,t,r,g,s,j,m,n,z,A,rfl⟩:=l;exact aBK f b k u v w t d c r g s j row a m n oM fun q o=>p _ (zAy.2 ⟨q,o,rfl⟩)
def oU (c e d:Nat) (g:List (Nat×Nat)) (row f:Nat) (a:World) (m:PermR a c e d g) (p:(row,f)∈g):
 Calls prog 183 #[c,(row:Int)] a fun b y=>b=.returned (.int .i64 (f:Int))/\Below a.heap.size a y:=by
 obtain ⟨i,l,v,w,x,u,s,j,t,k,n,o,z,A,rfl⟩:=m;obtain ⟨r,q,b⟩:=zAy.1 p;injection b with e1 e2;subst e2;exact aBJ i c l v w x u e d s j t k row r a n o oM oM q e1
def aBP (u Q gk C aO:Nat) (e:List UInt8) (d:List Nat) (f:List (Nat×Nat)) (s m:Nat) (y:World) (D:LiveG y u Q gk C aO (e.length+1) (aE (aG e) d) f) (W:∀k∈f,d[k.1]?=some k.2) (ah:∃k∈f,k.2=0) (r:IsSuf (aG e) d) (aI:e.length<=127) (I:d[s]?=some m):
 Calls prog 134 #[Q,(s:Int)] y fun i aP=>i=.returned (.int .i64 (m:Int))/\VB u y aP:=by
 have V:d.length=e.length+1:=by rw [r.len,aM]
 have ay:=(zAc.1 I).1;have R:(aE (aG e) d).length=e.length+1:=by rw [bZ,V]
 have aJ:m < e.length+1:=by have:=r.lt (zAd I);rwa [aM] at this
 obtain ⟨g,S⟩:=eqx e.length;have ai:∀a:Nat,d[a]?=some 0->(a,0)∈f:=fun a E=>by obtain ⟨⟨aN,aL⟩,J,i⟩:=ah;have aw:aL=0:=i;subst aw;have j:d[aN]?=some 0:=W _ J;rw [uU r E j];exact J
 have ab:∀a b c:Nat,d[a]?=some b->(a,c)∈f->c=b:=fun a b c o aH=>by have j:d[a]?=some c:=W _ aH;rw [o] at j;injection j with j;exact j.symm
 have af:∀a b:Nat,d[a]?=some (b+1)->∃K t,(aE (aG e) d)[a]?=some K/\cL (aE (aG e) d) K a=t/\d[t]?=some b:=fun a b o=>by obtain ⟨E,a4⟩:=zAc.1 o;have U:b+1 < (aG e).length:=r.lt (zAd o);obtain ⟨t,a7,a5⟩:=r.row (p:=b) oM;have a9:=eH e;have aD:=rA a9 E a4 (by rw [aM] at U;omega);exact ⟨(aG e).getD b 0,t,zAc.2 ⟨_,aD⟩,lf r a9 E a7 a4 a5,zAc.2 ⟨a7,a5⟩⟩
 rw [S] at D;rw [S] at R aJ aI V;have aC:¬(g:Int) < (s:Int):=oM;have az:decide ((s:Int) < 0)=false:=by simp
 have aA:decide ((s:Int) > (g:Int))=false:=by simp;omega
 have aB:decide (g < s)=false:=by simp;omega
 obtain ⟨a0,av,am,aq,a1⟩:=hqq5 D ai ab af R;have aj:=lhd (dR (eU e) (rs:=d));have ak:=lhd I;obtain ⟨aV,G⟩:=D.blk;have A:=G.cell 0;have B:=G.cell 1;have aS:=G.lt;clear D ai ab ah W af R r I ay S V G;go_enter func134,ntmps134;go_wp2_with fail;refine (cF u Q _ g y a0.out.lvw a1.out oM).mono ?_;rintro i w1 ⟨rfl,rfl⟩;go_wp2_with fail;clear A B aC az aA aB;go_loopw [1,5] (fun k Z wr=>∃a b x:Nat,d[a]?=some b/\b+x=m/\k=.int .i64 (a:Int)/\Z=.int .i64 (x:Int)/\VB u y wr) (fun _ Z _=>m+1 -(intOf Z).toNat)
 case atStart=>exact ⟨s,m,0,ak.out,rfl,rfl,rfl,VisK.refl _ _⟩
 case round=>
  obtain ⟨a,b,x,o,U,rfl,rfl,X⟩:=hrel;have j:=a0.out.vis X.1;obtain ⟨aW,H⟩:=j.blk;have A:=H.cell 0;have B:=H.cell 1;have aT:=H.lt;obtain ⟨a3,z,M⟩:=hqq3 X j o;clear j X o H;by_cases F:∃c,(a,c)∈f
  · obtain ⟨c,T⟩:=F;have ax:=am.out a b c M.out T;subst ax;have a2:=lhd T;have aR:¬(c:Int) < 0:=oM;have aU:IntKind.i64.wrap ((c:Int)+(x:Int))=(m:Int):=(by rw [IntKind.wrap_i64];omega);clear T U;go_wp2_with fail;refine (oU C (g+1) (g+1) f a c wr z.out.perm a2.out).mono ?_;rintro i Y ⟨rfl,q⟩;have n:=z.out.vis (Vis.of_below q);obtain ⟨aK,l⟩:=n.blk;have O:=l.cell 0;have P:=l.cell 1;have aF:=l.lt;have v:=a3.out.below q;obtain ⟨N,L⟩:=hqq2 v n;clear A B n v q l;go_wp2_with fail;refine (oU C (g+1) (g+1) f a c Y L.out.perm a2.out).mono ?_;rintro i aQ ⟨rfl,a8⟩;have w:=N.out.below a8;have ar:=lhd w;clear O P w a8;go_wp2_with fail;go_ret;exact ⟨rfl,ar.out⟩
  · have aa:∀k∈f,k.1≠a:=fun k J i=>F ⟨k.2,by rw [<-i];exact J⟩;have al:=lhd aa
    obtain ⟨c,rfl⟩:∃c,b=c+1:=⟨b - 1,by
        rcases zBa b with a6 | a6;subst a6;exact absurd ⟨0,av.out a M.out⟩ F
        · omega⟩
    obtain ⟨K,t,ac,ad,ae⟩:=aq.out a c M.out;obtain ⟨an,ao,ap⟩:=hqq3 ac ad ae;clear aa F ac ad ae;go_wp2_with fail;refine (zG C (g+1) (g+1) f a wr z.out.perm al.out).mono ?_;rintro i Y ⟨rfl,q⟩;have n:=z.out.vis (Vis.of_below q);obtain ⟨aK,l⟩:=n.blk;have O:=l.cell 0;have P:=l.cell 1;have aF:=l.lt;have v:=a3.out.below q;obtain ⟨N,L⟩:=hqq2 v n;clear A B n v q l;go_wp2_with fail;refine (lZ u gk _ a K Y L.out.walk an.out aj.out (by rw [a1.out];omega)).mono ?_;rintro i aQ ⟨rfl,w⟩;rw [ao.out];have ag:=N.out.trans w;have au:=lhd ag;clear O P w ag;go_wp2_with fail;go_roundw
    case rel=>exact ⟨t,c,x+1,ap.out,by omega,rfl,by go_num,au.out⟩
    case measure=>simp [intOf];omega
end
section
open Go.RowKit
def aBX (e:World) (g:Nat) (b a:List UInt8) (i:Ending) (f:World):Prop:=
 ∃c d,i=.returned (.slice c (fZ b a).length d)/\Made f e.heap.size 3 1 c (fZ b a).length d ((fZ b a).map sv)/\VB g e f
def aJH (n u ab:Nat) (c:List UInt8) (D:Option Addr) (A T r:Nat) (B:List Sl) (b:List UInt8) (U:gX B=b) (e:World) (au:TpAt e n u c ab) (a7:Rd e r 1 D A (B.map slV)) (a9:∀N∈B,Rd e r 1 N.A N.n (N.l.map bv)) (av:r<=e.heap.size) (aB:A<=1000000) (aE:b.length<=1000000):
 Calls prog 77 #[u,.slice D A T] e (aBX e n c b):=by
 obtain ⟨aJ,ax,z,aH,aI⟩:=info_parts fW;obtain ⟨g,gk,ar,aL,m,G,a8,z,aC⟩:=au;obtain ⟨aj,ap⟩:=hqq2 a8 z;clear a8 z;have w:g.length=c.length+1:=by rw [m.len,aM]
 have x:=sB n u _ c.length D A T r B b b.length U rfl e G.lvw (by rw [bZ,w]) oM (dR (eU c)) a7 a9 av aB aE;rw [aCh m (eH c)] at x;have y:=aB9 m b;have a0:=aJN (aG c) true (dK b);rw [aM] at a0;have V:Nq (aG c) false (dK b)<=Nq (aG c) true (dK b):=by rw [aE4];omega
 have v:(fZ c b).length=Nq (aG c) true (dK b) - Nq (aG c) false (dK b):=by rw [<-(aCg m b).length_eq,zAj,zAw,w];omega
 obtain ⟨a,H⟩:=eqx (Nq (aG c) false (dK b));obtain ⟨f,F⟩:=eqx (Nq (aG c) true (dK b));obtain ⟨aU,a6⟩:=eqx (fZ c b);unfold aBX;rw [H,F] at x y v;rw [H] at V;rw [F] at a0 V;rw [a6] at y v⊢;obtain ⟨ad,ak,al,P,R⟩:=hqq5 G m y v w;clear a7 a9 G m y v w H F a6 U;go_enter func77,ntmps77;go_wp2_with fail;refine x.mono ?_;rintro t w1 ⟨rfl,aF⟩;clear x;go_wp2_with fail;go_loopw [7,8] (fun aN M wr=>∃d:Nat,d<=f - a/\M=.int .i64 ((a+d:Nat):Int)/\wr.ownsRow e.heap.size 3 1 aN d (((g.drop a).take d).map sv)/\VB n e wr) (fun _ M _=>f -(intOf M).toNat)
 case atStart=>exact ⟨0,zAp _,by simp,World.ownsRow_nil _ _ _ _,aF⟩
 case round=>
  obtain ⟨d,aR,rfl,j,p⟩:=hrel;by_cases az:d < f - a
  · have aA:((a+d:Nat):Int) < (f:Int):=oM;have ay:a+d < g.length:=(by rw [R.out];omega);obtain ⟨C,L⟩:∃C,g[a+d]?=some C:=⟨_,zAa ay⟩;have a4:(g.drop a).take (d+1)=(g.drop a).take d++ [C]:=(by rw [zAv,zBt,L];rfl);have Z:=ad.out.vis p.1;obtain ⟨ai,s,ae,ao,ah⟩:=hqq5 j p Z L a4;clear j p Z L a4;go_wp2_with fail;refine (aBP n u gk ar ab c g aL (a+d) C wr ae.out aj.out ap.out ak.out aC ao.out).mono ?_;rintro t aO ⟨rfl,J⟩;have K:=s.out.trans J;have k:=J.1.own ai.out dC dC;have aa:=K.1.size;obtain ⟨an,Q⟩:=hqq2 K k;clear J K k;go_wp2_with (at_builtin;refine bO _ rfl (.tmp 21) (.tmp 25) _ rfl e.heap.size 3 aJ (.int .i64 0) 1 8 underlying22 ax z aH aI rfl dC _ d _ rfl Q.out rfl rfl (by simp [Value.oneCell']) (by unfold maxLen;omega) oM aa ?_;intro aV ac aD X aS aw);have o:=aZ (Below.refl e.heap.size aO) Q.out X aa;have q:=VB.grow an.out o;have E:=lhd q;clear o q X aw;go_roundw
    case rel=>exact ⟨d+1,by omega,by go_num,by rw [ah.out,zAz];exact aD,E.out⟩
    case measure=>simp [intOf];omega
  · obtain rfl:d=f - a:=oM;have aA:¬((a+(f - a):Nat):Int) < (f:Int):=oM;have a3:((g.drop a).take (f - a)).map sv=(((g.drop a).take (f - a)).map fun aK:Nat=>(aK:Int)).map (Value.int .i64):=(by rw [zCh];rfl);rw [a3] at j;obtain ⟨O,S,rfl,I⟩:=aDa e.heap.size _ (f - a) _ wr j (by rw [zBc,zAj,zAw,R.out];omega) oM;have a5:=j;rw [al.out] at I;have a1:∀i,(Value.slice O (f - a) S).ownBlock=some i->e.heap.size<=i:=fun i W=>(a5.lt i W).1;obtain ⟨s,am,af⟩:=hqq3 p I a1;clear j a5 p I a1 az a3;go_wp2_with fail;refine am.out.mono ?_;rintro t ac ⟨rfl,k,Y⟩;have o:Below e.heap.size wr ac:=Y.to_below s.out.1.size (fun i W t=>by have:=af.out i t;omega);have q:=VB.grow s.out o;rw [zCh] at k;obtain ⟨aP,aQ,aq,a2⟩:=aT k;cases aq;obtain ⟨ag,E⟩:=hqq2 a2 q;clear k Y o q a2;go_wp2_with fail;go_ret;exact ⟨O,S,by rw [P.out];rfl,by rw [P.out];exact ag.out,E.out⟩
def TxtAt (e:World) (c d:Nat) (a:List UInt8):Prop:=∃b,IsSuf (aG a) b/\LvW e c d (aE (aG a) b)/\a.length<=127
def TxtAt.vis {d w':World} {a b:Nat} {c:List UInt8} (e:TxtAt d a b c) (j:Vis d w'):TxtAt w' a b c:=by
 obtain ⟨k,f,g,i⟩:=e;exact ⟨k,f,g.vis j,i⟩
def TxtAt.mono {c:World} {B B' a:Nat} {b:List UInt8} (d:TxtAt c B a b) (j:B'<=B):TxtAt c B' a b:=by
 obtain ⟨n,e,⟨gk,k,l,m,f,i⟩,g⟩:=d;exact ⟨n,e,⟨gk,k,l,m,f,i.mono j⟩,g⟩
def TxtAt.le {f:World} {b c:Nat} {a:List UInt8} (d:TxtAt f b c a):a.length<=127:=by
 obtain ⟨j,g,i,e⟩:=d;exact e
def aA4 {a:List UInt8} {b:List Nat} (c:IsSuf (aG a) b):(aE (aG a) b).length=a.length+1:=by rw [bZ,c.len,aM]
def aBq (i j:Nat) (f:List UInt8) (g:Option Addr) (d m c:Nat) (e:List Sl) (b:List UInt8) (t:gX e=b) (a:World) (q:TxtAt a i j f) (w:Rd a c 1 g d (e.map slV)) (x:∀k∈e,Rd a c 1 k.A k.n (k.l.map bv)) (s:c<=a.heap.size) (u:d<=1000000) (v:b.length<=1000000):
 Calls prog 76 #[j,.slice g d m] a fun p y=>p=.returned (.int .i64 ((occ (aG f) (dK b):Nat):Int))/\VB i a y:=by
 obtain ⟨B,o,r,z⟩:=q;have:=zN i j _ f.length g d m c e b b.length t rfl a r (aA4 o) oM (dR (eU f)) w x s u v;rw [aGy o] at this;exact this
def aKu (o:Option Addr) (e d a j S:Nat) (g:List Nat) (b:World) (J:Rd b S 1 o e (g.map sv)) (W:S<=b.heap.size) (aC:e<=d) (w:a<=e) (a5:e<=1000):
 Calls prog 126 #[.slice o e d,(a:Int),(j:Int)] b fun E aa=>∃R V,E=.returned (.slice R (e+1) V)/\Made aa b.heap.size 3 1 R (e+1) V ((g.take a++j::g.drop a).map sv)/\Below b.heap.size b aa:=by
 obtain ⟨N,z,L,C,M⟩:=info_parts fW;have a9:∀b,(sizeOf 3).run prog b=.ok 1 b:=fun b=>by simp [sizeOf,typeInfo,z,C]
 have H:=J.cut_hi0 (cap:=d) w;have I:=J.cut (cap:=d) w aC;rw [zBl,<-List.map_take] at H;rw [zBl,<-List.map_drop] at I;have aO:=vQ (P:=prog) 22 3 1 underlying22 a9 o e d a oM;have O:=pE (P:=prog) 22 3 1 underlying22 a9 o e d a w;obtain ⟨ag,ah,al⟩:=hqq3 H I O;clear H I J O;go_enter func126,ntmps126;go_wp2_with (at_builtin;refine bY _ rfl (.tmp 8) (.tmp 11) _ rfl b.heap.size 3 N (.int .i64 0) 1 8 underlying22 z L C M rfl dC (.slice (some ⟨b.heap.size,0,none⟩) 0 0) 0 [] rfl (nW b 3 1) b.heap.size (fT o d 0 1) a d _ rfl ((ag.out.mono W).alloc nL _) (pI _) (by unfold maxLen;omega) oM (by simp) ?_;intro aP w1 A a0 ay);have G:=aZ ((Below.refl b.heap.size b).alloc nL _) (nW b 3 1) a0 (by simp);rw [zBi,List.nil_append] at A;obtain ⟨k,l,rfl,a3⟩:=aT A;have a2:∀c,(Value.slice k a l).ownBlock=some c->b.heap.size<=c/\c < w1.heap.size:=fun c Y=>a3.own.lt c Y;have a8:=G.size;obtain ⟨ad,aj,T⟩:=hqq3 G A a2;clear A a0 ay G a3 a2;go_wp2_with fail;refine wp_region_any kR ?_;refine cV 7 [13,14,15,16,17,18,19] (fun c=>(Value.slice k a l).ownBlock=some c) 3 [3] (fun t=>t.ownsRow b.heap.size 3 1 (.slice k a l) a ((g.take a).map sv)) (fun Q t=>t.ownsRow b.heap.size 3 1 Q (a+1) ((g.take a).map sv++ [.int .i64 (j:Int)])) [is (.slice k a l),is (j:Int),qS (fun c=>(Value.slice k a l).ownBlock=some c) 3 #[(j:Int)] fun F=>.slice (some ⟨F,0,none⟩) 1 1,dA,is (.slice o e d),is (a:Int),is (.slice (fT o d a 1) (e - a) (d - a))] _ _ rfl dC kR kR kR (aj.out) (fun t aW u _ aB=>aR u aB) (fun _ _ _ av a=>aR av a) tA3 ?_ ?_
 · refine bG ?_;refine pH3 7 (.slice k a l) ?_;refine pH3 2 (.int .i64 (j:Int)) ?_;refine sC3 (fun _ r m _ _ _ _ n _ _ _ q=>?_) ?_
   · replace m:Keep (fun c=>(Value.slice k a l).ownBlock=some c) w1 r:=kD m;have aI:_=_:=n 1 14 kR rfl;go_simp;exact q _ _ (aJ (bR.alloc nL _)) ⟨_,rfl,Bk.new _ _ _,fun u=>by have:=(T.out _ u).2;have:=m.size;omega⟩
   refine sC3 (fun x r m aw _ _ _ n _ _ ax q=>?_) ?_;replace m:Keep (fun c=>(Value.slice k a l).ownBlock=some c) w1 r:=kD m;have aF:=aw rfl;have ao:_=_:=n 0 13 kR rfl;have aH:(qS (fun c=>(Value.slice k a l).ownBlock=some c) 3 #[(j:Int)] fun F=>.slice (some ⟨F,0,none⟩) 1 1) (x (.tmp 15)) r:=n 2 15 kR rfl;obtain ⟨au,ap,aA,aN⟩:=aH;subst ax;have aG:b.heap.size<=r.heap.size:=zAk a8 m.size;refine eT r (.tmp 13) (.tmp 15) _ rfl b.heap.size 3 N (.int .i64 0) 1 8 underlying22 z L C M rfl dC (.slice k a l) a ((g.take a).map sv) ao aF r.heap.size (some ⟨au,0,none⟩) 1 1 [.int .i64 (j:Int)] ap (aD7 aA) (by simp [Value.oneCell']) (by unfold maxLen;omega) oM aG ?_;intro aS s aE v aM;exact q _ _ (aU ⟨v.os,v.tape,v.output,v.size,fun a w a5=>v.block a w (fun E=>a5 E.symm)⟩) aE;refine pH3 0 (.slice o e d) ?_;refine pH3 1 (.int .i64 (a:Int)) ?_;refine sC3 (fun _ _ _ _ _ _ _ n _ _ _ q=>?_) ?_
   · have aK:_=_:=n 4 17 kR rfl;have aL:_=_:=n 5 18 kR rfl;have O:=al.out;go_simp;exact kq q rfl
   exact aD
 · intro x s p m n;replace m:Keep (fun c=>(Value.slice k a l).ownBlock=some c) w1 s:=kD m;have D:(fun Q t=>t.ownsRow b.heap.size 3 1 Q (a+1) ((g.take a).map sv++ [.int .i64 (j:Int)])) (x (.tmp 16)) s:=n 3 16 dC rfl;have ar:x (.tmp 19)=.slice (fT o d a 1) (e - a) (d - a):=n 6 19 dC rfl;simp only [zqq];rw [ar];clear n;obtain ⟨ab,am,aq,_,_⟩:=aQ D;rw [aq] at D⊢;have y:Below b.heap.size b s:=ad.out.trans (m.to_below a8 (fun c Y u=>by have:=(T.out _ u).1;omega));have a7:=(ah.out.mono W).below y;have U:=lhd D;have K:=y.size;obtain ⟨ae,ak⟩:=hqq2 y a7;clear D y a7;change wpAny prog Region.Mode.any _ _ (2+p) (bX 7 9) _ s;rw [show 2+p=p+1+1 by omega];refine bC (f:=p+1) (i:=7) kR ?_;refine bN rfl rfl ?_;refine eT s (.tmp 16) (.tmp 19) _ rfl b.heap.size 3 N (.int .i64 0) 1 8 underlying22 z L C M rfl dC (.slice ab (a+1) am) (a+1) ((g.take a).map sv++ [.int .i64 (j:Int)]) rfl U.out s.heap.size (fT o d a 1) (e - a) (d - a) ((g.drop a).map sv) rfl (ak.out.mono K) (pI _) (by unfold maxLen;omega) oM K ?_;intro aV aX B a1 az;have Z:=aZ ae.out U.out a1 K;have a6:a+1+(e - a)=e+1:=oM;rw [a6] at B;have X:(g.take a).map sv++ [.int .i64 (j:Int)]++(g.drop a).map sv=(g.take a++j::g.drop a).map sv:=(by simp [sv]);rw [X] at B;obtain ⟨ac,an,rfl,a4⟩:=aT B;obtain ⟨ai,af⟩:=hqq2 a4 Z;clear B a1 az Z X a6 a4;refine bC (f:=p) (i:=8) kR ?_;refine bN rfl rfl ?_;generalize q:wpAny prog _ _ _ p _=K5;go_simp;subst q;refine bT kR ?_;go_wp2;go_ret;exact ⟨ac,an,rfl,ai.out,af.out⟩
structure Part (l:List Nat) (x j:Nat) (L:List Nat):Prop where
 perm:L.Perm (List.range' x j)
 sorted:L.Pairwise (sufLt l)
def Part.len {d a:List Nat} {e b:Nat} (c:Part d e b a):a.length=b:=by simpa using c.perm.length_eq
def Part.mem {g c:List Nat} {b d a:Nat} (e:Part g b d c) (f:a∈c):b<=a/\a < b+d:=by
 have:=e.perm.mem_iff.1 f;rw [List.mem_range'_1] at this;exact this
def Part.rel {d a:List Nat} {j i c b:Nat} (e:Part d j i a) (f:c < b) (g:b < a.length):sufLt d (a[c]' oM) a[b]:=zAr.1 e.sorted c b oM g f
def Part.put {d b:List Nat} {e m c:Nat} (j:Part d (e+1) m b) (t:e < d.length) (u:e+1+m<=d.length) (v:c<=b.length) (r:∀a (g:a < b.length),a < c->sufLt d b[a] e) (s:∀a (g:a < b.length),c<=a->¬sufLt d b[a] e):
 Part d e (m+1) (b.take c++e::b.drop c):=by
 constructor;rw [List.range'_succ];refine List.perm_middle.trans (List.Perm.cons e ?_);rw [zAu];exact j.perm;have i:=j.sorted;rw [<-zAu c b,List.pairwise_append] at i;rw [List.pairwise_append];refine ⟨i.1,List.pairwise_cons.2 ⟨fun o f=>?_,i.2.1⟩,fun q p o f=>?_⟩;obtain ⟨a,g,rfl⟩:=zBo.1 f;rw [zAw] at g;rw [List.getElem_drop];have w:=j.mem (zBj (l:=b) (n:=c+a) oM);rcases sufLt.tri t (by omega:b[c+a]' oM < d.length) oM with k | k;exact k;exact absurd k (s (c+a) oM oM);rcases List.mem_cons.1 f with rfl | f;obtain ⟨a,g,rfl⟩:=zBo.1 p;rw [zAj] at g;rw [List.getElem_take];exact r a oM oM;exact i.2.2 q p o f
def uD (i:List UInt8) (e:Nat) (a:World) (g:Ending) (f:World):Prop:=∃b d c,g=.returned (.slice b (e+1) d)/\IsSuf (aG i) c/\Made f a.heap.size 3 1 b (e+1) d (c.map sv)/\Below a.heap.size a f
def uC (i:List UInt8) (b:Nat) (p:World) (A:i.length=b) (aI:b<=900):
 Calls prog 67 #[.string ⟨i.toArray⟩] p (uD i b p):=by
 have aN:(⟨i.toArray⟩:ByteArray).size=b:=(lX i).trans A;have Z:(aG i).length=b+1:=by rw [aM,A]
 obtain ⟨ae,D⟩:=hqq2 A Z;clear A Z;go_enter func67,ntmps67;go_wp2_with fail;go_loopw [3,4] (fun ar L wr=>∃(a:Nat) (d:List Nat) (q:Option Addr) (r:Nat),a<=b+1/\ar=.slice q a r/\L=.int .i64 ((b:Int) -(a:Int))/\Part (aG i) (b+1 - a) a d/\Made wr p.heap.size 3 1 q a r (d.map sv)/\Below p.heap.size p wr) (fun _ L _=>(intOf L+1).toNat)
 case atStart=>exact ⟨0, [],none,0,by omega,rfl,by simp,⟨by simp,List.Pairwise.nil⟩,⟨World.ownsRow_nil _ _ _ _,Rd.nil _ _ _ _,zAs _,by unfold maxLen;omega⟩,Below.refl _ _⟩
 case round=>
  obtain ⟨a,d,q,r,aB,rfl,rfl,m,a3,W⟩:=hrel;obtain ⟨E,v⟩:=hqq2 a3 W;clear a3 W;by_cases ao:a<=b
  · obtain ⟨j,a9⟩:=eqx (b - a);rw [show b+1 - a=j+1 by omega] at m;have J:(b:Int) -(a:Int)=(j:Int):=oM;rw [J];have aJ:(0:Int)<=(j:Int):=oM;have V:=m.len;obtain ⟨w,B,n,ah⟩:=hqq4 m V a9 J;clear m V a9 J;obtain ⟨l,al⟩:∃l,l=wr:=⟨_,rfl⟩;subst al;go_wp2_with fail;go_loopw [5,6] (fun F x wr=>∃c f k:Nat,c<=f/\f<=a/\F=.int .i64 (c:Int)/\x=.int .i64 (f:Int)/\(∀g (o:g < d.length),g < c->sufLt (aG i) d[g] j)/\(∀g (o:g < d.length),f<=g->¬sufLt (aG i) d[g] j)/\wr=l.drewN k) (fun F x _=>(intOf x - intOf F).toNat)
    case atStart=>exact ⟨0,a,0,by omega,by omega,rfl,rfl,fun g o y=>by omega,fun g o y=>by have:=B.out;omega,rfl⟩
    case round=>
        obtain ⟨c,f,k,aD,H,rfl,rfl,T,y,rfl⟩:=hrel;obtain ⟨N,O⟩:=hqq2 T y;clear T y;by_cases an:c < f
        · obtain ⟨e,a0⟩:=eqx ((c+f)/ 2);have aE:(c:Int) < (f:Int):=oM;have aw:IntKind.i64.wrap ((c:Int)+(f:Int))=(c:Int)+(f:Int):=(by rw [IntKind.wrap_i64];omega);have ax:((c:Int)+(f:Int)).tdiv 2=(e:Int):=(by rw [<-a0];exact (Int.ofNat_tdiv (c+f) 2).symm);have ay:IntKind.i64.wrap (e:Int)=(e:Int):=(by rw [IntKind.wrap_i64];omega);have a4:e < a:=oM;have I:e < d.length:=(by rw [B.out];exact a4);obtain ⟨x,aK,aL,ak,aA,a8,z⟩:=(E.out.rd.drewN k).get a4;subst ak;rw [zAf,zAa I] at a8;cases a8;unfold sv at z;have ap:=w.out.mem (zBj I);obtain ⟨au,K⟩:=eqx (d[e]);rw [K] at z ap;have R:=lhd K;have av:=z;clear K z;have aH:c<=e:=oM;have aF:e < f:=oM;clear a0;go_wp2_with fail;refine (aH9 i au j b _ ae.out oM (by have:=n.out;omega) (by have:=n.out;omega) oM).mono ?_;rintro ai ab ⟨aq,rfl,a6,aa,rfl⟩;have Q:=lhd a6;clear a6;cases aq with
          | true=>
            go_wp2_with fail;go_roundw
            case rel=>refine ⟨e+1,f,k+aa,by omega,H,by go_num,rfl,fun g o am=>?_,O.out,rfl⟩;have u:sufLt (aG i) d[e] j:=(by rw [R.out];exact Q.out.1 (by first | rfl | trivial));rcases zBe g e with s | s;exact (w.out.rel s I).trans u;obtain rfl:g=e:=oM;exact u
            case measure=>simp [intOf];omega
          | false=>
            go_wp2_with fail;go_roundw
            case rel=>refine ⟨c,e,k+aa,by omega,by omega,rfl,by go_num,N.out,fun g o am U=>?_,rfl⟩;have u:¬sufLt (aG i) d[e] j:=(by rw [R.out];intro aj;have:=Q.out.2 aj;cases this);rcases zBe e g with s | s;exact u ((w.out.rel s o).trans U);obtain rfl:g=e:=oM;exact u U
            case measure=>simp [intOf];omega
        · obtain rfl:c=f:=oM;have a5:=w.out.put (by rw [D.out];have:=n.out;omega) (by rw [D.out];have:=n.out;omega) (by rw [B.out];exact H) N.out O.out;have af:=lhd a5;have G:Below l.heap.size l (l.drewN k):=below_drewN bR k;have a2:=E.out.below G;obtain ⟨P,C⟩:=hqq2 a2 G;clear a5 a2 G an;go_wp2_with fail;refine (aKu q a r c j (l.drewN k).heap.size d (l.drewN k) P.out.rd nL P.out.cap H oM).mono ?_;rintro ai ab ⟨M,S,rfl,t,X⟩;have Y:=v.out.trans ((C.out.trans (X.mono C.out.size)).mono v.out.size);have a1:Made ab p.heap.size 3 1 M (a+1) S ((d.take c++j::d.drop c).map sv):=⟨cB t.own (zAk v.out.size C.out.size),t.rd,t.cap,t.max⟩;obtain ⟨ac,ad⟩:=hqq2 Y a1;clear Y a1 t X;have az:IntKind.i64.wrap ((j:Int) - 1)=(b:Int) -((a+1:Nat):Int):=(by rw [IntKind.wrap_i64];have:=ah.out;omega);go_wp2_with fail;go_roundw
          case rel=>exact ⟨a+1,_,M,S,by omega,rfl,rfl,by rw [show b+1 -(a+1)=j by have:=n.out;omega];exact af.out,ad.out,ac.out⟩
          case measure=>have:=n.out;simp [intOf];omega
  · obtain rfl:a=b+1:=oM;have aC:¬(0:Int)<=(b:Int) -((b+1:Nat):Int):=oM
    have a7:IsSuf (aG i) d:=⟨by
        have:=m.perm;rw [show b+1 -(b+1)=0 by omega] at this;rw [D.out,List.range_eq_range'];exact this,m.sorted⟩
    have ag:=lhd a7;clear a7 m ao;go_wp2_with fail;go_ret;exact ⟨q,r,d,rfl,ag.out,E.out,v.out⟩
def uF (f:List UInt8) (d:Nat) (a:World) (i:Ending) (g:World):Prop:=∃b c e,i=.returned (.slice b (d+1) c)/\IsSuf (aG f) e/\Made g a.heap.size 3 1 b (d+1) c ((aE (aG f) e).map sv)/\Below a.heap.size a g
def uE (b:List UInt8) (c:Nat) (H:World) (t:b.length=c) (a5:c<=900):
 Calls prog 68 #[.string ⟨b.toArray⟩] H (uF b c H):=by
 obtain ⟨W,O,T,U,V⟩:=info_parts fW;have D:=uC b c H t a5;unfold uD at D;have j:=lhd t;have al:(⟨b.toArray⟩:ByteArray).size=c:=(lX b).trans t;clear t;unfold uF;go_enter func68,ntmps68;go_wp2_with fail;refine D.mono ?_;rintro ae w1 ⟨aa,ac,p,rfl,F,R,z⟩;have E:p.length=c+1:=by rw [F.len,aM,j.out]
 obtain ⟨k,x⟩:=eqx (aE (aG b) p);have M:k.length=c+1:=by rw [<-x,bZ,E]
 obtain ⟨K,a0,J,a1,I,Z⟩:=hqq6 F R z E x M;clear D F R z E x M;go_wp2_with fail;go_loopw [4,5] (fun a7 G wr=>∃a:Nat,a<=c+1/\G=.int .i64 (a:Int)/\wr.ownsRow w1.heap.size 3 1 a7 a ((k.take a).map sv)/\Below w1.heap.size w1 wr) (fun _ G _=>c+1 -(intOf G).toNat)
 case atStart=>exact ⟨0,zAp _,rfl,World.ownsRow_nil _ _ _ _,Below.refl _ _⟩
 case round=>
  obtain ⟨a,ai,rfl,m,f⟩:=hrel;have u:=f.size;by_cases a4:a < c+1
  · have P:a < p.length:=(by rw [a1.out];exact a4);obtain ⟨e,n⟩:∃e,p[a]?=some e:=⟨_,zAa P⟩;have aj:e<=c:=(by have:=K.out.lt (zAd n);rw [aM,j.out] at this;omega);obtain ⟨b1,X,rfl,z,N⟩:=(a0.out.rd.below f).2 oM;have w:wr.cell? ⟨b1,X+a,none⟩=some (.int .i64 (e:Int)):=N a _ (by rw [zAf,n];rfl);have L:k[a]?=some (bK (aG b) e):=(by rw [<-I.out];unfold aE;rw [zAf,n];rfl);have g:k.take (a+1)=k.take a++ [bK (aG b) e]:=(by rw [zAv,L];rfl);obtain ⟨s,q,ab⟩:=hqq3 m f n;clear m f n N L P;rcases e with _ | i
    · have o:bK (aG b) 0=0:=(by rw [bV (by rw [aM];omega),aM,zBb];exact (eH b).last);rw [o] at g;have v:=lhd g;clear g o;have ad:wr.cell? ⟨b1,X+a,none⟩=some (.int .i64 0):=w;clear w;go_wp2_with (at_builtin;refine bO _ rfl (.tmp 19) (.tmp 20) _ rfl w1.heap.size 3 W (.int .i64 0) 1 8 underlying22 O T U V rfl dC _ a _ rfl s.out rfl rfl (by simp [Value.oneCell']) (by unfold maxLen;omega) oM u ?_;intro a8 a9 C l a6 y);have A:=aZ q.out s.out l u;clear l y;go_roundw
      case rel=>exact ⟨a+1,by omega,by go_num,by rw [v.out,zAz];exact C,A⟩
      case measure=>simp [intOf];omega
    · obtain ⟨d,B⟩:∃d,b[i]?=some d:=⟨_,zAa (by rw [j.out];omega)⟩;have o:bK (aG b) (i+1)=d.toNat+1:=(by rw [aX (by rw [aM,j.out];omega)];unfold aG dK;rw [zAb,zAn (by rw [zBc,j.out];omega),zAf,B];rfl);rw [o] at g;have v:=lhd g;have a2:(((i+1:Nat):Int)==0)=false:=(by rw [zCb];omega);have a3:IntKind.i64.wrap (((i+1:Nat):Int) - 1)=(i:Int):=(by rw [IntKind.wrap_i64];omega);have ak:=aDV B;have ah:=d.toNat_lt;have af:IntKind.i64.wrap (d.toNat:Int)=(d.toNat:Int):=(by rw [IntKind.wrap_i64];omega);have ag:wrap64 ((d.toNat:Int)+1)=((d.toNat+1:Nat):Int):=(by rw [dN oM oM];omega);clear g o B;generalize i+1=e at w a2 a3;go_wp2_with (at_builtin;refine bO _ rfl (.tmp 22) (.tmp 32) _ rfl w1.heap.size 3 W (.int .i64 0) 1 8 underlying22 O T U V rfl dC _ a _ rfl s.out rfl rfl (by simp [Value.oneCell']) (by unfold maxLen;omega) oM u ?_;intro a8 a9 C l a6 y);have A:=aZ q.out s.out l u;clear l y;go_roundw
      case rel=>exact ⟨a+1,by omega,by go_num,by rw [v.out,zAz];exact C,A⟩
      case measure=>simp [intOf];omega
  · obtain rfl:a=c+1:=oM;rw [zAg (by rw [Z.out];exact zAs _)] at m;obtain ⟨Y,d,rfl,Q⟩:=aT m;obtain ⟨r,q⟩:=hqq2 Q f;clear m Q f;go_wp2_with fail;go_ret;have S:=J.out.size;exact ⟨Y,d,p,rfl,K.out,by rw [I.out];exact ⟨cB r.out.own S,r.out.rd,r.out.cap,r.out.max⟩,J.out.trans (q.out.mono S)⟩
end
end Go.Proofs.YthldmddkfbijhaaGreatDoor
