/- Lemmas of the walk. Conditions: each its own. -/
import Derived.Test.YthldmddkfbijhaaGreatDoorPst21
import Derived.Test.YthldmddkfbijhaaGreatDoorPst22
import Derived.Test.YthldmddkfbijhaaGreatDoorProg
import Derived.Test.YthldmddkfbijhaaGreatDoorShl
import Derived.Test.YthldmddkfbijhaaGreatDoorSht
import Derived.Test.YthldmddkfbijhaaGreatDoorShi
set_option linter.all false
set_option maxRecDepth 100000
set_option maxHeartbeats 4000000
open Go.Proofs.Tryz
namespace Go.Proofs.YthldmddkfbijhaaGreatDoor
open Go.RowKit
def TpAt (l:World) (e f:Nat) (a:List UInt8) (k:Nat):Prop:=
 ∃d gk j c,IsSuf (aF a) d/\LiveG l e f gk j k (a.length+1) (aE (aF a) d) c/\(∀b∈c,d[b.1]?=some b.2)/\(∃b∈c,b.2=0)/\a.length<=127
theorem TpAt.vis {e w':World} {a b:Nat} {d:List UInt8} {c:Nat} (j:TpAt e a b d c) (n:Vis e w'):TpAt w' a b d c:=by
 obtain ⟨p,gk,f,o,k,l,m⟩:=j;exact ⟨p,gk,f,o,k,l.vis n,m⟩
theorem VB.grow {n:Nat} {m w1 o:World} (b:VB n m w1) (a:Below m.heap.size w1 o):VB n m o:=
 ⟨⟨a.os.trans b.1.os,a.tape.trans b.1.tape,a.output.trans b.1.output,zAk b.1.size a.size,fun d c k=>by
   rcases b.1.block d c k with p |⟨e,l,f,j⟩|⟨e,l,f,j⟩;exact .inl ((a.block d c).trans p);exact .inr (.inl ⟨e,l,f,j.below a c⟩)
   · exact .inr (.inr ⟨e,l,f,j.below a c⟩)⟩,
  ⟨a.os.trans b.2.os,a.tape.trans b.2.tape,a.output.trans b.2.output,zAk b.2.size a.size,fun d c k=>(a.block d c).trans (b.2.block d c k)⟩⟩
theorem TpAt.mono {d:World} {B B' a:Nat} {c:List UInt8} {b:Nat} (f:TpAt d B a c b) (m:B'<=B):TpAt d B' a c b:=by
 obtain ⟨o,gk,e,n,j,k,l⟩:=f;exact ⟨o,gk,e,n,j,k.mono m,l⟩
theorem aA8 (a:World) (c:TypeId) (b:Array Value) (d:Nat×Nat) (e:Nat) (f:b.size=e):Rd (a.alloc (.cells b c d)) (a.heap.size+1) 1 (some ⟨a.heap.size,0,none⟩) e b.toList:=by
 refine ⟨by simp [f],fun _=>⟨_,0,rfl,by omega,fun k l j=>?_⟩⟩;rw [zBi,cell_of_row (a.alloc (.cells b c d)) a.heap.size k b c d (heap_alloc_new a _)];simpa using j
theorem oE (b:World) (a:Array Value) (d c:Nat):(convert 26 26 (.slice (some ⟨b.heap.size,0,none⟩) d c)).run prog (b.alloc (.cells a 5))=.ok (.slice (some ⟨b.heap.size,0,none⟩) d c) (b.alloc (.cells a 5 (a.size,a.size+1))):=
 Lib.run_convert_bytes_const (P:=prog) b 26 5 a d c underlying26 underlying5
theorem vS (b:World) (e:Obj) (a:Array Value) (d c:Nat):(convert 26 26 (.slice (some ⟨b.heap.size+1,0,none⟩) d c)).run prog ((b.alloc e).alloc (.cells a 5))=.ok (.slice (some ⟨b.heap.size+1,0,none⟩) d c) ((b.alloc e).alloc (.cells a 5 (a.size,a.size+1))):=by
 have:=oE (b.alloc e) a d c;rw [World.size_alloc] at this;exact this
def nQ (b:List Nat) (c a:Nat):Array Value:=((b.take a).map sv++List.replicate (c - a) (Value.int .i64 0)).toArray
theorem aEH (b:List Nat) (a:Nat):nQ b a 0=Array.replicate a (Value.int .i64 0):=by
 unfold nQ;apply Array.ext';simp
theorem aGH (a:List Nat) (b:Nat) (c:a.length=b):nQ a b b=(a.map sv).toArray:=by
 unfold nQ;rw [zAg oM,Nat.sub_self];simp
theorem aEI (b:List Nat) (a c:Nat) (d:b.length=a) (e:c<=a):(nQ b a c).size=a:=by
 unfold nQ;simp;omega
theorem aGG {b:List Nat} {c a e:Nat} (k:b.length=c) (d:b[a]?=some e):(nQ b c a).setIfInBounds a (.int .i64 (e:Int))=nQ b c (a+1):=by
 have l:=(zAc.1 d).1;apply Array.ext';unfold nQ;rw [Array.toList_setIfInBounds,zAv,d];have f:c - a=(c -(a+1))+1:=oM;rw [f,List.replicate_succ];have j:((b.take a).map sv).length=a:=by rw [zBc,zAj];omega
 show List.set ((b.take a).map sv++(Value.int .i64 0::List.replicate (c -(a+1)) (Value.int .i64 0))) a _=_;rw [List.set_append_right _ _ oM,j,Nat.sub_self,zAz,zCo];rfl
theorem aEy {c:World} {B g n:Nat} {b:TypeId} {a:List Value} (j:Bk c g b a.toArray) (k:B<=g) (e:a.length=n) (d:n<=maxLen):Made c B b 1 (some ⟨g,0,none⟩) n n a:=by
 have f:c.ownsRow B b 1 (.slice (some ⟨g,0,none⟩) n n) n a:=⟨by omega,.inr ⟨g,n,a.toArray,rfl,k,j,zAs _,d,by simp [e],by rw [zBl,zAg (by simp [e])]⟩⟩;exact ⟨f,Rd.of_own f,zAs _,d⟩
def gU (d:World) (f:Nat) (a:List Nat) (j:Ending) (e:World):Prop:=∃b c,j=.returned (.slice b a.length c)/\Made e d.heap.size 3 1 b a.length c (a.map sv)/\VB f d e
theorem aDb (f j:Nat) (d:List Nat) (b:World) (E:WaveAt b f j d) (F:∀a9∈d,a9 < 257) (K:d.length<=1000):
 Calls prog 124 #[j] b (gU b f d):=by
 have R:=E;obtain ⟨a5,S,q,k,a8⟩:=E;obtain ⟨c,u⟩:=eqx d.length;rw [u] at k;have a4:b.cell? ⟨j,9,none⟩=some (.int .i64 (c:Int)):=(k.cell 9).trans (bI S c q).2.2.2.2.2.2.2.2.2.1;have D:b.cell? ⟨j,10,none⟩=some (.int .i64 q):=(k.cell 10).trans (bI S c q).2.2.2.2.2.2.2.2.2.2;have ag:=k.lt;have a7:=nH c oM;obtain ⟨a3,X,W,e,a0⟩:=hqq5 R k F u K;rw [u] at K;clear R k F u a8;unfold gU;go_enter func124,ntmps124;go_wp2_with fail;have H:Bk (b.alloc (.cells (Array.replicate c (.int .i64 0)) 3)) b.heap.size 3 (nQ d c 0):=by rw [aEH];exact Bk.new _ _ _
 have O:VB f b (b.alloc (.cells (Array.replicate c (.int .i64 0)) 3)):=vR.alloc _;go_loopw [19] (fun i wr=>∃a:Nat,a<=c/\i=.int .i64 (a:Int)/\Bk wr b.heap.size 3 (nQ d c a)/\VB f b wr) (fun i _=>c -(intOf i).toNat)
 case atStart=>exact ⟨0,zAp _,rfl,H,O⟩
 case round=>
  obtain ⟨a,af,rfl,G,x⟩:=hrel;clear H O a7 a4 D;have ah:=x.1.size;obtain ⟨A,s⟩:=hqq2 G x;clear G x;by_cases w:a < c
  · obtain ⟨o,M⟩:∃o,d[a]?=some o:=⟨_,zAa (by rw [e.out];exact w)⟩;have C:=lhd M;clear M;go_wp2_with fail;refine (dX f j d a o wr (a3.out.vis s.out.1) (by rw [e.out];exact w) (zAc.1 C.out).2 W.out a0.out).mono ?_;rintro aa V ⟨rfl,y⟩;have m:=y.1.bk A.out dC dC;have z:=s.out.trans y;have ae:=m.lt;have ac:=m.frozen a;have v:=m.set a (.int .i64 (o:Int));rw [aGG e.out C.out] at v;have a6:∃T,V.cell? ⟨b.heap.size,a,none⟩=some T:=⟨_,(m.cell a).trans (zAq (by rw [aEI d c a e.out oM];exact w))⟩;obtain ⟨T,ai⟩:=a6;have P:VB f b (V.setCell ⟨b.heap.size,a,none⟩ (.int .i64 (o:Int))):=⟨Vis.fresh z.1 (p:=⟨b.heap.size,a,none⟩) nL _,Keep.setCell z.2 (p:=⟨b.heap.size,a,none⟩) (.inr nL) _⟩;obtain ⟨Y,a1⟩:=hqq2 v P;clear m v y z P;go_wp2_with fail;go_roundw
    case rel=>exact ⟨a+1,by omega,by go_num,Y.out,a1.out⟩
    case measure=>simp [intOf];omega
  · obtain rfl:a=c:=oM;have t:=A.out;rw [aGH d a e.out] at t;obtain ⟨U,l⟩:=s.out.1.waveC X.out;have D:wr.cell? ⟨j,10,none⟩=some (.int .i64 U):=(l.cell 10).trans (bI S a U).2.2.2.2.2.2.2.2.2.2;have ab:=l.frozen 10;have ad:=l.lt;have Q:=s.out.trans (VB.set_wave l a5 q);have L:=Bk.ne t l dC;have I:=t.far (p:=⟨j,10,none⟩) L (.int .i64 q);have J:=aEy (B:=b.heap.size) (n:=a) I nL (by rw [zBc];exact e.out) (by unfold maxLen;omega);obtain ⟨Z,a2⟩:=hqq2 J Q;clear t l Q I J L;go_wp2_with fail;go_ret;exact ⟨_,_,by rw [e.out];rfl,by rw [e.out];exact Z.out,a2.out⟩
theorem aDe (d gk:Nat) (a:List Nat) (c:World) (t:WalkAt c d gk a) (v:∀w∈a,w < 257) (k:a.length<=1000):
 Calls prog 66 #[gk] c (gU c d a):=by
 obtain ⟨s,z,e,f,u⟩:=t;have x:=e.cell 0;have b:=aDb d s a c f v k;unfold gU at b⊢;obtain ⟨A,l⟩:=eqx a.length;rw [l] at b⊢;clear e f u l k;go_enter func66,ntmps66;go_wp2_with fail;refine b.mono ?_;rintro y B ⟨n,q,rfl,j,m⟩;obtain ⟨o,p⟩:=hqq2 j m;clear b j m;go_wp2_with fail;go_ret;exact ⟨n,q,rfl,o.out,p.out⟩
theorem mS (d f gk u N w:Nat) (a:List Nat) (p:List (Nat×Nat)) (c:World) (e:LiveG c d f gk u w N a p) (v:∀x∈a,x < 257) (l:a.length<=1000):
 Calls prog 16 #[f] c (gU c d a):=by
 obtain ⟨A,j⟩:=e.blk;have y:=j.cell 0;have b:=aDe d gk a c e.walk v l;clear j;unfold gU at b⊢;obtain ⟨B,m⟩:=eqx a.length;rw [m] at b⊢;clear e m l;go_enter func16,ntmps16;go_wp2_with fail;refine b.mono ?_;rintro z C ⟨o,t,rfl,k,n⟩;obtain ⟨q,s⟩:=hqq2 k n;clear b k n;go_wp2_with fail;go_ret;exact ⟨o,t,rfl,q.out,s.out⟩
theorem jH (f b gk m n e:Nat) (k:List Nat) (j:List (Nat×Nat)) (a:World) (c:LiveG a f b gk m e n k j):
 Calls prog 12 #[b] a fun l o=>l=.returned (.int .i64 (e:Int))/\a=o:=by
 obtain ⟨q,d⟩:=c.blk;have p:=d.cell 2;clear c d;go_enter func12,ntmps12;go_wp2_with fail;go_ret;exact ⟨rfl,rfl⟩
theorem aKc (a:List Nat):a.map sv=(jB a).map iv:=by
 unfold jB;rw [zCh];rfl
def eK (d:World) (f:Nat) (a:List UInt8) (j:Ending) (e:World):Prop:=
 ∃b c,j=.returned (.tuple #[.slice b a.length c,.int .i64 0])/\Made e d.heap.size 5 1 b a.length c (a.map bv)/\VB f d e
theorem jF (o s gk Q b f:Nat) (n:List UInt8) (c:List Nat) (ai:List (Nat×Nat)) (p:World) (B:LiveG p o s gk Q b (n.length+1) (aE (aF n) c) ai) (bM:∀k∈ai,c[k.1]?=some k.2) (x:IsSuf (aF n) c) (bD:n.length<=127) (bK:1<=b) (d0:b<=64) (ct:n.length<=f) (cT:f<=2147483648):
 Calls prog 10 #[s,(f:Int)] p (eK p o (dN (aE (aF n) c) c f b n.length)):=by
 obtain ⟨c2,br,bZ,c0,c1⟩:=info_parts kL;obtain ⟨m,av⟩:=eqx (aE (aF n) c);have H:=dG (rs:=c) (eC n);have V:m.length=n.length+1:=by rw [<-av,bP,x.len,aL]
 have aN:∀d w1,VB o p w1->d*b<=n.length->Calls prog 40 #[s,.int .i64 ((d*b:Nat):Int)] w1 fun e cJ=>e=.returned (.int .i64 ((c.idxOf (d*b):Nat):Int))/\VB o w1 cJ:=fun d w1 y bt=>by have cv:d*b∈c:=x.mem (by rw [aL];omega);exact fO o s gk Q b n c ai (c.idxOf (d*b)) (d*b) w1 (B.vis y.1) bM x bD (zAc.2 ⟨List.idxOf_lt_length_iff.2 cv,List.getElem_idxOf _⟩)
 rw [av] at B H⊢;obtain ⟨N,bj⟩:=eqx n.length;have bs:∀k,c.idxOf k<=128:=fun k=>by have:=List.idxOf_le_length (a:=k) (l:=c);rw [x.len,aL] at this;omega
 have a6:=mS o s gk Q (n.length+1) b m _ p B H oM;unfold gU at a6;rw [bj] at V aN ct bD⊢;rw [V] at a6;have bu:=B.lvw;have bI:=aEE H;have bp:=qF m;rw [V] at bp;obtain ⟨a0,ce,cj,cK,am,ci,cb⟩:=hqq7 B bu aN H V bI bs;have cG:¬f < N:=oM;have da:decide (f < N)=false:=zBy cG;have cH:¬((f:Int) > 2147483648):=oM;have db:decide ((f:Int) > 2147483648)=false:=zBy cH;have d8:0 < p.heap.size:=Nat.lt_of_le_of_lt (zAp _) B.lt;clear bM B bu aN H V bI av x bj bs;unfold eK;go_enter func10,ntmps10;go_wp2_with fail;refine (bQ o s _ N p ce.out am.out oM).mono ?_;rintro e w1 ⟨rfl,rfl⟩;go_wp2_with fail;refine a6.mono ?_;clear a6;rintro e w1 ⟨c6,ck,rfl,bw,bT⟩;have aO:=aE6 c6 (N+1) ck w1.heap.size (jB m) w1 (by rw [<-aKc];exact bw.rd) nL oM;rw [ci.out] at aO;have ap:=lhd bT;clear bw bT;go_wp2_with fail;refine aO.mono ?_;clear aO;rintro e z ⟨cA,bk⟩;obtain ⟨cL,aR,bi,T,rfl,aC⟩:=cA.resolve_right (fun ⟨cx,_⟩=>by cases cx);injection T with T;obtain ⟨ab,U⟩:=eqx ((fW m).length);rw [<-T,U] at aC;rw [<-T,U];rw [U] at bp;have bU:VB o p z:=ap.out.below bk;have M:=lhd bU;have b8:=lhd (aC.mono (B':=p.heap.size) ap.out.1.size);have cc:=lhd U;clear bk T aC U bU ap;go_wp2_with fail;go_loopw [8,9] (fun cI i wr=>∃d q:Nat,d<=N / b+1/\i=.int .i64 ((d*b:Nat):Int)/\wr.ownsRow z.heap.size 5 1 cI q ((aA3 c b d).map bv)/\VB o z wr) (fun _ i _=>(N+65 -(intOf i).toNat))
 case atStart=>exact ⟨0,0,zAp _,by simp,World.ownsRow_nil _ _ _ _,VisK.refl _ _⟩
 case round=>
  obtain ⟨d,q,bt,rfl,I,y⟩:=hrel;have cY:q<=1500:=by have co:=I.1;have cM:=rA c b d;have cN:N / b<=N:=Nat.div_le_self _ _;simp at co;omega
  obtain ⟨Z,aJ⟩:=eqx (d*b);have X:=M.out.trans y;have a7:=bQ o s _ N wr (a0.out.vis X.1).lvw am.out oM;have d5:=X.1.size;have d6:=y.1.size;by_cases H:Z<=N
  · have a9:=cj.out d wr X oM;have aI:=tA c b d;obtain ⟨k,aP⟩:=eqx (c.idxOf (d*b));have d9:k<=128:=(by rw [<-aP];exact cb.out _);have cw:=aKz bK (by omega:d*b<=N);have cz:(d+1)*b=Z+b:=(by rw [Nat.add_mul,aJ,Nat.one_mul]);rw [aP] at a9 aI;rw [aJ] at a9;rw [aJ];obtain ⟨ac,aB⟩:=eqx ((cB k).length);have cS:ac<=11:=(by rw [<-aB];exact dH k);have cX:Z<=127:=oM;obtain ⟨cg,cd,w,L⟩:=hqq4 aI aB y I;clear aI aB y I X aP;go_wp2_with fail;refine a7.mono ?_;clear a7;rintro e J ⟨rfl,rfl⟩;go_wp2_with fail;refine a9.mono ?_;clear a9;rintro e J ⟨rfl,aa⟩;have bG:=aa.1.own L.out dC dC;have be:=lhd bG;have bX:=w.out.trans aa;have d7:=aa.1.size;have bg:=lhd bX;clear bG aa bX L w;go_wp2_with fail;refine (yR _ _ _ _ [k] _ (cB k) ac (qG k) cd.out (Rd.made _ _ 1 1 _ rfl) nL (by simp;omega) oM).mono ?_;rintro e j ⟨K,P,rfl,W,R⟩;have t:=((Below.refl J.heap.size J).alloc nL (.cells #[.int .u64 (k:Int)] 72)).trans (R.mono (by simp));have C:j.ownsRow z.heap.size 5 1 u8 q ((aA3 c b d).map bv):=aS (be.out) t;have bO:=t.size;obtain ⟨a1,ao⟩:=hqq2 W.rd (mB (cB k));have bV:=bg.out.below t;have bR:z.heap.size<=j.heap.size:=oM;have O:=lhd bV;clear W R t be bg bV;go_wp2_with (at_builtin;refine bY _ rfl (.tmp 41) (.tmp 47) _ rfl z.heap.size 5 c2 (.int .u8 0) 1 1 underlying26 br bZ c0 c1 rfl dC u8 q _ rfl C j.heap.size K ac P _ rfl a1.out ao.out (by unfold maxLen;omega) oM bR ?_;intro de aQ bH bq cq);have u:=aX (Below.refl z.heap.size j) C bq bR;have bW:=VB.grow O.out u;obtain ⟨bh,ch⟩:=hqq2 bW bH;clear C bH bq cq u bW O;have bL:=jH o s gk Q _ b m _ aQ (a0.out.vis (M.out.trans bh.out).1);go_wp2_with fail;refine bL.mono ?_;clear bL;rintro e c4 ⟨rfl,rfl⟩;have cP:IntKind.i64.wrap ((Z:Int)+(b:Int))=((Z+b:Nat):Int):=(by rw [IntKind.wrap_i64];omega);go_wp2_with fail;go_roundw
    case rel=>
        refine ⟨d+1,q+ac,cw,?_,?_,bh.out⟩
        · rw [cz]
          first | rfl | exact dD oM
        rw [cg.out,zAz];exact ch.out
    case measure=>simp [intOf];omega
  · go_wp2_with fail;refine a7.mono ?_;clear a7;rintro e J ⟨rfl,rfl⟩;have cs:=aKC bK bt oM;subst cs;rw [<-uX] at I;obtain ⟨L,w⟩:=hqq2 I y;clear I y X;go_wp2_with fail;refine (jH o s gk Q _ b m _ wr (a0.out.vis (M.out.trans w.out).1)).mono ?_;rintro e J ⟨rfl,rfl⟩;go_wp2_with fail;refine (bQ o s _ N wr (a0.out.vis (M.out.trans w.out).1).lvw am.out oM).mono ?_;rintro e J ⟨rfl,rfl⟩;go_wp2_with fail;obtain ⟨Y,aA⟩:=eqx ((dP [f,b,N]).length);have cR:Y<=33:=(by rw [<-aA];have:=xK [f,b,N];simpa using this);have b7:=lhd aA;clear aA;refine (yR _ _ _ _ [f,b,N] _ (dP [f,b,N]) Y rfl b7.out (Rd.made _ _ 1 3 _ rfl) nL (by simp;omega) oM).mono ?_;rintro e j ⟨K,P,rfl,W,R⟩;have t:=((Below.refl wr.heap.size wr).alloc nL (.cells #[.int .u64 (f:Int),.int .u64 (b:Int),.int .u64 (N:Int)] 72)).trans (R.mono (by simp));have bO:=t.size;have C:j.ownsRow z.heap.size 5 1 u8 q ((vZ c b N).map bv):=aS (L.out) t;have bF:j.ownsRow p.heap.size 5 1 (.slice aR ab bi) ab ((fW m).map bv):=aS (w.out.1.own b8.out.own dC dC) t;obtain ⟨c9,cn,rfl,bz⟩:=aU C;obtain ⟨b9,bf,a1,O⟩:=hqq4 bz.rd (Rd.of_own bF) W.rd ((M.out.trans w.out).below t);have bJ:(vZ c b N).length=q:=(by have:=C.1;simpa using this);clear W R t C bF bz L b8 w;have cF:=oE j;go_wp2_with fail;have a8:=aA8 j 5 #[.int .u8 83,.int .u8 75,.int .u8 82,.int .u8 49] (4,5) 4 rfl;obtain ⟨E,a5⟩:=eqx j.heap.size;rw [a5] at a8;have u:Below j.heap.size j (j.alloc (.cells #[.int .u8 83,.int .u8 75,.int .u8 82,.int .u8 49] 5 (4,5))):=(Below.refl j.heap.size j).alloc nL _;have cD:(j.alloc (.cells #[.int .u8 83,.int .u8 75,.int .u8 82,.int .u8 49] 5 (4,5))).heap.size=E+1:=(by simp [a5]);have a2:=bf.out.below u;have a3:=b9.out.below u;have a4:=a1.out.below u;have aw:=O.out.below u;rw [a5] at a2 a3 a4 u bO⊢;generalize j.alloc (.cells #[.int .u8 83,.int .u8 75,.int .u8 82,.int .u8 49] 5 (4,5))=aQ at a8 u cD a2 a3 a4 aw⊢;obtain ⟨bb,aT,aV,aY,b5⟩:=hqq5 a8 a2 a3 a4 aw;clear a8 a2 a3 a4 aw u bf b9 a1 O a5 cF;have cO:N / b<=N:=Nat.div_le_self _ _;have cC:=rA c b (N / b+1);rw [<-uX,bJ] at cC;have cZ:q<=2000:=oM;obtain ⟨ad,aD⟩:=eqx ((dU (fW m)).length);obtain ⟨ae,aG⟩:=eqx ((dU (vZ c b N)).length);have cU:ad<=3000:=(by rw [<-aD,jL,cc.out];have:=dH ab;omega);have cV:ae<=3000:=(by rw [<-aG,jL,bJ];have:=dH q;omega);have aK:=sJ aR ab bi E (fW m) aQ aT.out oM oM;rw [aD] at aK;refine aK.mono ?_;clear aK;rintro e c4 ⟨af,aq,rfl,bA,F⟩;have d1:=F.size;obtain ⟨bc,aW,aZ,b1,b6⟩:=hqq5 (bb.out.below (F.mono oM)) (aV.out.below (F.mono oM)) (aY.out.below (F.mono oM)) bA.rd (b5.out.below F);clear F bA bb aT aV aY b5;go_wp2_with fail;have aM:=sJ c9 q cn E (vZ c b N) c4 aW.out oM oM;rw [aG] at aM;refine aM.mono ?_;clear aM;rintro e v ⟨ag,ar,rfl,bB,G⟩;have d2:=G.size;obtain ⟨bd,b0,b2,b3,aj⟩:=hqq5 (bc.out.below (G.mono oM)) (aZ.out.below (G.mono oM)) (b1.out.below G) bB.rd (b6.out.below G);clear G bB bc aW aZ b1 b6;go_wp2_with fail;obtain ⟨A,az⟩:=eqx (pK m c f b N);obtain ⟨D,aH⟩:=eqx A.length;have cW:D<=10000:=by rw [<-aH,<-az];unfold pK;rw [zAi,zAi,zAi,b7.out,aD,aG];have:gP.length=4:=rfl;omega
    have bo:=mU (some ⟨v.heap.size,0,none⟩) 4 4 (v.heap.size+1) [⟨some ⟨E,0,none⟩,4,4,gP⟩,⟨K,Y,P,dP [f,b,N]⟩,⟨af,ad,aq,dU (fW m)⟩,⟨ag,ae,ar,dU (vZ c b N)⟩] A D (by rw [<-az];unfold pK;simp [gG]) aH (v.alloc (.cells #[.slice (some ⟨E,0,none⟩) 4 4,.slice K Y P,.slice af ad aq,.slice ag ae ar] 26)) ((Rd.made v _ 1 4 _ rfl).mono (by simp)) (by
        intro dc x;simp at x;rcases x with rfl | rfl | rfl | rfl;exact ((bd.out.mono (B':=v.heap.size) oM).alloc nL _).mono oM;exact ((b0.out.mono (B':=v.heap.size) oM).alloc nL _).mono oM;exact ((b2.out.mono (B':=v.heap.size) oM).alloc nL _).mono oM
        · exact (b3.out.alloc nL _).mono oM) (by simp) oM oM
    refine bo.mono ?_;clear bo;rintro e c5 ⟨ah,au,rfl,bC,bm⟩;have bl:=((Below.refl v.heap.size v).alloc nL (.cells #[.slice (some ⟨E,0,none⟩) 4 4,.slice K Y P,.slice af ad aq,.slice ag ae ar] 26)).trans (bm.mono (by simp));have ak:=lhd (aj.out.below bl);have d3:=ak.out.1.size;have an:=lhd (bC.mono (B':=p.heap.size) (by simp;have:=aj.out.1.size;omega));clear bC bm bl aj bd b0 b2 b3;go_wp2_with fail;refine (pE ah _ D au _ A _ ((an.out.rd.alloc oM _).mono (by simp)) oM (Rd.made _ _ 1 1 _ rfl)).mono ?_;rintro e dg ⟨rfl,bn⟩;have ay:=((Below.refl c5.heap.size c5).alloc nL (.cells #[.slice ah D au] 26)).trans (bn.mono (by simp));obtain ⟨ba,al⟩:=hqq2 (an.out.below ay) (ak.out.below ay);have d4:=al.out.1.size;clear bn ay an ak;go_wp2_with fail;refine (aAS (mI A) _).mono ?_;rintro e c3 ⟨c7,cl,rfl,bx,ax⟩;obtain ⟨cf,b4⟩:=hqq2 (ba.out.below ax) (al.out.below ax);have bN:=b4.out.1.size;have ca:=lhd bx.rd;have bE:=cf.out.own;have ao:=lhd (mB (rW (mI A)));clear bx ax ba al;go_wp2_with (at_builtin;refine bY _ rfl (.tmp 68) (.tmp 72) _ rfl p.heap.size 5 c2 (.int .u8 0) 1 1 underlying26 br bZ c0 c1 rfl dC (.slice ah D au) D _ rfl bE c3.heap.size c7 4 cl _ rfl ca.out ao.out (by unfold maxLen;omega) oM bN ?_;intro dd df cy cr cQ);have cp:=VB.grow b4.out (aX (Below.refl p.heap.size c3) bE cr bN);obtain ⟨c8,cm,rfl,cu⟩:=aU cy;go_ret2;have bS:dN m c f b N=A++rW (mI A):=(by unfold dN;rw [az]);have cE:(dN m c f b N).length=D+4:=(by rw [bS,zAi,aH,rV]);rw [cE,bS,zAz];exact ⟨c8,cm,rfl,cu,cp⟩
def tO (d:World) (f:Nat) (l:List UInt8) (j a:Nat) (k:Ending) (e:World):Prop:=
 ∃b c,k=.returned (.tuple #[.slice b a c,.int .i64 0])/\Made e d.heap.size 5 1 b a c (((l.drop j).take a).map bv)/\VB f d e
theorem aAP (k w aW:Nat) (d:List UInt8) (c y:Nat) (l:World) (B:TpAt l k w d aW) (a4:TabW l) (ax:1 < k) (bs:c+y<=d.length):
 Calls prog 75 #[w,(c:Int),(y:Int)] l (tO l k d c y):=by
 obtain ⟨bA,bo,ah,bx,bz⟩:=info_parts qO;obtain ⟨t,gk,bi,bM,L,J,aP,ah,aI⟩:=B;have aA:t.length=d.length+1:=by rw [L.len,aL]
 have a2:(aE (aF d) t).length=d.length+1:=by rw [bP,aA]
 have X:∀s,s<=d.length->∃D,t[D]?=some s:=fun s aN=>by obtain ⟨D,bp,m⟩:=L.row (p:=s) (by rw [aL];omega);exact ⟨D,zAc.2 ⟨bp,m⟩⟩
 have aM:∀(i D s:Nat) (j:UInt8),t[i]?=some (s+1)->t[D]?=some s->d[s]?=some j->(aE (aF d) t)[i]?=some (j.toNat+1)/\cH (aE (aF d) t) (j.toNat+1) i=D:=fun i D s j a0 a1 T=>aIc L a0 a1 T;obtain ⟨i,aa⟩:=X c oM;have aO:=fO k w gk bi aW d t bM i c l J aP L aI aa;obtain ⟨c7,a7⟩:=J.blk;clear aP ah;obtain ⟨N,a3⟩:=eqx d.length;rw [a3] at a2 X bs aI;have c5:1 < l.heap.size:=a4.pos;have c1:=a7.lt;have bC:decide ((c:Int) < 0)=false:=by simp
 have bD:decide ((y:Int) < 0)=false:=by simp
 have aS:¬N < c:=oM;have bF:decide (N < c)=false:=zBy aS;obtain ⟨Z,bn⟩:=eqx (N - c);have bH:IntKind.i64.wrap ((N:Int) -(c:Int))=(Z:Int):=by rw [IntKind.wrap_i64];omega
 have aT:¬Z < y:=oM;have bI:decide (Z < y)=false:=zBy aT;obtain ⟨an,au,al,b8,b5,Q⟩:=hqq6 J.lvw J.walk a7 X aM a2;have aj:=lhd (dG (eC d) (rs:=t));obtain ⟨b0,ak,aY⟩:=hqq3 aa a4 a3;clear a7 J X aM a2 aa a4 L aA a3 bn;unfold tO;go_enter func75,ntmps75;go_wp2_with fail;refine (bQ k w _ N l an.out Q.out oM).mono ?_;rintro m w1 ⟨rfl,rfl⟩;go_wp2_with fail;refine (bQ k w _ N l an.out Q.out oM).mono ?_;rintro m w1 ⟨rfl,rfl⟩;go_wp2_with fail;refine aO.mono ?_;rintro m o ⟨rfl,aQ⟩;have bb:=lhd aQ;clear aO aQ bC bD aS bF bH aT bI;go_wp2_with fail;go_loopw [8,9,40] (fun bN v i wr=>∃a row:Nat,a<=y/\i=.int .i64 (a:Int)/\v=.int .i64 (row:Int)/\t[row]?=some (c+a)/\wr.ownsRow l.heap.size 5 1 bN a (((d.drop c).take a).map bv)/\VB k l wr) (fun _ _ i _=>y -(intOf i).toNat)
 case atStart=>exact ⟨0,i,zAp _,rfl,rfl,b0.out,World.ownsRow_nil _ _ _ _,bb.out⟩
 case round=>
  obtain ⟨a,row,V,rfl,rfl,ac,W,C⟩:=hrel;by_cases c2:a < y
  · obtain ⟨j,a9⟩:∃j,d[c+a]?=some j:=⟨_,zAa (by rw [aY.out];omega)⟩;obtain ⟨G,ad⟩:=b8.out (c+a+1) oM;obtain ⟨ae,af⟩:=b5.out G row (c+a) j ad ac a9;obtain ⟨O,ag⟩:∃O,O=j.toNat+1:=⟨_,rfl⟩;rw [<-ag] at ae af;have aJ:((d.drop c).take (a+1)).map bv=((d.drop c).take a).map bv++ [bv j]:=(by rw [zAv,zBt,a9,zAz];rfl);have a6:=C.1.bk al.out dC dC;have bd:=a6.cell 0;have bB:=a6.lt;have c4:=C.1.size;have aR:=au.out.vis C.1;obtain ⟨av,ba,ap,aq,ao,ar,b3,b9⟩:=hqq8 aR ag ae af W C aJ ad;clear ad ae af W C aJ a6 aR ac a9 ag;go_wp2_with fail;refine (pM k gk _ G row O wr av.out ap.out aq.out aj.out (by rw [Q.out];omega)).mono ?_;rintro m bS ⟨rfl,a5⟩;go_wp2_with fail;refine (uG j O ba.out bS).mono ?_;rintro m A ⟨rfl,az⟩;have E:Below wr.heap.size wr A:=a5.trans (az.mono a5.size);have K:=(VisK.of_below (F:=fun b=>k<=b) E).1.own ao.out dC dC;have Y:=ar.out.below E;have a8:=Y.1.bk al.out dC dC;have aC:∀b,u8.ownBlock=some b->b < A.heap.size:=fun b I=>(K.lt b I).2;have aB:∀b,u8.ownBlock=some b->l.heap.size<=b:=fun b I=>(K.lt b I).1;have aK:¬u8.ownBlock=some w:=fun m=>bE K a8 dC m.symm;have bt:=Y.1.size;obtain ⟨b6,R,aZ,b1,am,b4⟩:=hqq6 K Y a8 aC aB aK;clear a5 az E K Y a8 aC aB aK bd bB ao ar av;go_wp2_with fail;refine wp_region_any kR ?_;refine cA k 10 [52,53,54,55,56,57,58,59,60,61] (fun b=>u8.ownBlock=some b) 3 [3] (fun o=>o.ownsRow l.heap.size 5 1 u8 a (((d.drop c).take a).map bv)) (fun v o=>o.ownsRow l.heap.size 5 1 v (a+1) (((d.drop c).take a).map bv++ [bv j])) [is (u8),is (bv j),fun v o=>∃g,v=.slice (some ⟨g,0,none⟩) 1 1/\Bk o g 5 #[bv j]/\u8.ownBlock≠some g,cX,is w,is w,is w,is gk,is (row:Int),is (G:Int)] _ _ rfl dC kR kR kR (b6.out) (fun w1 o B _ a=>a.1.own B dC dC) (fun _ _ _ B a=>a.1.own B dC dC) (by repeat' (first | exact iI _ _ | exact jS _ | exact fun _ _ _ ⟨g,a0,a1,T⟩ a=>⟨g,a0,a.1.bk a1 dC dC T,T⟩|(refine zAe.2 ⟨?_,?_⟩)|(intro s aN;cases aN))) ?_ ?_
    · refine bJ ?_;refine pH3 8 (u8) ?_;refine pH3 10 (bv j) ?_;refine sC3 (fun _ u e _ _ _ _ n _ _ _ q=>?_) ?_
      · replace e:VFB k (fun b=>u8.ownBlock=some b) A u:=fD e;have aw:_=_:=n 1 53 kR rfl;go_simp;exact q _ _ (aH (vR.alloc _)) ⟨_,rfl,Bk.new _ _ _,fun B=>by have:=(b1.out _ B);have:=e.1.size;omega⟩
      refine sC3 (fun H u e bj _ _ _ n _ _ bl q=>?_) ?_
      · replace e:VFB k (fun b=>u8.ownBlock=some b) A u:=fD e;have br:=bj rfl;have bf:_=_:=n 0 52 kR rfl;have bK:(fun v o=>∃g,v=.slice (some ⟨g,0,none⟩) 1 1/\Bk o g 5 #[bv j]/\u8.ownBlock≠some g) (H (.tmp 54)) u:=n 2 54 kR rfl;obtain ⟨bh,aw,bm,c3⟩:=bK;subst bl;have bw:=e.1.size;refine eR u (.tmp 52) (.tmp 54) _ rfl l.heap.size 5 bA (.int .u8 0) 1 1 underlying26 bo ah bx bz rfl dC u8 a _ bf br u.heap.size (some ⟨bh,0,none⟩) 1 1 [bv j] aw (aEh bm) (by simp [Value.oneCell',bv]) (by unfold maxLen;omega) oM (zAk bt bw) ?_;intro bO P bq x c0;refine q _ _ (jQ ⟨VisF.of_keep ⟨x.os,x.tape,x.output,x.size,fun a V ab=>x.block a V (fun m=>ab m.symm)⟩,⟨x.os,x.tape,x.output,x.size,fun a V ab=>x.block a V (fun m=>ab (.inl m.symm))⟩⟩) bq
      refine pH3 0 (.pointer (some ⟨w,0,none⟩)) ?_;refine pV3 4 56 ?_;refine pV3 5 57 ?_;refine sC3 (fun _ u e _ _ _ _ n _ _ _ q=>?_) ?_
      · replace e:VFB k (fun b=>u8.ownBlock=some b) A u:=fD e;have bU:_=_:=n 6 58 kR rfl;have E:=e.1.bk aZ.out dC dC b4.out;have bT:=E.cell 0;have c6:=E.lt;go_simp;exact q _ _ (aH vR) rfl
      refine pH3 9 (.int .i64 (row:Int)) ?_;refine sC3 (fun _ u e _ _ U _ n _ _ _ q=>?_) ?_
      · replace e:VFB k (fun b=>u8.ownBlock=some b) A u:=fD e;have bY:_=_:=n 7 59 kR rfl;have bZ:_=_:=n 8 60 kR rfl;go_simp;have M:=(VFB.trans (VFB.of_vb R.out) e).to_vb (fun b I U=>by have:=(am.out b U);omega);refine (qK k gk _ G row O u (au.out.vis M.1) ap.out aq.out aj.out (by rw [Q.out];omega) (ak.out.vb M ax ak.out.pos) ax).mono ?_;rintro m c8 ⟨rfl,bu⟩;exact q _ _ (aH bu) rfl
      exact aD
    · intro H P z e n ay;replace e:VFB k (fun b=>u8.ownBlock=some b) A P:=fD e;have ai:(fun v o=>o.ownsRow l.heap.size 5 1 v (a+1) (((d.drop c).take a).map bv++ [bv j])) (H (.tmp 55)) P:=n 3 55 dC rfl;have bg:H (.tmp 61)=.int .i64 (G:Int):=n 9 61 dC rfl;obtain ⟨bR,aV⟩:=ay 3 dC;have bL:(fun v o=>o.ownsRow l.heap.size 5 1 v (a+1) (((d.drop c).take a).map bv++ [bv j])) bR P:=aV;clear aV ay;simp only [zqq];rw [bg];clear n;have M:=(VFB.trans (VFB.of_vb R.out) e).to_vb (fun b I U=>by have:=(am.out b U);omega);change wpAny prog Region.Mode.any _ _ (2+z) (bX 10 12) _ P;rw [show 2+z=z+1+1 by omega];generalize H (.tmp 55)=bO at ai⊢;obtain ⟨b7,bc⟩:=hqq2 ai M;clear ai M e bL;refine bG (f:=z+1) (i:=10) kR ?_;refine bV rfl rfl ?_;generalize q:wpAny prog _ _ _ (z+1) _=K5;go_simp;subst q;refine bG (f:=z) (i:=11) kR ?_;refine bV rfl rfl ?_;generalize q:wpAny prog _ _ _ z _=K5;go_simp;subst q;refine bW kR ?_;go_wp2_with fail;go_roundw
      case rel=>exact ⟨a+1,G,by omega,by go_num,by first | rfl | trivial,b9.out,by rw [b3.out];exact b7.out,bc.out⟩
      case measure=>simp [intOf];omega
  · obtain rfl:a=y:=oM;obtain ⟨aX,be,rfl,aG⟩:=aU W;obtain ⟨b2,R⟩:=hqq2 aG C;clear W aG C ac;go_wp2_with fail;go_ret2;exact ⟨aX,be,rfl,b2.out,R.out⟩
def TxtAt (e:World) (c d:Nat) (a:List UInt8):Prop:=∃b,IsSuf (aF a) b/\LvW e c d (aE (aF a) b)/\a.length<=127
theorem TxtAt.vis {d w':World} {a b:Nat} {c:List UInt8} (e:TxtAt d a b c) (l:Vis d w'):TxtAt w' a b c:=by
 obtain ⟨m,f,j,k⟩:=e;exact ⟨m,f,j.vis l,k⟩
theorem TxtAt.mono {c:World} {B B' a:Nat} {b:List UInt8} (d:TxtAt c B a b) (l:B'<=B):TxtAt c B' a b:=by
 obtain ⟨p,e,⟨gk,m,n,o,f,k⟩,j⟩:=d;exact ⟨p,e,⟨gk,m,n,o,f,k.mono l⟩,j⟩
theorem TxtAt.le {f:World} {b c:Nat} {a:List UInt8} (d:TxtAt f b c a):a.length<=127:=by
 obtain ⟨l,j,k,e⟩:=d;exact e
def aAR (S:Nat->Prop) (i g:Nat):Prop:=(i=0/\g=0)∨∃a,S a/\a < i/\g+a+1=i/\∀b,a < b->b < i->¬S b
section
variable {S : Nat -> Prop} {r N i g : Nat}
theorem aJQ (a:S i):aAR S (i+1) 0:=.inr ⟨i,a,by omega,by omega,fun d b c=>by omega⟩
theorem aKI (d:S 0) (a:¬S i) (j:aAR S i g):aAR S (i+1) (g+1):=by
 rcases j with ⟨rfl,rfl⟩|⟨l,e,m,n,f⟩;exact absurd d a;refine .inr ⟨l,e,by omega,by omega,fun b k o=>?_⟩;by_cases c:b=i;rw [c];exact a;exact f b k oM
theorem aKJ (e:pS S r N) (p:1<=r) (a:aAR S (i+1) g) (o:i<=N):g < r:=by
 rcases a with ⟨a,_⟩|⟨k,c,m,n,d⟩;omega;by_cases b:g < r;exact b;obtain ⟨l,f,j,q⟩:=e k c oM;exact absurd f (d l j oM)
end
def mkB (b:List (Nat×Nat)) (a i:Nat):Bool:=decide (∃c∈b.take a,c.2=i)
def mkV (c:List (Nat×Nat)) (b a:Nat):Array Value:=((List.range b).map fun i=>Value.bool (mkB c a i)).toArray
theorem aIl (c:List (Nat×Nat)) (b:Nat):mkV c b 0=Array.replicate b (.bool false):=by
 apply Array.ext';unfold mkV;rw [Array.toList_replicate];refine List.ext_getElem? fun i=>?_;rw [zAf,List.getElem?_replicate];by_cases a:i < b
 · rw [zBx a,zCk a];simp [mkB]
 rw [zBw a,List.getElem?_eq_none_iff.2 (by rw [zCi];omega)];rfl
theorem rN (c:List (Nat×Nat)) (a b:Nat):(mkV c a b).size=a:=by simp [mkV]
theorem mC (c:List (Nat×Nat)) (a:Nat) {b i:Nat} (d:i < b):(mkV c b a)[i]?=some (.bool (mkB c a i)):=by
 unfold mkV;rw [zCw,zAf,zCk d];rfl
theorem aFB {b:List (Nat×Nat)} {j a:Nat} {f:Nat×Nat} (m:b[a]?=some f):(mkV b j a).setIfInBounds f.2 (.bool true)=mkV b j (a+1):=by
 apply Array.ext_getElem?;intro i;rw [zCd];by_cases l:i < j
 · rw [mC b (a+1) l,mC b a l,rN];have c:mkB b (a+1) i=(mkB b a i||decide (f.2=i)):=(by unfold mkB;rw [Bool.eq_iff_iff,Bool.or_eq_true,zCa,zCa,zCa,zAv,m];constructor;rintro ⟨k,e,c⟩;rcases zCp.1 e with e | e;exact .inl ⟨k,e,c⟩;have:k=f:=(by simpa using e);subst this;exact .inr c;rintro (⟨k,e,c⟩| c);exact ⟨k,zCp.2 (.inl e),c⟩;exact ⟨f,zCp.2 (.inr (by simp)),c⟩);rw [c];by_cases d:f.2=i
   · rw [zBx d,zBx oM];simp [d]
   · rw [zBw d];simp [d]
 · have n:(mkV b j a)[i]?=none:=Array.getElem?_eq_none (by rw [rN];omega);have o:(mkV b j (a+1))[i]?=none:=Array.getElem?_eq_none (by rw [rN];omega);rw [n,o,rN];by_cases d:f.2=i
   · rw [zBx d,zBw oM]
   · rw [zBw d]
theorem aJJ (a:List (Nat×Nat)) (i:Nat):mkB a a.length i=true↔Smp a i:=by
 unfold mkB Smp;rw [List.take_length,zCa]
theorem aGj (a:Nat) (l:a<=1000000) (b:World):(Instr.makeSlice 175 (.int .i64 (a:Int)) (.int .i64 (a:Int))).run prog b=.ok (.slice (some ⟨b.heap.size,0,none⟩) a a) (b.alloc (.cells (Array.replicate a (.bool false)) 4)):=by
 obtain ⟨k,d,e,f,j⟩:=info_parts oZ;have:=run_make (P:=prog) b 175 4 k (.bool false) underlying175 d e .i64 .i64 a a oM (Int.le_refl _) (by rw [j];omega) oM;rw [this,f];have c:madeCells #[.bool false] a=Array.replicate a (.bool false):=by apply Array.ext';rw [toList_madeCells_one];simp
 simp only [Value.cells,zBr,zBl];rw [c]
structure SampOk (C:List (Nat×Nat)) (rs:List Nat) (r N:Nat):Prop where
 right:∀k,k < C.length->aB C k < N+1/\aI C k < N+1/\rs[aB C k]?=some (aI C k)
 rise:∀k,k+1 < C.length->aB C k < aB C (k+1)
 zero:Smp C 0
 gap:pS (Smp C) r N
 len:rs.length=N+1
 rate:1<=r
theorem uH (ak aL:Option Addr) (k t m I aM aN:Nat) (l:List (Nat×Nat)) (bf:List Nat) (r N:Nat) (E:World) (aY:Rd E aM 2 ak k (bU l)) (aZ:Rd E aN 1 aL m (bf.map sv)) (b1:aM<=E.heap.size) (b2:aN<=E.heap.size)
 (b0:l.length=k) (b8:N+1=m) (bK:k<=1000) (bI:N<=1000) (bM:r<=64) (aE:SampOk l bf r N):
 Calls prog 69 #[.slice ak k t,.slice aL m I,(r:Int)] E fun ar bA=>ar=.returned (.bool true)/\Below E.heap.size E bA:=by
 obtain ⟨y,W⟩:=eqx E.heap.size;obtain ⟨aU,ae⟩:=eqx (E.alloc (.cells (Array.replicate m (.bool false)) 4));have b4:Bk aU y 4 (mkV l m 0):=by rw [aIl,<-ae,<-W];exact Bk.new _ _ _
 have b3:Below y E aU:=by rw [<-ae,<-W];exact bR.alloc nL _
 have b9:0 < m:=oM;obtain ⟨A,D,rfl,aA,bb⟩:=(aZ.mono b2).2 b9;have bc:∀a,a < k->∀wr,Below y E wr->wr.cell? ⟨A,D+aB l a,none⟩=some (.int .i64 ((aI l a:Nat):Int)):=fun a ag wr aj=>by rw [W] at aA;refine (aj.cell aA).trans (bb _ _ ?_);rw [zAf,(aE.right a oM).2.2];rfl
 have ah:∃f j,0 < k->ak=some ⟨f,j,none⟩/\∀a,a < k->∀wr,Below y E wr->wr.cell? ⟨f,j+a*2,none⟩=some (.int .i64 ((aB l a:Nat):Int))/\wr.cell? ⟨f,j+a*2+1,none⟩=some (.int .i64 ((aI l a:Nat):Int)):=by rcases zBa k with aX | aX;exact ⟨0,0,fun q=>by omega⟩;obtain ⟨f,j,ar,az,H⟩:=(aY.mono b1).2 aX;rw [W] at az;refine ⟨f,j,fun _=>⟨ar,fun a ag wr aj=>?_⟩⟩;obtain ⟨a6,aH⟩:=cG l a oM;exact ⟨(aj.cell az).trans (H _ _ a6),(aj.cell az).trans (H _ _ aH)⟩
 obtain ⟨f,j,ah⟩:=ah;have bz:=aGj m oM;have bL:m<=1001:=oM;obtain ⟨an,bm,P,bh,am,bj,bi,a9,aT⟩:=hqq9 bc ah aE ae W b4 b3 b0 b8;clear bc ah aE ae W b4 b3 b0 b8 aY aZ aA bb b1 b2;go_enter func69,ntmps69;rw [am.out];go_wp2_with fail;rw [bh.out]
 try rw [am.out]
 clear bz;go_loopw [8] (fun i wr=>∃a:Nat,a<=k/\i=.int .i64 (a:Int)/\Bk wr y 4 (mkV l m a)/\Below y E wr) (fun i _=>k -(intOf i).toNat)
 case atStart=>exact ⟨0,zAp _,rfl,bj.out,bi.out⟩
 case round=>
  obtain ⟨a,ag,rfl,J,v⟩:=hrel;by_cases L:a < k
  · obtain ⟨au,H⟩:=bm.out oM;subst au;obtain ⟨ap,aq⟩:=H a L wr v;have ac:=an.out a L wr v;have a1:=aT.out;obtain ⟨aJ,aK,be⟩:=P.out.right a (by rw [a9.out];exact L);obtain ⟨F,a4⟩:∃F,l[a]?=some F:=⟨_,zAa (by rw [a9.out];exact L)⟩;obtain ⟨u,U⟩:=eqx (aB l a);obtain ⟨n,V⟩:=eqx (aI l a);have a5:F.2=n:=(by rw [<-V];unfold aI;rw [zAb,a4];rfl);have G:=J.set n (.bool true);rw [<-a5,aFB a4,a5] at G;rw [U] at ap ac aJ;rw [V] at aq ac aK;have ad:=J.frozen n;have ab:wr.cell? ⟨y,n,none⟩=some (.bool (mkB l a n)):=(J.cell n).trans (mC l a oM);have O:=v.setCell (p:=⟨y,n,none⟩) nL (.bool true);have aV:decide ((u:Int)>=(m:Int))=false:=zBy oM;have aW:decide (m<=u)=false:=zBy oM;have bd:(u:Int) < (m:Int):=oM;have bO:(n:Int) < (m:Int):=oM;have bP:(a:Int) < (k:Int):=oM;have b7:(mkV l m a).setIfInBounds n (.bool true)=mkV l m (a+1):=(by rw [<-a5];exact aFB a4);obtain ⟨aS,aR⟩:=hqq2 b7 (show n < m by omega);have ai:y<=wr.heap.size:=(by rw [<-am.out];exact v.size);clear b7;by_cases b6:a=0
    · have bu:decide ((a:Int) > 0)=false:=zBy oM;have bv:decide (0 < a)=false:=zBy oM;have a0:∀e,Grow wr e->e.cell? ⟨f,j+a*2,none⟩=some (.int .i64 (u:Int))/\e.cell? ⟨f,j+a*2+1,none⟩=some (.int .i64 (n:Int))/\e.cell? ⟨A,D+u,none⟩=some (.int .i64 (n:Int)):=fun e c=>by have X:=v.trans (c.mono ai);obtain ⟨a7,a8⟩:=H a L e X;have T:=an.out a L e X;rw [U] at a7 T;rw [V] at a8 T;exact ⟨a7,a8,T⟩
      obtain ⟨x,Z,M⟩:=hqq3 a0 v J;clear a0 a1 H aJ aK be a4 a5 U V J v G O ag b6 ap aq ac ad ab;go_wp2_with fail;refine wp_region_any kR ?_;refine aQ [20,21,22,23,24,25,26,27,28,29,30,31,32,33,34,35,36,37,38,39,40,41,42,43,44,45,46,47,48,49,50,51,52,53,54,55,56,57,58,59,60,61,62,63,64,65,66,67,68,69] Grow (Vs [is (.slice (some ⟨f,j,none⟩) k t),is (a:Int),is (.pointer (some ⟨f,j+a*2,none⟩)),is (.pointer (some ⟨f,j+a*2,none⟩)),is (u:Int),is (.bool false),is (.bool false),is (.slice (some ⟨f,j,none⟩) k t),is (a:Int),is (.pointer (some ⟨f,j+a*2,none⟩)),is (.pointer (some ⟨f,j+a*2,none⟩)),is (u:Int),is (.slice (some ⟨A,D,none⟩) m I),is (m:Int),is (.bool false),is (.bool false),is (.bool false),is (.slice (some ⟨A,D,none⟩) m I),is (.slice (some ⟨f,j,none⟩) k t),is (a:Int),is (.pointer (some ⟨f,j+a*2,none⟩)),is (.pointer (some ⟨f,j+a*2,none⟩)),is (u:Int),is (.pointer (some ⟨A,D+u,none⟩)),is (n:Int),is (.slice (some ⟨f,j,none⟩) k t),is (a:Int),is (.pointer (some ⟨f,j+a*2,none⟩)),is (.pointer (some ⟨f,j+a*2+1,none⟩)),is (n:Int),is (.bool false),is (.bool false),is (.bool false),is (a:Int),is (.bool false),is (.bool false),is undef,is undef,is undef,is undef,is undef,is undef,is undef,is undef,is undef,is undef,is undef,is undef,is (.bool false),is (.bool false)]) _ _ rfl kR bR (fun _ _=>Grow.trans) (gK tA2) ?_ ?_
      · refine aO ?_;refine pH 0 (.slice (some ⟨f,j,none⟩) k t) ?_;refine pH 8 (.int .i64 (a:Int)) ?_;refine pW 0 20 1 21 ?_;refine pV 2 22 ?_;refine sC (fun _ e c _ _ _ o _ _ _ s=>?_) ?_
        · have bo:_=_:=o 3 23 kR rfl;replace c:Grow wr e:=gD c;obtain ⟨k0,B,C⟩:=x.out e c;go_simp;exact s _ _ bR rfl
        refine pV 4 24 ?_;refine pV 5 25 ?_;refine gH 26 false 0 (.slice (some ⟨f,j,none⟩) k t) ?_;refine gH 26 false 8 (.int .i64 (a:Int)) ?_;refine gW 26 false 7 27 8 28 ?_;refine gV 26 false 9 29 ?_;refine sG 26 false (fun _ e c _ _ _ o _ _ _ s=>?_) ?_
        · have bp:_=_:=o 10 30 kR rfl;replace c:Grow wr e:=gD c;obtain ⟨k0,B,C⟩:=x.out e c;go_simp;exact s _ _ bR rfl
        refine gH 26 false 1 (.slice (some ⟨A,D,none⟩) m I) ?_;refine gV 26 false 12 32 ?_;refine gW 26 false 11 31 13 33 ?_;refine pW 6 26 14 34 ?_;refine pV 15 35 ?_;refine gH 36 false 1 (.slice (some ⟨A,D,none⟩) m I) ?_;refine gH 36 false 0 (.slice (some ⟨f,j,none⟩) k t) ?_;refine gH 36 false 8 (.int .i64 (a:Int)) ?_;refine gW 36 false 18 38 19 39 ?_;refine gV 36 false 20 40 ?_;refine sG 36 false (fun _ e c _ _ _ o _ _ _ s=>?_) ?_
        · have bq:_=_:=o 21 41 kR rfl;replace c:Grow wr e:=gD c;obtain ⟨k0,B,C⟩:=x.out e c;go_simp;exact s _ _ bR rfl
        refine gW 36 false 17 37 22 42 ?_;refine sG 36 false (fun _ e c _ _ _ o _ _ _ s=>?_) ?_
        · have br:_=_:=o 23 43 kR rfl;replace c:Grow wr e:=gD c;obtain ⟨k0,B,C⟩:=x.out e c;go_simp;exact s _ _ bR rfl
        refine gH 36 false 0 (.slice (some ⟨f,j,none⟩) k t) ?_;refine gH 36 false 8 (.int .i64 (a:Int)) ?_;refine gW 36 false 25 45 26 46 ?_;refine gV 36 false 27 47 ?_;refine sG 36 false (fun _ e c _ _ _ o _ _ _ s=>?_) ?_
        · have bs:_=_:=o 28 48 kR rfl;replace c:Grow wr e:=gD c;obtain ⟨k0,B,C⟩:=x.out e c;go_simp;exact s _ _ bR rfl
        refine gW 36 false 24 44 29 49 ?_;refine pW 16 36 30 50 ?_;refine pV 31 51 ?_;refine gH 52 false 8 (.int .i64 (a:Int)) ?_;refine gV 52 false 33 53 ?_;refine gV 52 false 34 54 ?_;refine aC ?_ ?_;exact dL (d:=55) (b:=false) rfl rfl rfl kR (fun _ _ _ q=>q) (fun _=>Below.refl _ _) (fun _=>rfl);refine aC ?_ ?_;exact dL (d:=55) (b:=false) rfl rfl rfl kR (fun _ _ _ q=>q) (fun _=>Below.refl _ _) (fun _=>rfl);refine aC ?_ ?_;exact dL (d:=55) (b:=false) rfl rfl rfl kR (fun _ _ _ q=>q) (fun _=>Below.refl _ _) (fun _=>rfl);refine aC ?_ ?_;exact dL (d:=55) (b:=false) rfl rfl rfl kR (fun _ _ _ q=>q) (fun _=>Below.refl _ _) (fun _=>rfl);refine aC ?_ ?_;exact dL (d:=55) (b:=false) rfl rfl rfl kR (fun _ _ _ q=>q) (fun _=>Below.refl _ _) (fun _=>rfl);refine aC ?_ ?_;exact dL (d:=55) (b:=false) rfl rfl rfl kR (fun _ _ _ q=>q) (fun _=>Below.refl _ _) (fun _=>rfl);refine aC ?_ ?_;exact dL (d:=55) (b:=false) rfl rfl rfl kR (fun _ _ _ q=>q) (fun _=>Below.refl _ _) (fun _=>rfl);refine aC ?_ ?_;exact dL (d:=55) (b:=false) rfl rfl rfl kR (fun _ _ _ q=>q) (fun _=>Below.refl _ _) (fun _=>rfl);refine aC ?_ ?_;exact dL (d:=55) (b:=false) rfl rfl rfl kR (fun _ _ _ q=>q) (fun _=>Below.refl _ _) (fun _=>rfl);refine aC ?_ ?_;exact dL (d:=55) (b:=false) rfl rfl rfl kR (fun _ _ _ q=>q) (fun _=>Below.refl _ _) (fun _=>rfl);refine aC ?_ ?_;exact dL (d:=55) (b:=false) rfl rfl rfl kR (fun _ _ _ q=>q) (fun _=>Below.refl _ _) (fun _=>rfl);refine aC ?_ ?_;exact dL (d:=55) (b:=false) rfl rfl rfl kR (fun _ _ _ q=>q) (fun _=>Below.refl _ _) (fun _=>rfl);refine gW 52 false 35 55 47 67 ?_;refine pW 32 52 48 68 ?_;exact aD
      · intro aw R c o;replace c:Grow wr R:=gD c;have av:aw (.tmp 69)=.bool false:=o 49 69 rfl;simp only [zqq];rw [av];clear o;have a3:=Z.out.trans (c.mono ai);have K:=M.out.below c M.out.lt;obtain ⟨k0,B,C⟩:=x.out R c;have ad:=K.frozen n;have ab:R.cell? ⟨y,n,none⟩=some (.bool (mkB l a n)):=(K.cell n).trans (mC l a aR.out);have G:=K.set n (.bool true);rw [aS.out] at G;have O:=a3.setCell (p:=⟨y,n,none⟩) nL (.bool true);obtain ⟨ao,al⟩:=hqq2 G O;clear c a3 K G O;go_wp2_with fail;go_roundw
        case rel=>exact ⟨a+1,by omega,by go_num,ao.out,al.out⟩
        case measure=>simp [intOf];omega
    · have aG:=P.out.rise (a - 1) (by rw [a9.out];omega);rw [show a - 1+1=a by omega,U] at aG;obtain ⟨a6,aH⟩:=H (a - 1) oM wr v;obtain ⟨aa,ax⟩:=eqx (aB l (a - 1));rw [ax] at a6 aG;have bu:decide ((a:Int) > 0)=true:=zBz oM;have bv:decide (0 < a)=true:=zBz oM;obtain ⟨Y,aF⟩:=eqx (a - 1);rw [aF] at a6;have au:IntKind.i64.wrap ((a:Int) - 1)=(Y:Int):=(by rw [IntKind.wrap_i64];omega);have bF:decide ((u:Int)<=(aa:Int))=false:=zBy oM;have bG:decide (u<=aa)=false:=zBy oM;have bQ:(Y:Int) < (k:Int):=oM;have a0:∀e,Grow wr e->e.cell? ⟨f,j+a*2,none⟩=some (.int .i64 (u:Int))/\e.cell? ⟨f,j+a*2+1,none⟩=some (.int .i64 (n:Int))/\e.cell? ⟨A,D+u,none⟩=some (.int .i64 (n:Int))/\e.cell? ⟨f,j+Y*2,none⟩=some (.int .i64 (aa:Int)):=fun e c=>by have X:=v.trans (c.mono ai);obtain ⟨a7,a8⟩:=H a L e X;have T:=an.out a L e X;have bg:=(H (a - 1) oM e X).1;rw [U] at a7 T;rw [V] at a8 T;rw [ax,aF] at bg;exact ⟨a7,a8,T,bg⟩
      obtain ⟨x,Z,M⟩:=hqq3 a0 v J;clear a0 a1 H aJ aK be a4 a5 U V J v G O ag b6 aG ax aF a6 aH ap aq ac ad ab;go_wp2_with fail;refine wp_region_any kR ?_;refine aQ [20,21,22,23,24,25,26,27,28,29,30,31,32,33,34,35,36,37,38,39,40,41,42,43,44,45,46,47,48,49,50,51,52,53,54,55,56,57,58,59,60,61,62,63,64,65,66,67,68,69] Grow (Vs [is (.slice (some ⟨f,j,none⟩) k t),is (a:Int),is (.pointer (some ⟨f,j+a*2,none⟩)),is (.pointer (some ⟨f,j+a*2,none⟩)),is (u:Int),is (.bool false),is (.bool false),is (.slice (some ⟨f,j,none⟩) k t),is (a:Int),is (.pointer (some ⟨f,j+a*2,none⟩)),is (.pointer (some ⟨f,j+a*2,none⟩)),is (u:Int),is (.slice (some ⟨A,D,none⟩) m I),is (m:Int),is (.bool false),is (.bool false),is (.bool false),is (.slice (some ⟨A,D,none⟩) m I),is (.slice (some ⟨f,j,none⟩) k t),is (a:Int),is (.pointer (some ⟨f,j+a*2,none⟩)),is (.pointer (some ⟨f,j+a*2,none⟩)),is (u:Int),is (.pointer (some ⟨A,D+u,none⟩)),is (n:Int),is (.slice (some ⟨f,j,none⟩) k t),is (a:Int),is (.pointer (some ⟨f,j+a*2,none⟩)),is (.pointer (some ⟨f,j+a*2+1,none⟩)),is (n:Int),is (.bool false),is (.bool false),is (.bool false),is (a:Int),is (.bool true),is (.bool true),is (.slice (some ⟨f,j,none⟩) k t),is (a:Int),is (.pointer (some ⟨f,j+a*2,none⟩)),is (.pointer (some ⟨f,j+a*2,none⟩)),is (u:Int),is (.slice (some ⟨f,j,none⟩) k t),is (a:Int),is (Y:Int),is (.pointer (some ⟨f,j+Y*2,none⟩)),is (.pointer (some ⟨f,j+Y*2,none⟩)),is (aa:Int),is (.bool false),is (.bool false),is (.bool false)]) _ _ rfl kR bR (fun _ _=>Grow.trans) (gK tA2) ?_ ?_
      · refine aO ?_;refine pH 0 (.slice (some ⟨f,j,none⟩) k t) ?_;refine pH 8 (.int .i64 (a:Int)) ?_;refine pW 0 20 1 21 ?_;refine pV 2 22 ?_;refine sC (fun _ e c _ _ _ o _ _ _ s=>?_) ?_
        · have bo:_=_:=o 3 23 kR rfl;replace c:Grow wr e:=gD c;obtain ⟨k0,B,C,Q⟩:=x.out e c;go_simp;exact s _ _ bR rfl
        refine pV 4 24 ?_;refine pV 5 25 ?_;refine gH 26 false 0 (.slice (some ⟨f,j,none⟩) k t) ?_;refine gH 26 false 8 (.int .i64 (a:Int)) ?_;refine gW 26 false 7 27 8 28 ?_;refine gV 26 false 9 29 ?_;refine sG 26 false (fun _ e c _ _ _ o _ _ _ s=>?_) ?_
        · have bp:_=_:=o 10 30 kR rfl;replace c:Grow wr e:=gD c;obtain ⟨k0,B,C,Q⟩:=x.out e c;go_simp;exact s _ _ bR rfl
        refine gH 26 false 1 (.slice (some ⟨A,D,none⟩) m I) ?_;refine gV 26 false 12 32 ?_;refine gW 26 false 11 31 13 33 ?_;refine pW 6 26 14 34 ?_;refine pV 15 35 ?_;refine gH 36 false 1 (.slice (some ⟨A,D,none⟩) m I) ?_;refine gH 36 false 0 (.slice (some ⟨f,j,none⟩) k t) ?_;refine gH 36 false 8 (.int .i64 (a:Int)) ?_;refine gW 36 false 18 38 19 39 ?_;refine gV 36 false 20 40 ?_;refine sG 36 false (fun _ e c _ _ _ o _ _ _ s=>?_) ?_
        · have bq:_=_:=o 21 41 kR rfl;replace c:Grow wr e:=gD c;obtain ⟨k0,B,C,Q⟩:=x.out e c;go_simp;exact s _ _ bR rfl
        refine gW 36 false 17 37 22 42 ?_;refine sG 36 false (fun _ e c _ _ _ o _ _ _ s=>?_) ?_
        · have br:_=_:=o 23 43 kR rfl;replace c:Grow wr e:=gD c;obtain ⟨k0,B,C,Q⟩:=x.out e c;go_simp;exact s _ _ bR rfl
        refine gH 36 false 0 (.slice (some ⟨f,j,none⟩) k t) ?_;refine gH 36 false 8 (.int .i64 (a:Int)) ?_;refine gW 36 false 25 45 26 46 ?_;refine gV 36 false 27 47 ?_;refine sG 36 false (fun _ e c _ _ _ o _ _ _ s=>?_) ?_
        · have bs:_=_:=o 28 48 kR rfl;replace c:Grow wr e:=gD c;obtain ⟨k0,B,C,Q⟩:=x.out e c;go_simp;exact s _ _ bR rfl
        refine gW 36 false 24 44 29 49 ?_;refine pW 16 36 30 50 ?_;refine pV 31 51 ?_;refine gH 52 false 8 (.int .i64 (a:Int)) ?_;refine gV 52 false 33 53 ?_;refine gV 52 false 34 54 ?_;refine gH 55 true 0 (.slice (some ⟨f,j,none⟩) k t) ?_;refine gH 55 true 8 (.int .i64 (a:Int)) ?_;refine gW 55 true 36 56 37 57 ?_;refine gV 55 true 38 58 ?_;refine sG 55 true (fun _ e c _ _ _ o _ _ _ s=>?_) ?_
        · have bD:_=_:=o 39 59 kR rfl;replace c:Grow wr e:=gD c;obtain ⟨k0,B,C,Q⟩:=x.out e c;go_simp;exact s _ _ bR rfl
        refine gH 55 true 0 (.slice (some ⟨f,j,none⟩) k t) ?_;refine gH 55 true 8 (.int .i64 (a:Int)) ?_;refine gV 55 true 42 62 ?_;refine gW 55 true 41 61 43 63 ?_;refine gV 55 true 44 64 ?_;refine sG 55 true (fun _ e c _ _ _ o _ _ _ s=>?_) ?_
        · have bE:_=_:=o 45 65 kR rfl;replace c:Grow wr e:=gD c;obtain ⟨k0,B,C,Q⟩:=x.out e c;go_simp;exact s _ _ bR rfl
        refine gW 55 true 40 60 46 66 ?_;refine gW 52 false 35 55 47 67 ?_;refine pW 32 52 48 68 ?_;exact aD
      · intro aw R c o;replace c:Grow wr R:=gD c;have av:aw (.tmp 69)=.bool false:=o 49 69 rfl;simp only [zqq];rw [av];clear o;have a3:=Z.out.trans (c.mono ai);have K:=M.out.below c M.out.lt;obtain ⟨k0,B,C,Q⟩:=x.out R c;have ad:=K.frozen n;have ab:R.cell? ⟨y,n,none⟩=some (.bool (mkB l a n)):=(K.cell n).trans (mC l a aR.out);have G:=K.set n (.bool true);rw [aS.out] at G;have O:=a3.setCell (p:=⟨y,n,none⟩) nL (.bool true);obtain ⟨ao,al⟩:=hqq2 G O;clear c a3 K G O;go_wp2_with fail;go_roundw
        case rel=>exact ⟨a+1,by omega,by go_num,ao.out,al.out⟩
        case measure=>simp [intOf];omega
  · have bx:a=k:=oM;subst bx;have c:∀i,mkB l a i=true↔Smp l i:=fun i=>by rw [<-a9.out];exact aJJ l i
    obtain ⟨M,Z,aP⟩:=hqq3 J v c;clear J v c;go_wp2_with fail;go_loopw [9,10] (fun g i bB=>∃w F:Nat,w<=m/\i=.int .i64 (w:Int)/\g=.int .i64 (F:Int)/\aAR (Smp l) w F/\F<=w/\bB=wr) (fun _ i _=>m -(intOf i).toNat)
    case atStart=>exact ⟨0,0,zAp _,rfl,rfl,.inl ⟨rfl,rfl⟩,zAs _,rfl⟩
    case round=>
        obtain ⟨w,F,bJ,rfl,rfl,af,bN,rfl⟩:=hrel;by_cases bw:w < m
        · have bn:wr.cell? ⟨y,w,none⟩=some (.bool (mkB l a w)):=(M.out.cell w).trans (mC l a bw);have bd:(w:Int) < (m:Int):=oM;have a1:=aT.out;obtain ⟨z,v⟩:=eqx (mkB l a w);rw [v] at bn;have a2:=aP.out w;rw [v] at a2;cases z with
          | true=>
            have b5:aAR (Smp l) (w+1) 0:=aJQ (a2.1 rfl);have bH:=P.out.rate;have aV:decide ((0:Int)>=(r:Int))=false:=zBy oM;have aW:decide (r=0)=false:=zBy oM;have bl:=lhd b5;clear a1 v a2 b5 af;go_wp2_with fail;go_roundw
            case rel=>exact ⟨w+1,0,by omega,by go_num,by first | rfl | trivial,bl.out,zAp _,by first | rfl | trivial⟩
            case measure=>simp [intOf];omega
          | false=>
            have ba:¬Smp l w:=fun bt=>by have:=a2.2 bt;cases this
            have ay:=aKI P.out.zero ba af;have L:=aKJ P.out.gap P.out.rate ay oM;have au:((F+1:Nat):Int)=(F:Int)+1:=oM;have aV:decide ((F:Int)+1>=(r:Int))=false:=zBy oM;have aW:decide (r<=F+1)=false:=zBy oM;have bk:=lhd ay;clear a1 v a2 ay af ba;go_wp2_with fail;go_roundw
            case rel=>exact ⟨w+1,F+1,by omega,by go_num,by go_num,bk.out,by omega,by first | rfl | trivial⟩
            case measure=>simp [intOf];omega
        · have bC:wr.cell? ⟨y,0,none⟩=some (.bool true):=(by rw [M.out.cell 0];have:mkB l a 0=true:=(aP.out 0).2 P.out.zero;rw [<-this];exact mC l a b9);have bd:(0:Int) < (m:Int):=oM;clear af;go_wp2_with fail;go_ret;exact ⟨rfl,Z.out⟩
end Go.Proofs.YthldmddkfbijhaaGreatDoor
