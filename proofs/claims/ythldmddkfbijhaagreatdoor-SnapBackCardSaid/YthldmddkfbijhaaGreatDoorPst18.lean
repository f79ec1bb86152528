/- Lemmas of the walk. Conditions: each its own. -/
import Derived.Test.YthldmddkfbijhaaGreatDoorPst12
import Derived.Test.YthldmddkfbijhaaGreatDoorPst15
import Derived.Test.YthldmddkfbijhaaGreatDoorPst16
import Derived.Test.YthldmddkfbijhaaGreatDoorProg
import Derived.Test.YthldmddkfbijhaaGreatDoorShl
import Derived.Test.YthldmddkfbijhaaGreatDoorShi
set_option linter.all false
set_option maxRecDepth 100000
set_option maxHeartbeats 4000000
open Go.Proofs.Tryz
namespace Go.Proofs.YthldmddkfbijhaaGreatDoor
section
open Go.RowKit
theorem xY (B gk:Nat) (L:List Nat) (b:Nat) (w:World) (d:WalkAt w B gk L) (g:b < L.length):
 Calls prog 160 #[gk,(b:Int)] w fun c w'=>c=.returned (.bool true)/\w=w':=by
 obtain ⟨i,a⟩:=eqx L.length;rw [a] at g;have j:(b:Int) < (i:Int):=oM;obtain ⟨f,e⟩:=hqq2 a d;clear a d;go_enter func160,ntmps160;go_wp2_with fail;refine (kQ B gk L w e.out).mono ?_;rintro c w' ⟨rfl,rfl⟩;rw [f.out];go_wp2_with fail;go_ret;exact ⟨rfl,rfl⟩
theorem mM (B gk:Nat) (L:List Nat) (d b:Nat) (w:World) (E:WalkAt w B gk L) (n:L[d]?=some b) (u:∀y∈L,y < 257) (x:L.length<=1000):
 Calls prog 101 #[gk,(d:Int)] w fun f w'=>f=.returned (.int .i64 ((cH L b d:Nat):Int))/\VB B w w':=by
 have M:=(zAc.1 n).1;have O:b < 257:=u _ (zAd n);have J:=E;obtain ⟨l,ai,m,H,a4⟩:=E;have a1:=m.cell 0;have al:=m.lt;obtain ⟨j,v⟩:=eqx (cH L b d);obtain ⟨q,o⟩:∃a8,L.countP (fun y=>decide (y < b))=a8:=⟨_,rfl⟩;obtain ⟨r,p⟩:=eqx ((L.take d).count b);have N:q+r=j:=by rw [<-o,<-p,<-v];rfl
 have aj:q<=1000:=by rw [<-o];exact zAk zBh x
 have ak:r<=1000:=by rw [<-p];exact zAk zBv (by rw [zAj];omega)
 rw [v];obtain ⟨z,Q,A,s,W,D,t,Y,Z⟩:=hqq9 J m H M n u x o p;have X:=lhd N;clear J m H a4 M n u x o p v N;go_enter func101,ntmps101;go_wp2_with fail;refine (xY B gk L d w z.out s.out).mono ?_;rintro f w1 ⟨rfl,rfl⟩;go_wp2_with fail;refine (dX B l L d b w A.out s.out (zAc.1 W.out).2 D.out t.out).mono ?_;rintro f k ⟨rfl,i⟩;have K:=z.out.vis i.1;have G:=i.1.bk Q.out dC dC;have I:=A.out.vis i.1;obtain ⟨V,S,U,a0⟩:=hqq4 K G I i;clear K G I i a1;go_wp2_with fail;refine wp_region_any kR ?_;refine aQ [20,21,22,23,24,25,26,27,28,29,30,4] (VB B) (Vs [is gk,is (b:Int),is (q:Int),is gk,is gk,is gk,is l,is (d:Int),is (b:Int),is (r:Int),is (j:Int),is (j:Int)]) _ _ rfl kR vR (fun _ _=>VisK.trans) (cV tA1) ?_ ?_
 · refine aO ?_;refine pH 0 (.pointer (some ⟨gk,0,none⟩)) ?_;refine pH 5 (.int .i64 (b:Int)) ?_;refine sC (fun _ e a _ _ _ c _ _ _ g=>?_) ?_
   · have ab:_=_:=c 0 20 kR rfl;have ac:_=_:=c 1 21 kR rfl;replace a:(VB B) k e:=bD a;go_simp;refine (iK B gk L b e (V.out.vis a.1) O t.out).mono ?_;rintro f aa ⟨rfl,a5⟩;rw [Y.out];exact g _ _ (VisK.of_below a5) rfl
   refine pH 0 (.pointer (some ⟨gk,0,none⟩)) ?_;refine pV 3 23 ?_;refine pV 4 24 ?_;refine pL 5 25 (fun e a=>have a:(VB B) k e:=bD a;(((a.1.bk S.out dC dC).cell 0).trans rfl:e.cell? ⟨gk,0,none⟩=some (.pointer (some ⟨l,0,none⟩)))) ?_;refine pH 1 (.int .i64 (d:Int)) ?_;refine pH 5 (.int .i64 (b:Int)) ?_;refine sC (fun _ e a _ _ _ c _ _ _ g=>?_) ?_
   · have ae:_=_:=c 6 26 kR rfl;have af:_=_:=c 7 27 kR rfl;have ag:_=_:=c 8 28 kR rfl;replace a:(VB B) k e:=bD a;go_simp;refine (gT B l L d b e (U.out.vis a.1) O (zCm s.out) D.out t.out).mono ?_;rintro f aa ⟨rfl,a7⟩;rw [Z.out];exact g _ _ a7 rfl
   refine sC (fun _ _ _ _ _ _ c _ _ _ g=>?_) ?_
   · have ad:_=_:=c 2 22 kR rfl;have ah:_=_:=c 9 29 kR rfl;have am:IntKind.i64.wrap ((q:Int)+(r:Int))=(j:Int):=(by rw [IntKind.wrap_i64];have:=X.out;omega);go_simp;exact g _ _ vR rfl
   refine pV 10 30 ?_;exact aD
 · intro a3 a9 a c;replace a:(VB B) k a9:=bD a;have a2:a3 (.tmp 4)=.int .i64 (j:Int):=c 11 4 rfl;simp only [zqq];rw [a2];clear c;have a6:=a0.out.trans a;go_wp2_with fail;go_ret;exact ⟨rfl,a6⟩
end
section
open Go.RowKit Go.Shelf
def PermR (w:World) (gp R P:Nat) (d:List (Nat×Nat)):Prop:=
 ∃B ga vl vo vt vf ks C tk fr,PermAt w B gp ga vl vo vt vf R P ks C tk fr/\ks.Pairwise (fun b c=>aB C b < aB C c)/\C.length<=1000/\ks.length<=1000/\d=ks.map fun a=>(aB C a,aI C a)
theorem PermR.le {w:World} {gp R P:Nat} {a:List (Nat×Nat)} (b:PermR w gp R P a):a.length<=1000:=by
 obtain ⟨B,ga,vl,vo,vt,vf,ks,C,tk,fr,d,e,f,c,rfl⟩:=b;rw [zBc];exact c
theorem PermR.vis {w w':World} {gp R P:Nat} {a:List (Nat×Nat)} (b:PermR w gp R P a) (e:Vis w w'):PermR w' gp R P a:=by
 obtain ⟨B,ga,vl,vo,vt,vf,ks,C,tk,fr,c,d⟩:=b;exact ⟨B,ga,vl,vo,vt,vf,ks,C,tk,fr,c.vis e,d⟩
theorem PermR.lt {w:World} {gp R P:Nat} {c:List (Nat×Nat)} (a:PermR w gp R P c):gp < w.heap.size:=by
 obtain ⟨B,ga,vl,vo,vt,vf,ks,C,tk,fr,b,d⟩:=a;exact b.blk.lt
theorem aB2 (B gp ga:Nat) (vl vo vt vf:Value) (R P:Nat) (ks:List Nat) (C:List (Nat×Nat)) (tk:List Bool) (fr:List Nat) (w:World) (d:PermAt w B gp ga vl vo vt vf R P ks C tk fr) (ac:C.length<=1000) (ad:ks.length<=1000):
 Calls prog 127 #[gp] w (lN w (ks.map fun a=>(aB C a,aI C a))):=by
 obtain ⟨ao,ah,al,am,an⟩:=info_parts tD;have O:=d.orow;obtain ⟨X,a5,rfl,_,_⟩:=aR O;obtain ⟨W,G,rfl,_,_⟩:=aR d.lrow;have r:w.cell? ⟨gp,1,none⟩=some (.slice W C.length G):=(d.blk.cell 1).trans rfl;have H:w.cell? ⟨gp,2,none⟩=some (.slice X ks.length a5):=(d.blk.cell 2).trans rfl;have ag:=d.blk.lt;obtain ⟨E,t⟩:=eqx C.length;obtain ⟨i,k⟩:=eqx ks.length;obtain ⟨c,l⟩:∃c,(ks.map fun a=>(aB C a,aI C a))=c:=⟨_,rfl⟩;have Q:c.length=i:=by rw [<-l,zBc,k]
 rw [l];obtain ⟨A,a2,Z,a4,n⟩:=hqq5 d k t l Q;rw [t] at r ac;rw [k] at H ad;clear d O k t l Q;unfold lN;go_enter func127,ntmps127;go_wp2_with fail;go_loopw [3,13] (fun ap z wr=>∃a:Nat,a<=i/\z=.int .i64 (a:Int)/\wr.ownsRow w.heap.size 170 2 ap a (bU (c.take a))/\Below w.heap.size w wr) (fun _ z _=>i -(intOf z).toNat)
 case atStart=>exact ⟨0,zAp _,rfl,World.ownsRow_nil _ _ _ _,Below.refl _ _⟩
 case round=>
  obtain ⟨a,ay,rfl,f,e⟩:=hrel;have S:=e.size;by_cases ai:a < i
  · have K:a < ks.length:=(by rw [a2.out];exact ai);obtain ⟨b,j⟩:∃b,ks[a]?=some b:=⟨_,zAa K⟩;have x:b < C.length:=A.out.lt b (zAd j);have ax:b < E:=(by rw [<-Z.out];exact x);have g:=A.out.below e;have y:=g.orow;obtain ⟨ab,aC,aa,_,aw⟩:=World.ownsRow.form y oM;obtain ⟨s,aA,a9,_,av⟩:=World.ownsRow.form g.lrow oM;injection aa with e2a _ _;injection a9 with e1a _ _;subst e2a;subst e1a;have ar:wr.cell? ⟨ab,a,none⟩=some (.int .i64 (b:Int)):=(World.ownsRow.cellAt y a oM).trans (by rw [zAf,j];rfl);obtain ⟨U,V⟩:=cG C b x;have a7:wr.cell? ⟨s,b*2,none⟩=_:=(World.ownsRow.cellAt g.lrow (b*2) oM).trans U;have a8:wr.cell? ⟨s,b*2+1,none⟩=_:=(World.ownsRow.cellAt g.lrow (b*2+1) oM).trans V;have au:wr.cell? ⟨gp,1,none⟩=some (.slice (some ⟨s,0,none⟩) E G):=(e.cell (p:=⟨gp,1,none⟩) ag).trans r;obtain ⟨o,u⟩:=eqx (aB C b);obtain ⟨q,v⟩:=eqx (aI C b);have N:bU (c.take (a+1))=bU (c.take a)++ [.int .i64 (o:Int),.int .i64 (q:Int)]:=(by have af:c[a]?=some (o,q):=(by rw [<-a4.out,zAf,j,<-u,<-v];rfl);rw [zAv,af];show bU (c.take a++ [(o,q)])=_;rw [kJ];rfl);rw [u] at a7;rw [v] at a8;obtain ⟨D,m,a3⟩:=hqq3 f e N;clear f e N g y U V r H u v j x K;go_wp2_with (at_builtin;refine bF _ rfl (.tmp 17) (.tmp 25) _ rfl w.heap.size 170 ao (.agg #[.int .i64 0,.int .i64 0]) 2 16 underlying109 ah al am an rfl dC _ a _ rfl D.out rfl rfl (by simp [Value.oneCell']) (by unfold maxLen;omega) oM S ?_;intro aq aD aj J az ae);have I:=aX m.out D.out J S;have a0:=lhd I;clear I J ae;exact ⟨⟨aq,_,_,⟨a+1,by omega,by go_num,by rw [a3.out];exact aj,a0.out⟩,rfl,rfl,rfl⟩,by simp [intOf];omega⟩
  · obtain rfl:a=i:=oM;have ak:c.take a=c:=zAg (by rw [n.out];exact zAs _);rw [ak] at f;obtain ⟨Y,a6,rfl,M⟩:=aU f;obtain ⟨a1,m⟩:=hqq2 M e;clear f M e;go_wp2_with fail;go_ret;exact ⟨Y,a6,by rw [n.out];rfl,by rw [n.out];exact a1.out,m.out⟩
theorem sO (gp R P:Nat) (a:List (Nat×Nat)) (w:World) (b:PermR w gp R P a):
 Calls prog 127 #[gp] w (lN w a):=by
 obtain ⟨B,ga,vl,vo,vt,vf,ks,C,tk,fr,c,f,d,e,rfl⟩:=b;exact aB2 B gp ga vl vo vt vf R P ks C tk fr w c d e
def eD (c:List (Nat×Nat)) (b:Nat) (e:Int):Prop:=(e=-1/\∀a∈c,a.2 < b)∨∃a∈c,e=((a.2:Nat):Int)/\b<=a.2/\∀d∈c,b<=d.2->a.2<=d.2
theorem wZ {l:List (Nat×Nat)} {f:Nat} {m:Int} (p:eD l f m) (g a:Nat):eD (l++(some (g,a)).toList) f (if f<=a/\(m < 0∨(a:Int) < m) then (a:Int) else m):=by
 have e:∀b:Nat×Nat,b∈l++(some (g,a)).toList↔b∈l∨b=(g,a):=fun b=>by simp
 rcases p with ⟨rfl,k⟩|⟨j,q,rfl,k,n⟩;by_cases d:f<=a;rw [zBx ⟨d,.inl oM⟩];refine .inr ⟨(g,a),(e _).2 (.inr rfl),rfl,d,fun b c i=>?_⟩;rcases (e b).1 c with c | rfl;have:=k b c;omega;exact zAs _;rw [zBw (fun o=>d o.1)];refine .inl ⟨rfl,fun b c=>?_⟩;rcases (e b).1 c with c | rfl;exact k b c;show a < f;omega;by_cases d:f<=a/\((j.2:Int) < 0∨(a:Int) < (j.2:Int));rw [zBx d];have r:a < j.2:=oM;refine .inr ⟨(g,a),(e _).2 (.inr rfl),rfl,d.1,fun b c i=>?_⟩;rcases (e b).1 c with c | rfl;have:=n b c i;show a<=_;omega;exact zAs _;rw [zBw d];refine .inr ⟨j,(e _).2 (.inl q),rfl,k,fun b c i=>?_⟩;rcases (e b).1 c with c | rfl;exact n b c i;have s:f<=a:=i;show j.2<=a;omega
def tP (w:World) (C:List (Nat×Nat)) (c:Nat) (b:Ending) (w':World):Prop:=∃a,b=.returned (.int .i64 a)/\eD C c a/\Below w.heap.size w w'
theorem pP (gp R P:Nat) (C:List (Nat×Nat)) (d:Nat) (w:World) (p:PermR w gp R P C):
 Calls prog 99 #[gp,(d:Int)] w (tP w C d):=by
 have m:=sO gp R P C w p;have Y:=p.le;unfold lN at m;obtain ⟨n,t⟩:=eqx C.length;rw [t] at m Y;have y:=lhd t;clear p t;unfold tP;go_enter func99,ntmps99;go_wp2_with fail;refine m.mono ?_;rintro a9 w1 ⟨a5,a8,rfl,J,D⟩;clear m;obtain ⟨U,x⟩:=hqq2 J D;clear J D;go_wp2_with fail;go_loopw [5,11] (fun a4 u wr=>∃(a:Nat) (c:Int),a<=n/\u=.int .i64 (a:Int)/\a4=.int .i64 c/\eD (C.take a) d c/\Below w1.heap.size w1 wr) (fun _ u _=>n -(intOf u).toNat)
 case atStart=>exact ⟨0,-1,zAp _,rfl,rfl,.inl ⟨rfl,fun af a1=>by simp at a1⟩,Below.refl _ _⟩
 case round=>
  obtain ⟨a,c,ab,rfl,rfl,i,g⟩:=hrel;have a0:=g.size;by_cases Z:a < n
  · have I:a < C.length:=(by rw [y.out];exact Z);have M:=U.out.rd.below (g.mono (B:=w1.heap.size) nL);obtain ⟨a7,ae,rfl,aa,s⟩:=M.2 oM;obtain ⟨O,Q⟩:=cG C a I;have W:=s _ _ O;have X:=s _ _ Q;obtain ⟨o,q⟩:=eqx (aB C a);obtain ⟨b,r⟩:=eqx (aI C a);rw [q] at W;rw [r,<-Nat.add_assoc] at X;have H:C[a]?=some (o,b):=(by rw [<-q,<-r];unfold aB aI;rw [zAb,zAa I];rfl);have K:∀v:Int,v=(if d<=b/\(c < 0∨(b:Int) < c) then (b:Int) else c)->eD (C.take (a+1)) d v:=fun v a2=>by rw [zAv,H,a2];exact wZ i o b
    obtain ⟨k,a6⟩:=hqq2 K g;have E:Below w1.heap.size w1 (wr.alloc (.cells #[(o:Int),(b:Int)] 170)):=g.alloc a0 _;have j:=lhd E;clear i g M s O Q q r E K H;by_cases l:d<=b
    · have a3:decide (d<=b)=true:=zBz l;by_cases z:c < 0
      · have e:eD (C.take (a+1)) d (b:Int):=k.out (b:Int) (by rw [zBx ⟨l,.inl z⟩]);have f:=lhd e;clear e;go_wp2_with fail;go_roundw
        case rel=>exact ⟨a+1,(b:Int),by omega,by go_num,by first | rfl | trivial,f.out,j.out⟩
        case measure=>simp [intOf];omega
      · have ac:decide (c < 0)=false:=zBy z;by_cases A:(b:Int) < c
        · have e:eD (C.take (a+1)) d (b:Int):=k.out (b:Int) (by rw [zBx ⟨l,.inr A⟩]);have f:=lhd e;clear e;go_wp2_with fail;go_roundw
          case rel=>exact ⟨a+1,(b:Int),by omega,by go_num,by first | rfl | trivial,f.out,j.out⟩
          case measure=>simp [intOf];omega
        · have ad:decide ((b:Int) < c)=false:=zBy A;have e:eD (C.take (a+1)) d c:=k.out c (by rw [zBw oM]);have f:=lhd e;clear e;go_wp2_with fail;go_roundw
          case rel=>exact ⟨a+1,c,by omega,by go_num,by first | rfl | trivial,f.out,j.out⟩
          case measure=>simp [intOf];omega
    · have a3:decide (d<=b)=false:=zBy l;have e:eD (C.take (a+1)) d c:=k.out c (by rw [zBw oM]);have f:=lhd e;clear e;go_wp2_with fail;go_roundw
      case rel=>exact ⟨a+1,c,by omega,by go_num,by first | rfl | trivial,f.out,j.out⟩
      case measure=>simp [intOf];omega
  · obtain rfl:a=n:=oM;have G:=x.out.trans (g.mono x.out.size);have S:=lhd G;have N:C.take a=C:=zAg (by rw [y.out];exact zAs _);rw [N] at i;have V:=lhd i;clear G i g N;go_wp2_with fail;go_ret;exact ⟨c,rfl,V.out,S.out⟩
def aDs (w:World) (ks:List Nat) (C:List (Nat×Nat)) (c:Nat) (b:Ending) (w':World):Prop:=∃a,a∈ks/\aI C a=c/\b=.returned (.int .i64 ((aB C a:Nat):Int))/\Below w.heap.size w w'
theorem aBX (B gp ga:Nat) (vl vo vt vf:Value) (R P:Nat) (ks:List Nat) (C:List (Nat×Nat)) (tk:List Bool) (fr:List Nat) (e:Nat) (w:World) (c:PermAt w B gp ga vl vo vt vf R P ks C tk fr) (K:ks.length<=1099511627776) (Y:C.length<=1099511627776) (r:∃g∈ks,aI C g=e):
 Calls prog 100 #[gp,(e:Int)] w (aDs w ks C e):=by
 have k:=iX B gp ga vl vo vt vf R P ks C tk fr e w c K;obtain ⟨i,b,t,j,u⟩:=tX (p:=fun g=>decide (aI C g=e)) (l:=ks) (by obtain ⟨g,M,N⟩:=r;exact ⟨g,M,zBz N⟩) 0;rw [t,zBi] at k;have v:aI C b=e:=of_decide_eq_true u;have a6:i < ks.length:=(zAc.1 j).1;have S:b < C.length:=c.lt b (zAd j);obtain ⟨o,G,Q,a2,I⟩:=World.ownsRow.form c.orow oM;obtain ⟨q,H,O,a3,J⟩:=World.ownsRow.form c.lrow oM;subst Q;subst O;have s:=(cG C b S).1;obtain ⟨x,n,D,z⟩:=hqq4 c j v s;have a5:(i:Int) < (ks.length:Int):=oM;have a7:(b:Int) < (C.length:Int):=oM;have a4:decide ((i:Int) < 0)=false:=by simp
 clear c t j u v s r;unfold aDs;go_enter func100,ntmps100;go_wp2_with fail;refine k.mono ?_;rintro X w1 ⟨rfl,f⟩;have d:=x.out.below f;have U:∀a,(w1.drewN a).cell? ⟨gp,1,none⟩=some (.slice (some ⟨q,0,none⟩) C.length H):=fun a=>(d.blk.cell 1).trans rfl;have V:∀a,(w1.drewN a).cell? ⟨gp,2,none⟩=some (.slice (some ⟨o,0,none⟩) ks.length G):=fun a=>(d.blk.cell 2).trans rfl;have a1:=d.blk.lt;have W:∀a,(w1.drewN a).cell? ⟨o,i,none⟩=some (.int .i64 (b:Int)):=fun a=>(World.ownsRow.cellAt d.orow i oM).trans (by rw [zAf,n.out];rfl);have E:∀a,(w1.drewN a).cell? ⟨q,b*2,none⟩=some (.int .i64 ((aB C b:Nat):Int)):=fun a=>(World.ownsRow.cellAt d.lrow (b*2) oM).trans z.out;have y:=lhd f;have Z:=zAl I f.size;have a0:=zAl J f.size;obtain ⟨a8,m⟩:=eqx (aB C b);rw [m] at E;have A:=lhd m;clear k f d m;go_wp2_with fail;go_quiet (fail);go_wp2_with fail;go_ret;exact ⟨b,zAd n.out,D.out,by rw [A.out];rfl,below_drewN y.out _⟩
def yQ (w:World) (d:List (Nat×Nat)) (c:Nat) (b:Ending) (w':World):Prop:=∃a,(a,c)∈d/\b=.returned (.int .i64 (a:Int))/\Below w.heap.size w w'
theorem sM (gp R P:Nat) (d:List (Nat×Nat)) (b:Nat) (w:World) (g:PermR w gp R P d) (k:∃f∈d,f.2=b):
 Calls prog 100 #[gp,(b:Int)] w (yQ w d b):=by
 obtain ⟨B,ga,vl,vo,vt,vf,ks,C,tk,fr,i,p,q,r,rfl⟩:=g;have l:∃a∈ks,aI C a=b:=by obtain ⟨f,o,e⟩:=k;obtain ⟨a,c,rfl⟩:=zAy.1 o;exact ⟨a,c,e⟩
 have n:=aBX B gp ga vl vo vt vf R P ks C tk fr b w i oM oM l;refine n.mono ?_;rintro e w' ⟨a,c,m,rfl,j⟩;exact ⟨_,zAy.2 ⟨a,c,by rw [m]⟩,rfl,j⟩
theorem zU (gp R P:Nat) (i:List (Nat×Nat)) (a:Nat) (w:World) (k:PermR w gp R P i) (g:∀o∈i,o.2≠a):
 Calls prog 100 #[gp,(a:Int)] w fun d w'=>d=.returned (.int .i64 (-1))/\Below w.heap.size w w':=by
 obtain ⟨B,ga,vl,vo,vt,vf,ks,C,tk,fr,e,m,q,r,rfl⟩:=k;have b:=iX B gp ga vl vo vt vf R P ks C tk fr a w e oM;rw [kN (p:=fun c=>decide (aI C c=a)) (l:=ks) (fun c n=>zBy (g _ (zAy.2 ⟨c,n,rfl⟩))) 0] at b;clear e m g;go_enter func100,ntmps100;go_wp2_with fail;refine b.mono ?_;rintro d w1 ⟨rfl,f⟩;have j:=lhd f;clear b f;go_wp2_with fail;go_ret;exact ⟨rfl,j.out⟩
end
section
open Go.RowKit
def WalkT (w:World) (B gk:Nat) (L T:List Nat):Prop:=
 ∃b a,Bk w gk 100 #[.pointer (some ⟨b,0,none⟩),.pointer (some ⟨a,0,none⟩)]/\WaveAt w B b L/\Bk w a 199 (tcells T)
theorem WalkT.vis {w w':World} {B gk:Nat} {L T:List Nat} (d:WalkT w B gk L T) (a:Vis w w'):WalkT w' B gk L T:=by
 obtain ⟨c,b,e,f,g⟩:=d;exact ⟨c,b,a.bk e dC dC,f.vis a,a.bk g dC dC⟩
def rL (L T:List Nat) (a b:Nat):Nat:=T.countP (fun c=>decide (c < a))+(L.take b).count a
theorem aBD (B gk:Nat) (L T:List Nat) (w:World) (d:WalkT w B gk L T):
 Calls prog 96 #[gk] w fun a w'=>a=.returned (.int .i64 (L.length:Int))/\w=w':=by
 obtain ⟨c,i,b,e,f⟩:=d;have g:=b.cell 0;clear b f;go_enter func96,ntmps96;go_wp2_with fail;refine (uC B c L _ e).mono ?_;rintro a w' ⟨rfl,rfl⟩;go_wp2_with fail;go_ret;exact ⟨rfl,rfl⟩
theorem xZ (B gk:Nat) (L T:List Nat) (a:Nat) (w:World) (k:WalkT w B gk L T) (o:a < 257) (n:T.length<=1000):
 Calls prog 153 #[gk,(a:Int)] w fun c w'=>c=.returned (.int .i64 ((T.countP (fun b=>decide (b < a)):Nat):Int))/\Below w.heap.size w w':=by
 obtain ⟨q,j,d,l,e⟩:=k;have p:=d.cell 1;clear d l;have i:=lhd e;clear e;go_enter func153,ntmps153;go_wp2_with fail;refine (jZ j T a _ i.out o n).mono ?_;rintro c w' ⟨rfl,m⟩;obtain ⟨g,f⟩:∃g,T.countP (fun b=>decide (b < a))=g:=⟨_,rfl⟩;rw [f];go_wp2_with fail;go_ret;exact ⟨by rw [f];rfl,m⟩
theorem aDd (B gk:Nat) (L T:List Nat) (b:Nat) (w:World) (d:WalkT w B gk L T) (g:b < L.length):
 Calls prog 160 #[gk,(b:Int)] w fun c w'=>c=.returned (.bool true)/\w=w':=by
 obtain ⟨i,a⟩:=eqx L.length;rw [a] at g;have j:(b:Int) < (i:Int):=oM;obtain ⟨f,e⟩:=hqq2 a d;clear a d;go_enter func160,ntmps160;go_wp2_with fail;refine (aBD B gk L T w e.out).mono ?_;rintro c w' ⟨rfl,rfl⟩;rw [f.out];go_wp2_with fail;go_ret;exact ⟨rfl,rfl⟩
theorem pN (B gk:Nat) (L T:List Nat) (d b:Nat) (w:World) (D:WalkT w B gk L T) (n:L[d]?=some b) (t:∀v∈L,v < 257) (O:L.length<=1000) (J:T.length<=1000):
 Calls prog 101 #[gk,(d:Int)] w fun f w'=>f=.returned (.int .i64 ((rL L T b d:Nat):Int))/\VB B w w':=by
 have M:=(zAc.1 n).1;have Q:b < 257:=t _ (zAd n);have I:=D;obtain ⟨l,ak,m,G,a6⟩:=D;have a3:=m.cell 0;have an:=m.lt;obtain ⟨j,u⟩:=eqx (rL L T b d);obtain ⟨q,o⟩:∃aa,T.countP (fun v=>decide (v < b))=aa:=⟨_,rfl⟩;obtain ⟨r,p⟩:=eqx ((L.take d).count b);have N:q+r=j:=by rw [<-o,<-p,<-u];rfl
 have al:q<=1000:=by rw [<-o];exact zAk zBh J
 have am:r<=1000:=by rw [<-p];exact zAk zBv (by rw [zAj];omega)
 rw [u];obtain ⟨x,S,y,s,Y,z,A,W,a0⟩:=hqq9 I m G M n t O J o;obtain ⟨a1,Z⟩:=hqq2 p N;clear I m G a6 M n t O o p u N;go_enter func101,ntmps101;go_wp2_with fail;refine (aDd B gk L T d w x.out s.out).mono ?_;rintro f w1 ⟨rfl,rfl⟩;go_wp2_with fail;refine (dX B l L d b w y.out s.out (zAc.1 Y.out).2 z.out A.out).mono ?_;rintro f k ⟨rfl,i⟩;have K:=x.out.vis i.1;have E:=i.1.bk S.out dC dC;have H:=y.out.vis i.1;obtain ⟨X,U,V,a2⟩:=hqq4 K E H i;clear K E H i a3;go_wp2_with fail;refine wp_region_any kR ?_;refine aQ [20,21,22,23,24,25,26,27,28,29,30,4] (VB B) (Vs [is gk,is (b:Int),is (q:Int),is gk,is gk,is gk,is l,is (d:Int),is (b:Int),is (r:Int),is (j:Int),is (j:Int)]) _ _ rfl kR vR (fun _ _=>VisK.trans) (cV tA1) ?_ ?_
 · refine aO ?_;refine pH 0 (.pointer (some ⟨gk,0,none⟩)) ?_;refine pH 5 (.int .i64 (b:Int)) ?_;refine sC (fun _ e a _ _ _ c _ _ _ g=>?_) ?_
   · have ad:_=_:=c 0 20 kR rfl;have ae:_=_:=c 1 21 kR rfl;replace a:(VB B) k e:=bD a;go_simp;refine (xZ B gk L T b e (X.out.vis a.1) Q W.out).mono ?_;rintro f ac ⟨rfl,a7⟩;rw [a0.out];exact g _ _ (VisK.of_below a7) rfl
   refine pH 0 (.pointer (some ⟨gk,0,none⟩)) ?_;refine pV 3 23 ?_;refine pV 4 24 ?_;refine pL 5 25 (fun e a=>have a:(VB B) k e:=bD a;(((a.1.bk U.out dC dC).cell 0).trans rfl:e.cell? ⟨gk,0,none⟩=some (.pointer (some ⟨l,0,none⟩)))) ?_;refine pH 1 (.int .i64 (d:Int)) ?_;refine pH 5 (.int .i64 (b:Int)) ?_;refine sC (fun _ e a _ _ _ c _ _ _ g=>?_) ?_
   · have ag:_=_:=c 6 26 kR rfl;have ah:_=_:=c 7 27 kR rfl;have ai:_=_:=c 8 28 kR rfl;replace a:(VB B) k e:=bD a;go_simp;refine (gT B l L d b e (V.out.vis a.1) Q (zCm s.out) z.out A.out).mono ?_;rintro f ac ⟨rfl,a9⟩;rw [a1.out];exact g _ _ a9 rfl
   refine sC (fun _ _ _ _ _ _ c _ _ _ g=>?_) ?_
   · have af:_=_:=c 2 22 kR rfl;have aj:_=_:=c 9 29 kR rfl;have ao:IntKind.i64.wrap ((q:Int)+(r:Int))=(j:Int):=(by rw [IntKind.wrap_i64];have:=Z.out;omega);go_simp;exact g _ _ vR rfl
   refine pV 10 30 ?_;exact aD
 · intro a5 ab a c;replace a:(VB B) k ab:=bD a;have a4:a5 (.tmp 4)=.int .i64 (j:Int):=c 11 4 rfl;simp only [zqq];rw [a4];clear c;have a8:=a2.out.trans a;go_wp2_with fail;go_ret;exact ⟨rfl,a8⟩
def WalkE (w:World) (B:Nat) (own:Nat->Nat) (gk:Nat) (L T:List Nat):Prop:=
 ∃b a,Bk w gk 100 #[.pointer (some ⟨b,0,none⟩),.pointer (some ⟨a,0,none⟩)]/\own gk=2/\WaveE w B own b L/\Bk w a 199 (tcells T)/\own a=2
section
variable {w w' : World} {B : Nat} {own own' : Nat -> Nat} {gk : Nat} {L T : List Nat}
theorem WalkE.atT (c:WalkE w B own gk L T):WalkT w B gk L T:=by
 obtain ⟨b,a,d,_,e,f,_⟩:=c;exact ⟨b,a,d,e.at,f⟩
theorem WalkE.at (d:WalkE w B own gk L T) (g:T.Perm L):WalkAt w B gk L:=by
 obtain ⟨c,b,e,_,f,a,_⟩:=d;rw [tS g] at a;exact ⟨c,b,e,f.at,a⟩
theorem WalkE.vis (d:WalkE w B own gk L T) (a:Vis w w'):WalkE w' B own gk L T:=by
 obtain ⟨c,b,e,f,g,i,j⟩:=d;exact ⟨c,b,a.bk e dC dC,f,g.vis a,a.bk i dC dC,j⟩
theorem WalkE.far (g:WalkE w B own gk L T) {H:Nat->Prop} (d:Keep H w w') (c:∀a,H a->own a≠2/\own a < 16):WalkE w' B own gk L T:=by
 obtain ⟨f,e,i,j,k,l,m⟩:=g;exact ⟨f,e,d.bk i (fun b=>by have:=c _ b;omega),j,k.far d c,d.bk l (fun b=>by have:=c _ b;omega),m⟩
theorem WalkE.paint (k:WalkE w B own gk L T) (b:∀a,a < w.heap.size->2<=own a->own' a=own a) (l:∀a,own' a≠0->B<=a/\a < w.heap.size):WalkE w B own' gk L T:=by
 obtain ⟨j,i,c,e,f,d,g⟩:=k;exact ⟨j,i,c,by rw [b _ c.lt oM];exact e,f.paint b l,d,by rw [b _ d.lt oM];exact g⟩
theorem WalkE.tally {a:List Nat} (j:WalkE w B own gk L T) (k:T.Perm a):WalkE w B own gk L a:=by
 obtain ⟨i,g,c,d,e,b,f⟩:=j;rw [tS k] at b;exact ⟨i,g,c,d,e,b,f⟩
theorem WaveE.bnd (b:WaveE w B own gk L):∀a,own a≠0->B<=a/\a < w.heap.size:=by
 obtain ⟨c,d,b⟩:=b;exact b.bnd
theorem WalkE.bnd (c:WalkE w B own gk L T):∀a,own a≠0->B<=a/\a < w.heap.size:=by
 obtain ⟨j,i,d,e,b,f,g⟩:=c;exact b.bnd
end
structure Grew (w w':World) (own own':Nat->Nat):Prop where
 old:∀b,b < w.heap.size->own' b=own b
 new:∀b,w.heap.size<=b->own' b≠1
 keep:Keep (fun b=>own b=2∨16<=own b) w w'
theorem Grew.refl {w:World} {own:Nat->Nat} (b:∀a,own a≠0->a < w.heap.size):Grew w w own own:=⟨fun _ _=>rfl,fun a d c=>by have:=b a oM;omega,Keep.refl _ _⟩
theorem Grew.trans {w w1 w':World} {own e own':Nat->Nat} (b:Grew w w1 own e) (d:Grew w1 w' e own'):Grew w w' own own':=by
 have i:=b.keep.size;refine ⟨fun a c=>(d.old a oM).trans (b.old a c),fun a c=>?_,b.keep.trans' d.keep fun a c g=>by rw [<-b.old a c];exact g⟩;by_cases f:a < w1.heap.size;rw [d.old a f];exact b.new a c;exact d.new a oM
theorem Grew.of_vb {B:Nat} {w w':World} {own:Nat->Nat} (c:Keep (fun a=>own a=2∨16<=own a) w w') (b:∀a,own a≠0->a < w.heap.size):Grew w w' own own:=⟨fun _ _=>rfl,fun a e d=>by have:=b a oM;omega,c⟩
theorem eO (B gk:Nat) (own:Nat->Nat) (L T:List Nat) (f g:Nat) (w:World) (b:WalkE w B own gk L T) (Q:g < 257) (N:f<=L.length) (H:∀S∈L,S < 257) (O:L.length<=127):
 Calls prog 57 #[gk,(f:Int),(g:Int)] w fun n w'=>n=.returned (.tuple #[])/\∃own',WalkE w' B own' gk (aP L f g) T/\Grew w w' own own':=by
 obtain ⟨c,o,d,E,e,k,G⟩:=b;have D:w.cell? ⟨gk,0,none⟩=some (.pointer (some ⟨c,0,none⟩)):=(d.cell 0).trans rfl;have I:=d.lt;have M:own c=2:=by obtain ⟨m,v,b⟩:=e;exact b.base.2
 have J:gk≠c:=by obtain ⟨m,v,b⟩:=e;exact Bk.ne d b.blk dC
 have K:o≠c:=by obtain ⟨m,v,b⟩:=e;exact Bk.ne k b.blk dC
 obtain ⟨x,y,l⟩:=hqq3 d e k;clear d e k;go_enter func57,ntmps57;go_wp2_with fail;refine (xV B c own L f g w y.out Q N H O).mono ?_;rintro n w1 ⟨rfl,own',u,j,s,i⟩;have q:=i.bk x.out (fun a=>by rcases a with a | a;exact J a;omega);have t:=i.bk l.out (fun a=>by rcases a with a | a;exact K a;omega);have r:Grew w w1 own own':=⟨j,s,i.mono fun U _ a=>by rcases a with a | a;left;rw [a,M];right;exact a⟩;have A:=lhd r;have p:WalkE w1 B own' gk (aP L f g) T:=⟨c,o,q,by rw [j _ I];exact E,u,t,by rw [j _ l.out.lt];exact G⟩;have z:=lhd p;clear u j s i q t r p D;go_wp2_with fail;go_end0;exact ⟨rfl,own',z.out,A.out⟩
theorem gF (B gk:Nat) (own:Nat->Nat) (L T:List Nat) (f k:Nat) (w:World) (b:WalkE w B own gk L T) (s:L[f]?=some k) (J:∀S∈L,S < 257) (Q:L.length<=128):
 Calls prog 92 #[gk,(f:Int)] w fun n w'=>n=.returned (.int .i64 (k:Int))/\∃own',WalkE w' B own' gk (aG L f) T/\Grew w w' own own':=by
 obtain ⟨c,o,d,H,e,j,I⟩:=b;have G:w.cell? ⟨gk,0,none⟩=some (.pointer (some ⟨c,0,none⟩)):=(d.cell 0).trans rfl;have K:=d.lt;have O:own c=2:=by obtain ⟨m,x,b⟩:=e;exact b.base.2
 have M:gk≠c:=by obtain ⟨m,x,b⟩:=e;exact Bk.ne d b.blk dC
 have N:o≠c:=by obtain ⟨m,x,b⟩:=e;exact Bk.ne j b.blk dC
 obtain ⟨y,z,l,E⟩:=hqq4 d e j s;clear d e j s;go_enter func92,ntmps92;go_wp2_with fail;refine (xW B c own L f k w z.out E.out J Q).mono ?_;rintro n w1 ⟨rfl,own',v,i,t,g⟩;have q:=g.bk y.out (fun a=>by rcases a with a | a;exact M a;omega);have u:=g.bk l.out (fun a=>by rcases a with a | a;exact N a;omega);have r:Grew w w1 own own':=⟨i,t,g.mono fun U _ a=>by rcases a with a | a;left;rw [a,O];right;exact a⟩;have D:=lhd r;have p:WalkE w1 B own' gk (aG L f) T:=⟨c,o,q,by rw [i _ K];exact H,v,u,by rw [i _ l.out.lt];exact I⟩;have A:=lhd p;clear v i t g q u r p G;go_wp2_with fail;go_ret;exact ⟨rfl,own',A.out,D.out⟩
theorem jY (B gk:Nat) (own:Nat->Nat) (L T:List Nat) (a q b:Nat) (w:World) (m:WalkE w B own gk L T) (j:L[a]?=some q) (A:b < 257) (o:∀G∈L,G < 257) (z:L.length<=128):
 Calls prog 55 #[gk,(a:Int),(b:Int)] w fun c w'=>c=.returned (.tuple #[])/\∃own',WalkE w' B own' gk (L.set a b) T/\Grew w w' own own':=by
 have d:=(zAc.1 j).1;have H:=cW L d;have p:aP (aG L a) a b=L.set a b:=by
  apply List.ext_getElem?;intro e;rw [iT _ _ oM,zBm];by_cases f:e < a
  · rw [zBx f,zBw oM,dW _ d,zBx f]
  · rw [zBw f];by_cases g:e=a
    · subst g;rw [zBx rfl,zBx rfl,zBx d]
    · rw [zBw g,zBw (fun c=>g c.symm),dW _ d,zBw oM,show e - 1+1=e by omega]
 obtain ⟨t,x,y⟩:=hqq3 m j p;clear m j p;go_enter func55,ntmps55;go_wp2_with fail;refine (gF B gk own L T a q w t.out x.out o z).mono ?_;rintro c w1 ⟨rfl,D,n,k⟩;obtain ⟨u,r⟩:=hqq2 n k;clear n k;go_wp2_with fail;refine (eO B gk D (aG L a) T a b w1 u.out A oM (oW o) oM).mono ?_;rintro c I ⟨rfl,E,i,l⟩;rw [y.out] at i;obtain ⟨v,s⟩:=hqq2 i (r.out.trans l);clear i l;go_wp2_with fail;go_end0;exact ⟨rfl,E,v.out,s.out⟩
theorem fV (B gk:Nat) (own:Nat->Nat) (L T:List Nat) (g:Nat) (w:World) (b:WalkE w B own gk L T) (U:g < 257) (M:T.length<=1000):
 Calls prog 58 #[gk,(g:Int),.int .i64 1] w fun d w'=>d=.returned (.tuple #[])/\WalkE w' B own gk L (T++ [g])/\Grew w w' own own:=by
 have N:=b.bnd;obtain ⟨m,e,f,K,n,l,o⟩:=b;have Y:w.cell? ⟨gk,1,none⟩=some (.pointer (some ⟨e,0,none⟩)):=(f.cell 1).trans rfl;have Z:=f.lt;have O:gk≠e:=Bk.ne f l dC;obtain ⟨x,y,i⟩:=hqq3 f n l;clear f n l;go_enter func58,ntmps58;go_wp2_with fail;refine (sF e T g w i.out U M).mono ?_;rintro d w1 ⟨rfl,t,c⟩;have q:=c.bk x.out O;have u:WaveE w1 B own m L:=by
  obtain ⟨D,X,b⟩:=y.out;refine ⟨D,X,c.bk b.blk (Bk.ne b.blk i.out dC),b.base,fun V Q=>?_,fun a j=>⟨(b.bnd a j).1,zAl (b.bnd a j).2 c.size⟩⟩;obtain ⟨v,H,I,J⟩:=b.rows V Q;exact ⟨v,aA H fun a E _ k=>c.bk k (Bk.ne k i.out dC),I,fun W S=>(J W S).keep c fun a a0 E s k _ d=>by
   have G:a=e:=d;subst G;rw [(aM k i.out).1] at s;exact absurd s dC⟩
 have p:WalkE w1 B own gk L (T++ [g]):=⟨m,e,q,K,u,t,o⟩;have r:Grew w w1 own own:=Grew.of_vb (B:=B) (c.mono fun a _ d=>by left;rw [show a=e from d,o]) fun a j=>(N a j).2;obtain ⟨z,A⟩:=hqq2 p r;clear t c q u p r;go_wp2_with fail;go_end0;exact ⟨rfl,z.out,A.out⟩
theorem lL (B gk:Nat) (own:Nat->Nat) (L T i:List Nat) (l:Nat) (w:World) (b:WalkE w B own gk L T) (r:T.Perm (l::i)) (X:l < 257) (Q:T.length<=1000):
 Calls prog 58 #[gk,(l:Int),.int .i64 (-1)] w fun d w'=>d=.returned (.tuple #[])/\WalkE w' B own gk L i/\Grew w w' own own:=by
 have S:=b.bnd;obtain ⟨n,e,f,O,o,m,p⟩:=b;have a1:w.cell? ⟨gk,1,none⟩=some (.pointer (some ⟨e,0,none⟩)):=(f.cell 1).trans rfl;have a2:=f.lt;have U:gk≠e:=Bk.ne f m dC;obtain ⟨z,A,g,G⟩:=hqq4 f o m r;clear f o m r;go_enter func58,ntmps58;go_wp2_with fail;refine (aBH e T i l w G.out g.out X Q).mono ?_;rintro d w1 ⟨rfl,v,c⟩;have s:=c.bk z.out U;have x:WaveE w1 B own n L:=by
  obtain ⟨H,a0,b⟩:=A.out;refine ⟨H,a0,c.bk b.blk (Bk.ne b.blk g.out dC),b.base,fun Y V=>?_,fun a j=>⟨(b.bnd a j).1,zAl (b.bnd a j).2 c.size⟩⟩;obtain ⟨y,K,M,N⟩:=b.rows Y V;exact ⟨y,aA K fun a I _ k=>c.bk k (Bk.ne k g.out dC),M,fun Z W=>(N Z W).keep c fun a a3 I u k _ d=>by
   have J:a=e:=d;subst J;rw [(aM k g.out).1] at u;exact absurd u dC⟩
 have q:WalkE w1 B own gk L i:=⟨n,e,s,O,x,v,p⟩;have t:Grew w w1 own own:=Grew.of_vb (B:=B) (c.mono fun a _ d=>by left;rw [show a=e from d,p]) fun a j=>(S a j).2;obtain ⟨D,E⟩:=hqq2 q t;clear v c s x q t;go_wp2_with fail;go_end0;exact ⟨rfl,D.out,E.out⟩
end
section
open Go.RowKit Go.Shelf
theorem pG:∀ {l m:List Nat},l.Nodup->(∀a∈l,a∈m)->l.length<=m.length
 | [],m,_,_=>zAp _
 | a::l,m,hn,hs=>by
   obtain ⟨f,g⟩:=List.nodup_cons.1 hn;have b:=hs a (by simp);have:=pG (l:=l) (m:=m.erase a) g fun d c=>by have i:d≠a:=fun e=>f (by rw [<-e];exact c);exact (List.mem_erase_of_ne i).2 (hs d (by simp [c]))
   have j:=List.length_erase_of_mem b;have k:=List.length_pos_of_mem b;rw [zCg];omega
theorem aED {a:List Nat} {f:Nat->Nat} (k:a.Pairwise (fun g i=>f g < f i)) (e:Nat) (p:∀b∈a,f b≠f e):(aP a (a.countP fun b=>decide (f b < f e)) e).Pairwise (fun g i=>f g < f i):=by
 unfold aP;have m:=fun (d b:Nat) (j:a[d]?=some b)=>aES k (f e) d b j;obtain ⟨c,o⟩:∃c,(a.countP fun b=>decide (f b < f e))=c:=⟨_,rfl⟩;rw [o] at m⊢;rw [List.pairwise_append];refine ⟨k.sublist (List.take_sublist c a),List.pairwise_cons.2 ⟨fun b l=>?_,k.sublist (List.drop_sublist c a)⟩,fun b l r n=>?_⟩;obtain ⟨d,j,rfl⟩:=List.getElem_of_mem l;rw [zAw] at j;rw [List.getElem_drop];have s:=m (c+d) a[c+d] (zAa oM);have t:=p a[c+d] (zBj oM);omega;have q:f b < f e:=(by obtain ⟨d,j,rfl⟩:=List.getElem_of_mem l;rw [zAj] at j;rw [List.getElem_take];exact (m d a[d] (zAa oM)).2 oM);rcases List.mem_cons.1 n with rfl | n;exact q;have:=List.pairwise_append.1 (show (a.take c++a.drop c).Pairwise (fun g i=>f g < f i) by rw [zAu];exact k);exact this.2.2 b l r n
theorem aC6 (tk:List Bool) (a:Nat) (b:Bool):(tk++ [true])[a]?=some b↔tk[a]?=some b∨(a=tk.length/\b=true):=by
 by_cases e:a < tk.length;rw [zAn e];constructor;exact .inl;rintro (d |⟨d,_⟩);exact d;omega
 · rw [zAo oM,zBg (show tk.length<=a by omega)];by_cases c:a=tk.length
   · subst c;cases b <;> simp
   · rw [zBg (by simp;omega)];simp [c]
def AF (ga:Nat) (vt vf:Value) (a:Nat):Prop:=a=ga∨vt.ownBlock=some a∨vf.ownBlock=some a
section
variable {w : World} {F : Nat -> Prop} {gp ga : Nat} {vl vo vt vf : Value} {R P : Nat} {ks : List Nat} {C : List (Nat × Nat)} {tk : List Bool} {fr : List Nat}
theorem PermX.arena (k:PermX w F gp ga vl vo vt vf R P ks C tk fr):ArenaE w (AF ga vt vf) ga tk fr:=by
 have a:=k.at_;obtain ⟨d,g,i,_⟩:=aR a.trow;obtain ⟨c,f,j,_⟩:=aR a.frow;subst i j;exact ⟨.inl rfl,d,g,c,f,a.ar,bZ a.trow (zAp _),bZ a.frow (zAp _),fun e b=>.inr (.inl b),fun e b=>.inr (.inr b)⟩
theorem PermX.af (c:PermX w F gp ga vl vo vt vf R P ks C tk fr) {b:Nat} (a:AF ga vt vf b):F b:=by
 rcases a with rfl | a | a;exact c.fa;exact c.ft b a;exact c.ff b a
theorem PermX.af_lt (c:PermX w F gp ga vl vo vt vf R P ks C tk fr) {b:Nat} (a:AF ga vt vf b):b < w.heap.size:=by
 rcases a with rfl | a | a;exact c.at_.ar.lt;exact (c.at_.trow.lt b a).2;exact (c.at_.frow.lt b a).2
theorem PermX.gp_af (e:PermX w F gp ga vl vo vt vf R P ks C tk fr):¬AF ga vt vf gp:=by
 have a:=e.at_;rintro (b | b | b);exact Bk.ne a.blk a.ar dC b;obtain ⟨d,c⟩:=eT a.trow b;exact absurd (aM c a.blk).1 dC;obtain ⟨d,c⟩:=eT a.frow b;exact absurd (aM c a.blk).1 dC
theorem PermX.pair_af (i:PermX w F gp ga vl vo vt vf R P ks C tk fr) {e:Nat} {f:Array Value} (c:Bk w e 170 f):¬AF ga vt vf e:=by
 have b:=i.at_;rintro (a | a | a);exact Bk.ne c b.ar dC a;obtain ⟨g,d⟩:=eT b.trow a;exact absurd (aM d c).1 dC;obtain ⟨g,d⟩:=eT b.frow a;exact absurd (aM d c).1 dC
theorem PermX.ord_af (g:PermX w F gp ga vl vo vt vf R P ks C tk fr) {e:Nat} (c:vo.ownBlock=some e):¬AF ga vt vf e:=by
 have b:=g.at_;obtain ⟨j,f⟩:=eT b.orow c;rintro (a | a | a);exact Bk.ne f b.ar dC a;obtain ⟨k,i⟩:=eT b.trow a;exact absurd (aM f i).1 dC
 · rcases b.apart with d | d
   · rw [d] at c;cases c
   exact d (c.trans a.symm)
end
def aDi (ga b:Nat) (vt vf:Value) (ks:List Nat) (w:World) (d:Ending) (w':World):Prop:=
 ∃(c:Nat) (tk:List Bool) (fr:List Nat),d=.returned (.tuple #[(c:Int),.int .i64 0])/\c∉ks/\ArenaE w' (Gw (AF ga vt vf) w.heap.size) ga tk fr/\((c < b/\tk.length=b)∨(c=b/\tk.length=b+1/\b<=ks.length))/\(∀a,tk[a]?=some true↔a∈ks∨a=c)/\fr.Nodup/\(∀a,a∈fr↔tk[a]?=some false)/\Keep (AF ga vt vf) w w'
theorem aBV (F:Nat->Prop) (gp ga R P:Nat) (vl vo vt vf:Value) (ks:List Nat) (C:List (Nat×Nat)) (tk:List Bool) (fr:List Nat) (w:World) (b:PermX w F gp ga vl vo vt vf R P ks C tk fr):
 Calls prog 150 #[ga] w (aDi ga C.length vt vf ks w):=by
 have V:=b.arena;have i:=b.at_;have ac:=b.sz;have E:∀a∈fr,a < tk.length:=fun a g=>(zAc.1 ((b.frk a).1 g)).1;rcases List.eq_nil_or_concat fr with a0 |⟨n,e,a1⟩
 · subst a0;obtain ⟨M,O,k,_⟩:=aR i.trow;obtain ⟨z,A,s,_⟩:=aR i.frow;have D:=i.ar;have y:=i.trow;rw [k,s] at D;rw [k] at y;have t:=sH 0 ga M O z A tk.length tk w D y (zAp _) (by have:=b.tkl;omega);refine t.mono ?_;rintro q w' ⟨rfl,o,ad,Y,K,a3⟩;have a7:tk.length∉ks:=fun v=>by have:=(b.tkk _).2 v;rw [zBg nL] at this;cases this
   obtain ⟨N,Q,r,_⟩:=aR K;have a5:Keep (AF ga vt vf) w w':=o.mono fun j _ c=>by rcases c with c | c;exact .inl c;exact .inr (.inl (by rw [k];exact c))
   have G:w'.ownsRow 0 3 1 vf 0 []:=by
    have:=aA (w':=w') (bZ i.frow (zAp _)) fun j a9 _ d=>o.bk d fun c=>by rcases c with c | c;exact Bk.ne d i.ar dC c;obtain ⟨aa,Z⟩:=eT y c;exact absurd (aM d Z).1 dC
    exact this
   rw [s] at G;have p:(tk++ [true]).length=tk.length+1:=(by simp);have x:=b.tkl;have X:C.length<=ks.length:=by
    have U:=pG (l:=List.range C.length) (m:=ks) List.nodup_range fun a g=>by
        rw [zCj,<-x] at g;cases d:tk[a] with
        | true=>exact (b.tkk a).1 (by rw [zAa g,d])
        | false=>exact absurd ((b.frk a).2 (by rw [zAa g,d])) (by simp)
    simpa using U
   refine ⟨tk.length,tk++ [true], [],rfl,a7,⟨.inl (.inl rfl),N,Q,z,A,?_,?_,G,?_,?_⟩,.inr ⟨x,by rw [p,x],X⟩,fun a=>?_,List.nodup_nil,fun a=>?_,a5⟩;rw [p,<-r];exact Y;rw [p,<-r];exact K;intro j d;rw [p,<-r] at d;rcases a3 with c |⟨ab,c,S⟩;rw [c] at d;exact .inl (.inr (.inl (by rw [k];exact d)));rw [c] at d;injection d with d;subst d;exact .inr S;intro j d;exact .inl (.inr (.inr (by rw [s];exact d)))
   · rw [<-b.tkk a,aC6];simp
   · rw [b.frk a,aC6];simp
 · have a2:fr=n++ [e]:=(by simpa using a1);subst a2;have o:=(b.frk e).1 (by simp);have u:=E e (by simp);have I:=b.frn;have a6:(n++ [e]).length<=tk.length:=gQ I E;have t:=uF (AF ga vt vf) ga e tk n w V u (by have:=b.tkl;omega) (by simp at a6;omega);refine t.mono ?_;rintro q w' ⟨rfl,W,a4⟩;have a8:e∉ks:=fun v=>by have:=(b.tkk e).2 v;rw [o] at this;cases this
   have J:=List.nodup_append.1 I;have H:∀a,(tk.set e true)[a]?=if a=e then some true else tk[a]?:=fun a=>by
    rw [zBm];by_cases f:e=a
    · subst f;simp [u]
    · rw [zBw f,zBw (fun q=>f q.symm)]
   refine ⟨e,tk.set e true,n,rfl,a8,W.mono fun j _ c=>.inl c,.inl ⟨by rw [<-b.tkl];exact u,by rw [zAt,b.tkl]⟩,fun a=>?_,J.1,fun a=>?_,a4⟩
   · rw [H,<-b.tkk a];by_cases f:a=e
     · simp [f]
     · simp [f]
   · rw [H];by_cases f:a=e
     · subst f;rw [zBx rfl];constructor;intro g;exact absurd rfl (J.2.2 a g a (by simp))
       · intro g;cases g
     · rw [zBw f,<-b.frk a];simp [f]
theorem PermX.stow {w w':World} {F:Nat->Prop} {gp ga R P k row pos i n0:Nat} {vl' vo':Value} {ks:List Nat} {C C9:List (Nat×Nat)} {tk:List Bool} {fr:List Nat} {AFF:Nat->Prop}
 (V:∀a∈ks,a < C.length) (X:ks.Nodup) (x:k∉ks) (u:k < C9.length) (H:C.length<=C9.length) (a2:C9.length<=1000) (a4:tk.length=C9.length)
 (Q:∀a∈ks,(aB C9 a,aI C9 a)=(aB C a,aI C a)) (a0:ks.Pairwise (fun d b=>aB C d < aB C b)) (t:i=ks.countP fun a=>decide (aB C a < row)) (Y:∀a∈ks,aB C a≠row)
 (m:Bk w' gp 166 #[ga,vl',vo',.int .i64 (R:Int),(P:Int)])
 (W:w'.ownsRow 0 170 2 vl' C9.length (bU (C9.set k (row,pos)))) (Z:w'.ownsRow 0 3 1 vo' (ks.length+1) ((aP ks i k).map sv))
 (l:ArenaE w' AFF ga tk fr) (q:∀b,AFF b->F b) (O:F ga) (S:F gp) (a6:OwnF F vl') (a7:OwnF F vo') (J:∀b,vo'.ownBlock=some b->¬AFF b)
 (a3:∀a,tk[a]?=some true↔a∈ks∨a=k) (N:fr.Nodup) (M:∀a,a∈fr↔tk[a]?=some false):
 ∃vt vf,PermX w' F gp ga vl' vo' vt vf R P (aP ks i k) (C9.set k (row,pos)) tk fr/\((aP ks i k).map fun a=>(aB (C9.set k (row,pos)) a,aI (C9.set k (row,pos)) a))=aP (ks.map fun a=>(aB C a,aI C a)) i (row,pos)/\(aP ks i k).Pairwise (fun d b=>aB (C9.set k (row,pos)) d < aB (C9.set k (row,pos)) b):=by
 obtain ⟨ac,a9,ab,a8,aa,A,D,E,G,p⟩:=l;have U:i<=ks.length:=by rw [t];exact zBh
 have r:∀a,(aB (C9.set k (row,pos)) a,aI (C9.set k (row,pos)) a)=if a=k then (row,pos) else (aB C9 a,aI C9 a):=fun a=>by
  unfold aB aI;rw [zAb,zBm];by_cases j:k=a;subst j;rw [zBx rfl,zBx rfl,zBx u];rfl
  · rw [zBw j,zBw (fun e=>j e.symm),zAb]
 have s:∀a∈ks,(aB (C9.set k (row,pos)) a,aI (C9.set k (row,pos)) a)=(aB C a,aI C a):=fun a c=>by rw [r,zBw (fun e=>x (by rw [<-e];exact c)),Q a c]
 have o:=r k;rw [zBx rfl] at o;have y:(aP ks i k).Perm (k::ks):=eX _ _ _;have v:∀a,a∈aP ks i k↔a=k∨a∈ks:=fun a=>by rw [y.mem_iff,List.mem_cons]
 refine ⟨_,_,⟨⟨m,by rw [zAt];exact W,by rw [eF _ _ U];exact Z,A,D,E,?_,fun a c=>?_,⟨zAp _,zAp _⟩⟩,S,O,a6,a7,fun b n=>q b (G b n),fun b n=>q b (p b n),y.nodup_iff.2 (List.nodup_cons.2 ⟨x,X⟩),by rw [zAt];exact a4,fun a=>by rw [a3 a,v a];exact Or.comm,N,M,by rw [zAt];exact a2⟩,?_,?_⟩
 · cases a5:vo'.ownBlock with
   | none=>exact .inl rfl
   | some b=>exact .inr fun e=>J b a5 (p b e.symm)
 rw [zAt];rcases (v a).1 c with rfl | c;exact u;exact zAl (V a c) H;rw [nP,o];congr 1;exact List.map_congr_left fun a c=>s a c
 · have g:∀a∈ks,aB (C9.set k (row,pos)) a=aB C a:=fun a c=>(Prod.mk.inj (s a c)).1;have z:aB (C9.set k (row,pos)) k=row:=(Prod.mk.inj o).1;have a1:ks.Pairwise (fun d b=>aB (C9.set k (row,pos)) d < aB (C9.set k (row,pos)) b):=(by refine List.Pairwise.imp_of_mem (fun {d b} l m I=>?_) a0;rw [g d l,g b m];exact I);have:=aED (f:=aB (C9.set k (row,pos))) a1 k fun a c=>by rw [g a c,z];exact Y a c
   have K:(ks.countP fun a=>decide (aB (C9.set k (row,pos)) a < aB (C9.set k (row,pos)) k))=i:=(by rw [t,z];refine List.countP_congr fun a c=>?_;rw [g a c]);rw [K] at this;exact this
def wK (w:World) (gp:Nat):Nat:=match w.cell? ⟨gp,1,none⟩ with
 | some (.slice _ a _)=>a
 | _=>0
structure AddL (F:Nat->Prop) (gp ga R P k:Nat) (vo:Value) (ks:List Nat) (C:List (Nat×Nat)) (tk:List Bool) (fr9:List Nat) (AFF:Nat->Prop) (n3:Nat) (w2 wr:World) (A9:Option Addr) (M c9:Nat) (C9:List (Nat×Nat)):Prop where
 blk:Bk wr gp 166 #[ga,.slice A9 M c9,vo,(R:Int),(P:Int)]
 own:wr.ownsRow 0 170 2 (.slice A9 M c9) M (bU C9)
 len:C9.length=M
 lo:C.length<=M
 hi:M<=max C.length (k+1)
 get:∀x∈ks,(aB C9 x,aI C9 x)=(aB C x,aI C x)
 ord:wr.ownsRow 0 3 1 vo ks.length (ks.map sv)
 ar:ArenaE wr AFF ga tk fr9
 keep:Keep F w2 wr
 fl:OwnF (Gw F w2.heap.size) (.slice A9 M c9)
 k3:n3<=wr.heap.size
theorem aB3 (F:Nat->Prop) (gp R P row s:Nat) (a9:List (Nat×Nat)) (w:World) (cH:PermE w F gp R P a9) (cY:row < R) (cX:s < P) (bY:∀H∈a9,H.1≠row) (bW:∀H∈a9,H.2≠s) (bS:a9.length<=900):
 Calls prog 90 #[gp,(row:Int),(s:Int)] w fun d w'=>d=.returned (.int .i64 0)/\(∃cb,cb.Perm ((row,s)::a9)/\PermE w' (Gw F w.heap.size) gp R P cb)/\Keep F w w':=by
 obtain ⟨⟨ga,vl,vo,vt,vf,ks,C,tk,fr,v,rfl⟩,c4,bD⟩:=cH;obtain ⟨d4,cR,d1,d2,d3⟩:=info_parts tD;have U:=v.at_;have c3:=List.pairwise_map.1 c4;have b4:ks.Pairwise (fun U a=>aB C U < aB C a):=c3;have b2:∀c∈ks,aB C c≠row:=fun c x=>bY _ (zAy.2 ⟨c,x,rfl⟩);have bX:∀c∈ks,aI C c≠s:=fun c x=>bW _ (zAy.2 ⟨c,x,rfl⟩);have bG:∀c∈ks,aB C c < R/\aI C c < P:=fun c x=>bD _ (zAy.2 ⟨c,x,rfl⟩);have cS:ks.length<=900:=by simpa using bS
 obtain ⟨a1,ak⟩:∃a1,(ks.countP fun c=>decide (aB C c < row))=a1:=⟨_,rfl⟩;have bM:a1<=ks.length:=by rw [<-ak];exact zBh
 have bK:decide (∃c∈ks,aB C c=row)=false:=by rw [decide_eq_false_iff_not];rintro ⟨c,x,d⟩;exact b2 c x d
 have bL:iZ (fun c=>decide (aI C c=s)) ks 0=-1:=kN (fun c x=>by simpa using bX c x) 0;have aO:=kA 0 gp ga vl vo vt vf R P ks C tk fr row w U b4 oM;rw [ak,bK] at aO;have aZ:=fun cx cN=>iX 0 gp ga vl vo vt vf R P ks C tk fr s cx cN oM;simp only [bL] at aZ;have cz:w.cell? ⟨gp,3,none⟩=some (.int .i64 (R:Int)):=(U.blk.cell 3).trans rfl;have cA:w.cell? ⟨gp,4,none⟩=some (.int .i64 (P:Int)):=(U.blk.cell 4).trans rfl;obtain ⟨N,b1⟩:=eqx ks.length;obtain ⟨S,aK⟩:=eqx C.length;have dm:N<=900:=oM;have dg:S<=1000:=by rw [<-aK];exact v.sz
 obtain ⟨bp,ax,cu,cq,ci,cl,J,A⟩:=hqq8 aZ v b4 b2 bG ak b1 aK;rw [b1] at bM;clear c3 bK bL aZ c4 bD bY bW b2 bX bG v U b4 ak bS cS b1 aK;go_enter func90,ntmps90;go_wp2_with fail;refine aO.mono ?_;clear aO;rintro d w1 ⟨rfl,aQ⟩;have ag:=ax.out.at_.below aQ;obtain ⟨aw,ay⟩:=hqq2 ag aQ;clear ag aQ cz cA;go_wp2_with fail;refine (bp.out w1 aw.out).mono ?_;rintro d o ⟨rfl,aT⟩;have bC:=ay.out.trans (aT.mono ay.out.size);have be:PermX o F gp ga vl vo vt vf R P ks C tk fr:= { ax.out with at_:=aw.out.below aT };have cy:o.cell? ⟨gp,0,none⟩=some (.pointer (some ⟨ga,0,none⟩)):=(be.at_.blk.cell 0).trans rfl;obtain ⟨l,bl⟩:=hqq2 be bC;clear be bC aT aw ay bp ax;go_wp2_with fail;have aL:=aBV F gp ga R P vl vo vt vf ks C tk fr o l.out;unfold aDi at aL;refine aL.mono ?_;clear aL;rintro d t ⟨c,aa,a2,rfl,bV,bx,bH,c5,bJ,bI,X⟩;have a5:=X.bk l.out.at_.blk l.out.gp_af;have ao:=aA (w':=t) l.out.at_.lrow fun a e _ b=>X.bk b (l.out.pair_af b);have ap:=aA (w':=t) l.out.at_.orow fun a e b x=>X.bk x (l.out.ord_af b);obtain ⟨av,aE,c6,_⟩:=aR ao;obtain ⟨ab,ae,M,_⟩:=aR ap;have b9:vl=.slice av S aE:=by rw [c6,A.out]
 have c8:vo=.slice ab N ae:=by rw [M,J.out]
 rw [A.out] at ao;rw [J.out] at ap;have V:t.cell? ⟨gp,1,none⟩=some (.slice av S aE):=(a5.cell 1).trans (by rw [b9];rfl);have aH:=a5.frozen 1;have cP:=a5.lt;have dl:c<=S:=by have:=A.out;omega
 have bO:Keep F o t:=X.mono fun a _ g=>l.out.af g;obtain ⟨cm,br⟩:=hqq2 X bO;have bh:=lhd (bx.mono (G:=fun a=>Gw (AF ga vt vf) o.heap.size a/\a < t.heap.size) fun a b g=>⟨g,b⟩);obtain ⟨bm,bn,bt,bu,az,da,cp,cv,ck⟩:=hqq9 bH a5 ao ap b9 c8 bV c5 bJ;have cj:=lhd bI;have bw:=(World.cell?_alloc_lt t (Obj.cells #[.int .i64 0,.int .i64 0] 170) ⟨gp,1,none⟩ cP).trans V;clear X bO bx bH a5 ao ap c6 M b9 c8 bV c5 bJ bI cy;have bN:AddL F gp ga R P c vo ks C aa a2 (fun a=>Gw (AF ga vt vf) o.heap.size a/\a < t.heap.size) t.heap.size o t av S aE C:=
  ⟨by have:=bn.out;rwa [az.out] at this,by have:=bt.out;rwa [az.out] at this,A.out,by rw [A.out];exact zAs _,by have:=A.out;omega,fun H _=>rfl,by rw [J.out];exact bu.out,bh.out,br.out,fun a b=>.inl (l.out.fl a (by rw [az.out];exact b)),zAs _⟩
 have bq:=lhd bN;clear bN V aH bw;go_wp2_with fail;go_loopw [] (fun wr=>∃E f y u,AddL F gp ga R P c vo ks C aa a2 (fun a=>Gw (AF ga vt vf) o.heap.size a/\a < t.heap.size) t.heap.size o wr E f y u) (fun wr=>c+1 - wK wr gp)
 case atStart=>exact ⟨_,_,_,_,bq.out⟩
 case round=>
  obtain ⟨E,f,y,u,r⟩:=hrel;clear bq bn bt bu bh br cm;have V:wr.cell? ⟨gp,1,none⟩=some (.slice E f y):=(r.blk.cell 1).trans rfl;have aH:=r.blk.frozen 1;have cQ:=r.blk.lt;have cJ:=r.len;have cK:=r.lo;have cL:=r.hi;rw [A.out] at cK cL;by_cases bT:f<=c
  · have cT:decide (f<=c)=true:=zBz bT;have cU:(f:Int)<=(c:Int):=oM;obtain rfl:f=S:=oM;have bw:=(World.cell?_alloc_lt wr (Obj.cells #[.int .i64 0,.int .i64 0] 170) ⟨gp,1,none⟩ cQ).trans V;have c1:wK wr gp=f:=(by unfold wK;rw [V]);obtain ⟨m,cs⟩:=hqq2 r c1;clear r c1;go_wp2_with (at_builtin;refine bF _ rfl (.tmp 72) (.tmp 74) _ rfl 0 170 d4 (.agg #[.int .i64 0,.int .i64 0]) 2 16 underlying109 cR d1 d2 d3 rfl dC (.slice E f y) f _ rfl m.out.own rfl rfl (by simp [Value.oneCell']) (by unfold maxLen;omega) oM (zAp _) ?_;intro du D b3 aW dq bB;have ah:=m.out.blk.grown aW (bE m.out.own m.out.blk dC);have dc:D.cell? ⟨gp,1,none⟩=some (.slice E f y):=(ah.cell 1).trans rfl;have de:=ah.frozen 1;obtain ⟨I,K,rfl,cV⟩:=aU b3;obtain ⟨ac,bs,Q,bi⟩:=hqq4 ah b3 aW bB;clear cV b3 aW bB ah);have a7:Keep (fun a=>(Value.slice E f y).ownBlock=some a) wr D:=⟨Q.out.os,Q.out.tape,Q.out.output,Q.out.size,fun a b an=>Q.out.block a b fun d=>an d.symm⟩
    have aJ:AddL F gp ga R P c vo ks C aa a2 (fun a=>Gw (AF ga vt vf) o.heap.size a/\a < t.heap.size) t.heap.size o (D.setCell ⟨gp,1,none⟩ (.slice I (f+1) K)) I (f+1) K (u++ [(0,0)]):=by
        have L:=m.out;have W:∀a j e,j≠166->Bk D a j e->Bk (D.setCell ⟨gp,1,none⟩ (.slice I (f+1) K)) a j e:=fun a j e n b=>b.far (p:=⟨gp,1,none⟩) (Bk.ne b ac.out n) _;have dn:∀a,(Value.slice E f y).ownBlock=some a->Gw F o.heap.size a:=fun a b=>L.fl a b;have an:∀a j e,j≠170->Bk wr a j e->¬((Value.slice E f y).ownBlock=some a):=fun a j e n b d=>by obtain ⟨cB,aV⟩:=eT L.own d;exact n (aM b aV).1
        refine ⟨ac.out.set 1 _,?_,by rw [zAi,L.len];rfl,by have:=L.lo;omega,by omega,fun H v=>?_,?_,?_,?_,?_,?_⟩;rw [kJ];exact aA bs.out fun a e _ b=>W _ _ _ dC b
        · rw [<-L.get H v];have ds:=l.out.at_.lt H v;unfold aB aI;rw [zAb,zAb,zAn (by have:=L.lo;have:=L.len;omega)]
        exact aA L.ord fun a e _ b=>W _ _ _ dC (a7.bk b (an _ _ _ dC b));refine (L.ar.keep a7 fun a j e n b _=>an a j e (fun d=>by subst d;revert n;decide) b).keep (G:=fun a=>a=gp) (Keep.setCell (F:=fun a=>a=gp) (Keep.refl _ _) (p:=⟨gp,1,none⟩) (.inl rfl) _) fun a j e n b _ d=>?_;have aG:a=gp:=d;subst aG;rw [(aM b ac.out).1] at n;revert n;decide;refine Keep.setCell (F:=F) (L.keep.trans' a7 fun a b g=>?_) (p:=⟨gp,1,none⟩) (.inl l.out.fp) _;rcases L.fl a g with z | z;exact z;omega;intro a b;rcases bi.out with d | d;rw [d] at b;exact L.fl a b;rw [d] at b;injection b with b;subst b;exact .inr (by have:=L.keep.size;omega);have ag:=L.k3;have cI:=a7.size;have df:(D.setCell ⟨gp,1,none⟩ (.slice I (f+1) K)).heap.size=D.heap.size:=(by simp [World.setCell]);omega
    have c2:wK (D.setCell ⟨gp,1,none⟩ (.slice I (f+1) K)) gp=f+1:=(by have cC:(D.setCell ⟨gp,1,none⟩ (.slice I (f+1) K)).cell? ⟨gp,1,none⟩=some (.slice I (f+1) K):=(aJ.blk.cell 1).trans rfl;unfold wK;rw [cC]);obtain ⟨cf,ct⟩:=hqq2 aJ c2;clear aJ c2 a7 ac bs Q bi m;go_roundw
    case rel=>exact ⟨_,_,_,_,cf.out⟩
    case measure=>rw [cs.out,ct.out];omega
  · have cT:decide (f<=c)=false:=zBy bT;have cU:¬(f:Int)<=(c:Int):=oM;have a8:c < f:=oM;have dk:(c:Int) < (f:Int):=oM;obtain ⟨q,dt,b5,_,dh⟩:=World.ownsRow.form r.own oM;injection b5 with b5 _ hs9c;subst b5 hs9c;obtain ⟨db,a4⟩:=fI r.own;have dj:gp≠q:=Bk.ne r.blk a4 dC;have d8:=a4.frozen (c*2);have d9:=a4.frozen (c*2+1);obtain ⟨bf,bg⟩:=cG u c (by rw [cJ];exact a8);have cd:=(World.ownsRow.cellAt r.own (c*2) oM).trans bf;have ce:=(World.ownsRow.cellAt r.own (c*2+1) oM).trans bg;generalize aB u c=u0 at cd bf;generalize aI u c=u1 at ce bg;obtain ⟨ab,ae,M,_⟩:=aR r.ord;rw [J.out] at M;have aF:wr.cell? ⟨gp,2,none⟩=some (.slice ab N ae):=(r.blk.cell 2).trans (by rw [M];rfl);obtain ⟨m,ch,ad⟩:=hqq3 r a4 M;clear r a4 M bf bg;go_wp2_with fail;have ba:((wr.setCell ⟨q,c*2,none⟩ (.int .i64 (row:Int))).setCell ⟨q,c*2+1,none⟩ (.int .i64 (s:Int))).ownsRow 0 170 2 (.slice (some ⟨q,0,none⟩) f y) f (bU (u.set c (row,s))):=(by have cc:=(World.ownsRow.stored m.out.own (c*2) (.int .i64 (row:Int))).1;rw [kK u c row (by rw [m.out.len];exact a8)] at cc;have aq:=(World.ownsRow.stored cc (c*2+1) (.int .i64 (s:Int))).1;rw [nK _ c s (by rw [zAt,m.out.len];exact a8)] at aq;rw [List.set_set] at aq;have cD:aB (u.set c (row,aI u c)) c=row:=(by unfold aB;rw [zAb,List.getElem?_set_self (by rw [m.out.len];exact a8)];rfl);rw [cD] at aq;exact aq);have Z:Keep (fun a=>a=q) wr ((wr.setCell ⟨q,c*2,none⟩ (.int .i64 (row:Int))).setCell ⟨q,c*2+1,none⟩ (.int .i64 (s:Int))):=((Keep.refl (fun a=>a=q) wr).setCell (p:=⟨q,c*2,none⟩) (.inl rfl) _).setCell (p:=⟨q,c*2+1,none⟩) (.inl rfl) _;have b7:((wr.setCell ⟨q,c*2,none⟩ (.int .i64 (row:Int))).setCell ⟨q,c*2+1,none⟩ (.int .i64 (s:Int))).heap.size=wr.heap.size:=(by simp [World.setCell]);rw [<-b7];clear cd ce d8 d9 V aF aH;generalize (wr.setCell ⟨q,c*2,none⟩ (.int .i64 (row:Int))).setCell ⟨q,c*2+1,none⟩ (.int .i64 (s:Int))=w7 at ba Z b7⊢;have am:∀a j e,j≠170->Bk wr a j e->¬(a=q):=fun a j e n b d=>by subst d;exact n (aM b ch.out).1
    have aY:=Z.bk m.out.blk (am _ _ _ dC m.out.blk);have bc:=aA (w':=w7) m.out.ord fun a e _ b=>Z.bk b (am _ _ _ dC b);have bz:=m.out.ar.keep Z fun a j e n b _=>am a j e (fun d=>by subst d;revert n;decide) b;have bP:Keep F o w7:=m.out.keep.trans' Z fun a b g=>by have cE:a=q:=g;rcases m.out.fl a (by rw [cE];rfl) with z | z;exact z;omega
    have a3:Below w7.heap.size w7 (w7.alloc (.cells #[(c:Int)] 3)):=bR.alloc nL _;have aj:=Bk.new w7 3 #[(c:Int)];have a0:=aS bc a3;have bb:=aS ba a3;have ai:=aY.below a3 aY.lt;have aN:=bz.keep (G:=fun _=>False) (Keep.of_below a3) fun _ _ _ _ _ _ g=>g;have al:Keep F o (w7.alloc (.cells #[(c:Int)] 3)):=bP.alloc _;obtain ⟨cF,aX⟩:=eqx w7.heap.size;rw [aX] at aj;rw [aX];have ca:∀a,vo.ownBlock=some a->a < w7.heap.size:=fun a b=>(bc.lt a b).2;rw [J.out,ad.out] at a0;have bd:wr.heap.size<=(w7.alloc (.cells #[(c:Int)] 3)).heap.size:=(by simp;omega);have bv:=lhd bd;clear bd;generalize w7.alloc (.cells #[(c:Int)] 3)=w8 at bv aj a0 bb ai aN al⊢;have b0:=aAc 0 ab N ae a1 ks cF c w8 a0 aj (fun a b d=>by have:=ca a (by rw [ad.out];exact b);omega) (zAp _) bM oM;unfold sP at b0;refine b0.mono ?_;clear b0;rintro d O ⟨au,aD,rfl,bZ,Y,aP⟩;rw [<-ad.out] at Y aP a0;have b8:∀a j e,j≠3->Bk w8 a j e->¬(vo.ownBlock=some a):=fun a j e n b d=>by obtain ⟨cB,aV⟩:=eT a0 d;exact n (aM b aV).1
    have a6:=Y.bk ai (b8 _ _ _ dC ai);have c7:=aA (w':=O) bb fun a e _ b=>Y.bk b (b8 _ _ _ dC b);have c9:∀a,vo.ownBlock=some a->¬(Gw (AF ga vt vf) o.heap.size a/\a < t.heap.size):=fun a b g=>by rcases g.1 with g | g;exact l.out.ord_af b g;have:=(l.out.at_.orow.lt a b).2;omega
    have bA:=aN.keep Y fun a j e _ _ g d=>c9 a d g;have bQ:Keep F o O:=al.trans' Y fun a _ g=>l.out.fo a g;have aF:O.cell? ⟨gp,2,none⟩=some vo:=(a6.cell 2).trans rfl;rw [ad.out] at aF;have dd:=a6.frozen 2;have di:=a6.lt;obtain ⟨bo,cw,cg,co,cr,bj,cn⟩:=hqq7 a6 c7 bA bQ bZ aP al;clear a6 c7 bA bQ bZ aP al Y a0 bb ai aN aj a3 bP bz bc aY Z ba b7 aX ca b8 am;go_wp2_with fail;go_ret;have b6:Keep (fun a=>a=gp) O (O.setCell ⟨gp,2,none⟩ (.slice au (N+1) aD)):=Keep.setCell (F:=fun a=>a=gp) (Keep.refl _ _) (p:=⟨gp,2,none⟩) (.inl rfl) _;have W:∀a j e,j≠166->Bk O a j e->¬(a=gp):=fun a j e n b d=>by subst d;exact n (aM b bo.out).1
    have dp:=bl.out.size;have dr:=cn.out.size;have bd:=bv.out;have cM:f<=1000:=(by rcases bm.out with aC | aC;have:=A.out;omega;have:=A.out;have:=J.out;omega);have cW:∀a,Gw F o.heap.size a->Gw F w.heap.size a:=fun a g=>by rcases g with g | g;exact .inl g;exact .inr oM
    have L:=m.out
    obtain ⟨d6,d5,cO,c0,cZ⟩:=PermX.stow (w:=w) (w':=O.setCell ⟨gp,2,none⟩ (.slice au (N+1) aD)) (F:=Gw F w.heap.size) (gp:=gp) (ga:=ga) (R:=R) (P:=P) (k:=c) (row:=row) (pos:=s) (i:=a1) (n0:=0) (vl':=.slice (some ⟨q,0,none⟩) f y) (vo':=.slice au (N+1) aD) (ks:=ks) (C:=C) (C9:=u) (tk:=aa) (fr:=a2) (AFF:=fun a=>Gw (AF ga vt vf) o.heap.size a/\a < t.heap.size)
        l.out.at_.lt l.out.nd cp.out (by rw [L.len];exact a8) (by rw [L.len];exact L.lo) (by rw [L.len];exact cM) (by
         rw [L.len];rcases bm.out with aC | aC;have:=L.lo;have:=L.hi;omega
         · have:=L.lo;have:=L.hi;omega) L.get cu.out cl.out.symm cq.out (bo.out.set 2 _)
        (by rw [L.len];exact aA cw.out fun a e _ b=>b6.bk b (W _ _ _ dC b))
        (by rw [J.out];exact aA cr.out fun a e _ b=>b6.bk b (W _ _ _ dC b))
        (cg.out.keep b6 fun a j e n b _=>W a j e (fun d=>by subst d;revert n;decide) b)
        (fun a g=>by
         rcases g.1 with z | z;exact .inl (l.out.af z)
         · exact .inr oM)
        (.inl l.out.fa) (.inl l.out.fp) (fun a b=>cW a (L.fl a b))
        (fun a b=>by
         rcases bj.out with d |⟨z,d,aG⟩;exact .inl (l.out.fo a (by rw [<-d];exact b))
         · rw [d] at b;injection b with b;subst b;exact .inr oM)
        (fun a b g=>by
         rcases bj.out with d |⟨z,d,aG⟩;exact c9 a (by rw [<-d];exact b) g
         · rw [d] at b;injection b with b;subst b;have ag:=g.2;have cI:=L.k3;omega)
        cv.out ck.out cj.out
    refine ⟨rfl,⟨_,?_,⟨ga,_,_,d6,d5,_,_,aa,a2,cO,rfl⟩,List.pairwise_map.2 cZ,fun H v=>?_⟩,(Keep.of_below bl.out).trans (Keep.setCell (F:=F) co.out (p:=⟨gp,2,none⟩) (.inl l.out.fp) _)⟩;rw [c0];exact eX _ _ _;rw [c0] at v;rcases List.mem_cons.1 ((eX _ _ _).subset v) with rfl | v;exact ⟨cY,cX⟩;obtain ⟨d7,d0,rfl⟩:=zAy.1 v;exact ci.out d7 d0
theorem PermE.inj {w:World} {F:Nat->Prop} {gp R P:Nat} {d:List (Nat×Nat)} (g:PermE w F gp R P d) {e f:Nat×Nat} (k:e∈d) (l:f∈d) (m:e.1=f.1):e=f:=by
 obtain ⟨b,i,rfl⟩:=List.getElem_of_mem k;obtain ⟨c,j,rfl⟩:=List.getElem_of_mem l;rcases Nat.lt_trichotomy b c with a | a | a;have:=zAr.1 g.2.1 b c i j a;omega;subst a;rfl;have:=zAr.1 g.2.1 c b j i a;omega
end
end Go.Proofs.YthldmddkfbijhaaGreatDoor
