/- Lemmas of the walk. Conditions: each its own. -/
import Derived.Test.YtecdldbdednahaaGreatDoorPu2
import Derived.Test.YtecdldbdednahaaGreatDoorPu3
import Derived.Test.YtecdldbdednahaaGreatDoorRows
import Derived.Test.YtecdldbdednahaaGreatDoorProg
import Derived.Test.YtecdldbdednahaaGreatDoorSht
import Derived.Test.YtecdldbdednahaaGreatDoorShl
set_option linter.all false
set_option maxRecDepth 100000
set_option maxHeartbeats 4000000
open Go.Proofs.Tryz
namespace Go.Proofs.YtecdldbdednahaaGreatDoor
open Go.RowKit
def jT:List (String×DataW Unit):= [("math/bits.deBruijn64tab",Rows.laid_math_bits_deBruijn64tab)]
def aLM:prog.globalNamed "math/bits.deBruijn64tab" =some 1:=by kernel_rfl
def aLR:(prog.globals[1]?).map (·.type)=some 264:=by kernel_rfl
def aC2 (b:Os) (a):laidMetH prog jT ((World.doorLaid prog 14 b).forCall (fun _ _=>0) ⟨#[],a, []⟩).memory:=
 laidMetH_of_parts3 (fuel:=8) (laidMet_of_run' 8 kR kR) kR kR
def aF8:(Rows.laid_math_bits_deBruijn64tab:DataW Unit)=Lib.tabData .u8 (Lib.deBruijn64tab.map fun a:Nat=>(a:Int)):=rfl
def rE {W} (a:laidMetH prog jT W):TabW W:=by
 rw [MakeChecks.laidMetH_plain _ _ _ kR] at a;unfold jT at a;rw [aF8] at a;have c:=Lib.tabIs_of_head aLM aLR underlying264 underlying5 kR kR a;intro b d;have:=c.cell aLM b (by rw [zBc];exact d);rw [this,zAb,zAf,zAb];cases Lib.deBruijn64tab[b]? <;> rfl
def aIo (a:Option Addr) (d c b:Nat):Array Value:=#[.slice a d c,.int .i64 (b:Int),.bool false]
def nD (b:Nat) (e) (d c m g j a most:Nat) (l w) (f:Bk w b 157 (aIo e d c g)) (q:Rd w m 1 e d (l.map bv)) (y:d<=c) (n:c<=maxLen) (o:eS l (g:Int)=(a,(j:Int),0)) (G:a<=most) (F:most<=4611686018427387904):
 Calls prog 129 #[b,(most:Int)] w fun x r=>x=.returned (.int .i64 (a:Int))/\Bk r b 157 (aIo e d c j)/\Keep (fun i=>i=b) w r:=by
 have B:w.cell? b=some (.slice e d c):=f.cell 0;have C:w.cell? ⟨b,1,none⟩=some (.int .i64 (g:Int)):=f.cell 1;have E:=f.frozen 1;obtain ⟨s,v,u,t⟩:=hqq4 f q o n;have z:¬((a:Int) > (most:Int)):=oM;have H:decide ((a:Int) > (most:Int))=false:=zBy z;have A:¬most < a:=oM;have I:decide (most < a)=false:=zBy A;have J:IntKind.u64.wrap (most:Int)=(most:Int):=by rw [ko];omega
 have K:IntKind.i64.wrap (a:Int)=(a:Int):=by rw [wI0];omega
 clear f q o n;go_enter func129,ntmps129;go_wp2_with fail;go_quiet (exact qK (fQ e d c l (g:Int) m _ a (j:Int) 0 u.out (v.out.drewN _) y t.out));go_wp2_with fail;go_ret;exact ⟨rfl,(s.out.drewN nq).set 1 _,((kf (fun i=>i=b) w).drewN nq).setCell (p:=⟨b,1,none⟩) (.inl rfl) _⟩
def sY (c:Nat) (f) (b e r n a k d:Nat) (l w) (o:Bk w c 157 (aIo f b e n)) (A:Rd w r 1 f b (l.map bv)) (R:b<=e) (O:e<=maxLen) (a1:b<=1099511627776) (x:eS l (n:Int)=(k,(a:Int),0)) (a2:a+(k+4)=d) (a4:d<=b):
 Calls prog 130 #[c] w fun u E=>u=.returned (.slice (dY f e a 1) k (e - a))/\Bk E c 157 (aIo f b e d)/\Keep (fun H=>H=c) w E:=by
 have z:=nD c f b e r n a k b l w o A R O x oM oM;have I:w.cell? c=some (.slice f b e):=o.cell 0;clear o A x;go_enter func130,ntmps130;go_wp2_with fail;refine z.mono ?_;clear z;rintro u w1 ⟨rfl,i,y⟩;have J:w1.cell? c=some (.slice f b e):=i.cell 0;have K:w1.cell? ⟨c,1,none⟩=some (.int .i64 (a:Int)):=i.cell 1;have L:w1.cell? ⟨c,2,none⟩=some (.bool false):=i.cell 2;have N:=i.frozen 1;obtain ⟨s,t⟩:=hqq2 i y;obtain ⟨g,Q⟩:∃g,b - a=g+4:=⟨b - a - 4,by omega⟩;have U:IntKind.i64.wrap ((b:Int) -(a:Int))=((g+4:Nat):Int):=by rw [wI0];omega
 have V:IntKind.i64.wrap (((g+4:Nat):Int) - 4)=(g:Int):=by rw [wI0];omega
 have B:¬((k:Int) > (g:Int)):=oM;have X:decide ((k:Int) > (g:Int))=false:=zBy B;have C:¬g < k:=oM;have Y:decide (g < k)=false:=zBy C;clear i y I;go_wp2_with fail;go_quiet (fail);go_wp2_with fail;have M:((a:Int)+((k:Int)+4))=(d:Int):=oM;rw [M];have j:=(s.out.drewN nq).set 1 (.int .i64 (d:Int));have m:=(t.out.drewN nq).setCell (p:=⟨c,1,none⟩) (.inl rfl) (.int .i64 (d:Int));generalize (w1.drewN nq).setCell ⟨c,1,none⟩ (.int .i64 (d:Int))=w2 at j m⊢;have Z:w2.cell? c=some (.slice f b e):=j.cell 0;have a0:w2.cell? ⟨c,1,none⟩=some (.int .i64 (d:Int)):=j.cell 1;obtain ⟨F,G⟩:=hqq2 j m;obtain ⟨q,a5⟩:=eqx (a+k);have a8:IntKind.i64.wrap ((d:Int) -(k:Int))=((a+4:Nat):Int):=by rw [wI0];omega
 have a9:IntKind.i64.wrap (((a+4:Nat):Int) - 4)=(a:Int):=by rw [wI0];omega
 have aa:IntKind.i64.wrap ((d:Int) - 4)=(q:Int):=by rw [wI0];omega
 have S:=fun w=>rL (P:=prog) 22 5 1 underlying22 (fun w=>by kernel_rfl) f b e a q oM oM w;have v:q - a=k:=oM;rw [v] at S;have a3:a<=1099511627776:=oM;have a6:d<=1099511627776:=oM;have a7:a+k+4=d:=oM;clear j m s t J K L N Q U V B X C Y v;go_quiet (fail);go_wp2_with fail;go_ret;exact ⟨rfl,F.out.drewN _,G.out.drewN _⟩
def aBE (a c w) (g:TreeAt w a c):
 Calls prog 219 #[a] w fun f i=>f=.returned (.int .i64 ((c.count true:Nat):Int))/\Below w.heap.size w i:=by
 obtain ⟨z,E,⟨rfl,F,b⟩|⟨C,b,B,o,A,d⟩⟩:=g
 · have e:w.cell? ⟨a,2,none⟩=some (.int .i64 (-1)):=(b.cell 2).trans rfl;clear b;go_enter func219,ntmps219;go_wp2;go_ret;exact ⟨rfl,kh _ _⟩
 · obtain ⟨j,m,e,n,q,r,s,t,u,v,x,y⟩:=d.cells;clear d;go_enter func219,ntmps219;go_wp2;go_quiet (fail);go_wp2;go_ret;exact ⟨rfl,⟨rfl,rfl,rfl,zAs _,fun _ _=>rfl⟩⟩
def TabW.visk {a w c} (e:TabW w) (k:VisK (fun d=>d=a) w c) (i:1 < a) (g:1 < w.heap.size):TabW c:=
 fun b f=>(k.2.cell (p:=⟨1,b,none⟩) g (by show ¬(1=a);omega)).trans (e b f)
def aJd {l:List Bool} {a:Bool} {p:Nat} (b:l[p]?=some a):(l.take p).count a < l.count a:=by
 have f:=(zAc.1 b).1;have c:l=l.take (p+1)++l.drop (p+1):=(zAu _ _).symm;have d:l.count a=(l.take (p+1)).count a+(l.drop (p+1)).count a:=by rw [<-zCc,zAu]
 have e:(l.take (p+1)).count a=(l.take p).count a+1:=by rw [zAv,b,zCc];simp
 omega
def yN (c a p e b w) (j:TreeAt w c a) (x:a[p]?=some b) (v:(a.take p).count b=e) (B:TabW w) (ar:1 < c):
 Calls prog 173 #[c,(e:Int),.bool b] w fun f aE=>f=.returned (.int .i64 (p:Int))/\VisK (fun b=>b=c) w aE:=by
 have a2:a.length<=128:=by
  obtain ⟨X,y,⟨rfl,aD,m⟩|⟨u,m,Z⟩⟩:=j
  · simp
  exact m
 have ax:=(zAc.1 x).1;have a5:=aJd x;rw [v] at a5;have a4:=qU a;have az:∃s,Bk w c 226 s/\3 < s.size:=by obtain ⟨X,y,⟨rfl,aD,m⟩|⟨u,m,Y,am,t,Z⟩⟩:=j;exact ⟨_,m,by simp⟩;exact ⟨_,Z.tree,by simp⟩
 obtain ⟨s,q,aq⟩:=az;have aB:1 < w.heap.size:=B.pos;have I:=VisK.set_tree q 0;have a7:=j.vis I.1;have aX:=q.lt;have U:w.cell? ⟨c,3,none⟩=some s[3]:=by rw [q.cell 3];simp [aq]
 have V:=q.frozen 3;obtain ⟨i,A⟩:=eqx a.length;obtain ⟨g,G⟩:=eqx (a.count true);rw [A,G] at a4;have a6:e < (if b then g else i - g):=by cases b;simp;omega;simp;omega
 have ao:i<=128:=oM;have aw:g<=i:=oM;have b0:e<=128:=by rw [<-v];exact zAk zBv (by rw [zAj];omega)
 have b3:p<=128:=oM;obtain ⟨aa,H⟩:=eqx ((if b then g else i - g));rw [H] at a6;obtain ⟨N,z,aJ,R,ac,Q,ai,aj,ak⟩:=hqq9 I j a2 a7 A x v G H;obtain ⟨ad,aK⟩:=hqq2 B a6;clear j a2 I a7 q A ax a5 a4 x v G H B;go_enter func173,ntmps173;go_wp2_with fail;clear U V;refine (eZ c a _ R.out).mono ?_;rintro f b5 ⟨rfl,n⟩;rw [ac.out];have J:=N.out.below n;have a8:=z.out.vis J.1;obtain ⟨O,S⟩:=hqq2 J a8;clear J a8 N R n;go_wp2_with fail;refine (aBE c a _ S.out).mono ?_;rintro f b6 ⟨rfl,a0⟩;rw [aj.out];have K:=O.out.below a0;have a9:=z.out.vis K.1;obtain ⟨P,al⟩:=hqq2 K a9;clear K a9 O S a0;go_wp2_with fail;refine (xP i g b _ ao aw).mono ?_;rintro f aF ⟨rfl,a1⟩;rw [ak.out];have L:=P.out.below a1;have ay:=z.out.vis L.1;have av:¬aa<=e:=oM;have b2:decide (aa<=e)=false:=zBy av;obtain ⟨X,y,⟨E,_,_⟩|⟨E,n,Y,am,t,d⟩⟩:=ay
 · have u:=Q.out;rw [E] at u;simp at u
 obtain ⟨aL,aM,aN,U,aO,aP,aQ,aR,aS,aT,aU,aV⟩:=d.cells;have b1:=d.row.lt;have aY:=d.tree.lt;have aZ:c≠Y:=d.row.bk_ne d.tree dC;have V:=d.tree.frozen 3;obtain ⟨r,ab,af⟩:=hqq3 d n L;clear d n E L a1 P al;go_wp2_with fail;go_loopw [1,7,8] (fun aG aH aI wr=>aG=.int .i64 (e:Int)/\aH=.int .i64 0/\aI=.int .i64 0/\wr=aF) (fun _ _ _ _=>0)
 case atStart=>exact ⟨rfl,rfl,rfl,rfl⟩
 case round=>
  obtain ⟨rfl,rfl,rfl,rfl⟩:=hrel;go_wp2_with fail;refine (xP 0 0 b _ oM nL).mono ?_;rintro f b7 ⟨rfl,o⟩;have an:(if b=true then 0 else 0 - 0:Nat)=0:=by cases b <;> rfl
  rw [an];have au:=Bk.ne r.out.blk r.out.tree dC;have M:=(VisK.set_tree r.out.tree (wrap64 (y+1))).alloc (.cells #[(-1:Int),(-1:Int),o0,(a.length:Int),.int .i64 ((a.count true:Nat):Int),o0,o0,t] 229);have aC:=M.below o;have F:=(r.out.blk.far (p:=⟨c,3,none⟩) au (.int .i64 (wrap64 (y+1)))).alloc (.cells #[(-1:Int),(-1:Int),o0,(a.length:Int),.int .i64 ((a.count true:Nat):Int),o0,o0,t] 229);have a3:=F.below o F.lt;have b4:=o.cell (p:=⟨wr.heap.size,7,none⟩) (by simp [World.setCell]);have C:=((af.out.trans M).below o);obtain ⟨ae,ag,ah⟩:=hqq3 (ad.out.visk C ar aB) C a3;clear aC F a3 M C o;go_wp2_with fail;refine (vP t a b p e _ ah.out ab.out Q.out ai.out ae.out).mono ?_;rintro f b8 ⟨rfl,ap⟩;have aA:=ag.out.below ap;have aW:IntKind.i64.wrap (p:Int)=(p:Int):=by rw [wI0];omega
  go_wp2_with fail;go_ret;exact ⟨fR oM,aA⟩
def StpsAt (w:World) (b:Nat):List Value->List Sp->Prop
 | xs, []=>xs= []
 | xs,s::L=>∃a d c e,xs=.int .i64 s.kind::.int .i64 s.p::.int .i64 s.k::.slice a d c::e/\DataAt w b a d c s.D/\StpsAt w b e L
def StpsAt.keep {w i:World} {a:Nat} (k:∀b g,a<=b->Bk w b 5 g->Bk i b 5 g):∀ {f:List Sp} {j:List Value},StpsAt w a j f->StpsAt i a j f
 | [],_,d=>d
 | _::_,_,⟨A,n,c,ys,e,hd,d⟩=>⟨A,n,c,ys,e,hd.keep k,StpsAt.keep k d⟩
def StpsAt.below {w c B a d} (e:StpsAt w B d a) (k:Below w.heap.size w c):StpsAt c B d a:=e.keep fun g f _ b=>b.below k b.lt
def StpsAt.grown {w e b g q o d r c f} (j:StpsAt w b f c) (n:w.ownsRow g 44 q d o r) (m:w.grownBy e d.ownBlock):StpsAt e b f c:=
 j.keep fun i s _ a=>(m.block i a.lt (bC n a dC)).trans a
def DataAt.grown {w g c i r q e d f s b D} (m:DataAt w c b e d D) (o:w.ownsRow i 44 r f q s) (n:w.grownBy g f.ownBlock):DataAt g c b e d D:=
 m.keep fun j t _ a=>(n.block j a.lt (bC o a dC)).trans a
def DataAt.keepF {c w g a f e b D} (m:DataAt w a b f e D) (k:Keep c w g) (n:∀d,c d->d < a):DataAt g a b f e D:=
 m.keep fun j q r o=>k.bk o (fun i=>by have:=n j i;omega)
def StpsAt.snoc {w:World} {a:Nat} {s:Sp} {A:Option Addr} {n c:Nat} (f:DataAt w a A n c s.D):∀ {d:List Sp} {g:List Value},StpsAt w a g d->StpsAt w a (g++ [.int .i64 s.kind,.int .i64 s.p,.int .i64 s.k,.slice A n c]) (d++ [s])
 | [],_,b=>by have i:=b;subst i;exact ⟨A,n,c, [],rfl,f,rfl⟩
 | _::_,_,⟨A',n',c',ys,e,hd',b⟩=>⟨A',n',c',ys++_,by rw [e];rfl,hd',StpsAt.snoc f b⟩
def wZ {w b d e a} (c:Bk w b e a) (f:a.size=d):Rd w w.heap.size d (some ⟨b,0,none⟩) 1 a.toList:=by
 refine ⟨by simp [f],fun _=>⟨b,0,rfl,c.lt,fun i j g=>?_⟩⟩;rw [zBi,c.cell i];rw [<-g];simp
def aH1 (k f g c e d):∀b∈(fJ k f g c e d).toList,b.oneCell'=true:=by
 intro b a;simp [fJ] at a;rcases a with rfl | rfl | rfl | rfl <;> rfl
def aGd:(prog.info? 44).map (fun a=>(a.zero.map (·.cells.size),a.size,a.bytes))=some (some 4,4,48):=by kernel_rfl
def aEb:∃b c,prog.info? 44=some b/\b.zero=some c/\b.size=4/\b.bytes=48/\c.cells.size=4:=by
 have a:=aGd;cases e:prog.info? 44 with
 | none=>rw [e] at a;cases a
 | some b=>
   rw [e] at a;cases d:b.zero with
   | none=>simp [d] at a
   | some c=>
     simp [d] at a;exact ⟨b,c,rfl,d,a.2.1,a.2.2,a.1⟩
def lA (l:List UInt8) (k:Nat):List Sp:=(List.range k).map (aGi l)
def aEe (l k):lA l (k+1)=lA l k++ [aGi l k]:=by
 unfold lA;rw [List.range_succ,zAz];rfl
def oJ (w:World) (l:List UInt8) (d:Ending) (a:World):Prop:=
 ∃b c,d=.returned b/\a.ownsRow w.heap.size 44 4 b (l.length / 3) c/\StpsAt a w.heap.size c (lA l (l.length / 3))/\Below w.heap.size w a
def pP (e H g l w) (ad:Rd w w.heap.size 1 e H (l.map bv)) (bq:H<=100000) (aU:H<=g):
 Calls prog 8 #[.slice e H g] w (oJ w l):=by
 obtain ⟨b4,ba,aV,b0,b1,b2,b3⟩:=aEb;have aw:l.length=H:=by simpa using ad.1
 obtain ⟨al,aZ⟩:=hqq2 aw ad;clear ad aw;go_enter func8,ntmps8;go_wp2_with fail;go_loopw [0,3] (fun a z wr=>∃(k r B:Nat) (a3:Option Addr) (I:List Value),a=.slice a3 r B/\r+3*k=H/\r<=B/\Rd wr w.heap.size 1 a3 r ((l.drop (3*k)).map bv)/\wr.ownsRow w.heap.size 44 4 z k I/\StpsAt wr w.heap.size I (lA l k)/\Below w.heap.size w wr) (fun a _ _=>match a with | .slice _ q _=>q | _=>0)
 case atStart=>exact ⟨0,H,g,e, [],rfl,by omega,aU,by simpa using aZ.out,kj _ _ _ _,rfl,kh _ _⟩
 case round=>
  obtain ⟨k,r,B,a3,I,rfl,bs,aX,ae,V,af,X⟩:=hrel;by_cases S:3<=r
  · obtain ⟨o,t,rfl,bo,Z⟩:=ae.2 oM;have a2:∀aj,aj < 3->∃b9,l[3*k+aj]?=some b9:=fun aj bp=>⟨_,zAa (by rw [al.out];omega)⟩;obtain ⟨v,ag⟩:=a2 0 oM;obtain ⟨x,ah⟩:=a2 1 oM;obtain ⟨y,ai⟩:=a2 2 oM;have aJ:wr.cell? ⟨o,t+0,none⟩=some (bv v):=Z 0 _ (by rw [zAf,zBt,ag];rfl);have aK:wr.cell? ⟨o,t+1,none⟩=some (bv x):=Z 1 _ (by rw [zAf,zBt,ah];rfl);have aL:wr.cell? ⟨o,t+2,none⟩=some (bv y):=Z 2 _ (by rw [zAf,zBt,ai];rfl);have ax:aGi l k=aEd v x y:=(by unfold aGi;rw [zAb,zAb,zAb,show 3*k=3*k+0 from rfl,ag,show 3*k+0+1=3*k+1 from rfl,ah,show 3*k+0+2=3*k+2 from rfl,ai];rfl);have ac:=aEe l k;rw [ax] at ac;have hcut:=(ae.cut (k:=3) (cap:=B) S aX);rw [<-List.map_drop,List.drop_drop] at hcut;obtain ⟨aD,am⟩:=hqq2 hcut ac;have ap:∀a,u3.ownBlock=some a->a < wr.heap.size:=fun a Y=>(V.lt _ Y).2;have a8:∀a,u3.ownBlock=some a->w.heap.size<=a:=fun a Y=>(V.lt _ Y).1;have az:=X.size;have aa:o < wr.heap.size:=oM;have G:¬u3.ownBlock=some o:=fun F=>by have:=a8 _ F;omega
    obtain ⟨aF,ao,ak⟩:=hqq3 V af X;obtain ⟨a6,aq⟩:=eqx (lA l k);rw [aq] at am ao;obtain ⟨a4,aB,a5,aH⟩:=hqq4 ap a8 G (show 0 < r by omega);have aI:=lhd (show (1:Int) < (r:Int) by omega);have N3:=lhd (show (2:Int) < (r:Int) by omega);clear a2 ag ah ai Z ae V af X ax ac hcut aq a8 ap;go_wp2_with fail;refine wp_region_any kR ?_;refine cK 13 [9,10,11,12,13,14,15,16,17,18,19,20,21] (fun a=>u3.ownBlock=some a) 12 [12] (fun m=>m.ownsRow w.heap.size 44 4 u3 k I/\StpsAt m w.heap.size I a6) (fun z m=>∃E,m.ownsRow w.heap.size 44 4 z (k+1) E/\StpsAt m w.heap.size E (a6++ [aEd v x y])) [is (u3),is (.slice (some ⟨o,t,none⟩) r B),is (.pointer (some ⟨o,t,none⟩)),is (bv v),is (.slice (some ⟨o,t,none⟩) r B),is (.pointer (some ⟨o,t+1,none⟩)),is (bv x),is (.slice (some ⟨o,t,none⟩) r B),is (.pointer (some ⟨o,t+2,none⟩)),is (bv y),fun z m=>∃e q g,z=.agg (fJ v x y e q g)/\DataAt m wr.heap.size e q g (spD v x y),fun z m=>∃C e q g,z=.slice (some ⟨C,0,none⟩) 1 1/\Bk m C 44 (fJ v x y e q g)/\u3.ownBlock≠some C/\DataAt m wr.heap.size e q g (spD v x y),cJ] _ _ rfl dC kR kR kR (⟨aF.out,ao.out.below bR.drew⟩) (fun w1 m F _ au=>⟨aQ F.1 au,F.2.below au⟩) (fun _ _ _ ⟨E,Q,R⟩ k=>⟨E,aQ Q k,R.below k⟩) (by repeat' (first | exact gA _ _ | exact eQ _ | exact fun _ _ _ ⟨e,q,g,Q,R⟩ k=>⟨e,q,g,Q,R.keepF k a4.out⟩| exact fun _ _ _ ⟨C,e,q,g,Q,R,S,aO⟩ k=>⟨C,e,q,g,Q,k.bk R S,S,aO.keepF k a4.out⟩|(refine zAe.2 ⟨?_,?_⟩)|(intro p aY;cases aY))) ?_ ?_
    · refine bJ ?_;refine pH3 3 (u3) ?_;refine pH3 0 (.slice (some ⟨o,t,none⟩) r B) ?_;refine sC3 (fun _ _ _ _ _ _ _ d _ _ _ j=>?_) ?_
      · have bc:_=_:=d 1 10 kR rfl;have aA:=aH.out;go_simp;exact kq j rfl
      refine sC3 (fun _ u b _ _ _ _ d _ _ _ j=>?_) ?_
      · replace b:Keep (fun a=>u3.ownBlock=some a) wr u:=kD b;have bd:_=_:=d 2 11 kR rfl;have G:=a5.out;have a7:=(Keep.cell b (p:=⟨o,t+0,none⟩) aa G).trans aJ;rw [zBq] at a7;go_simp;exact kq j rfl
      refine pH3 0 (.slice (some ⟨o,t,none⟩) r B) ?_;refine sC3 (fun _ _ _ _ _ _ _ d _ _ _ j=>?_) ?_
      · have bf:_=_:=d 4 13 kR rfl;have aA:=aI.out;go_simp;exact kq j rfl
      refine sC3 (fun _ u b _ _ _ _ d _ _ _ j=>?_) ?_
      · replace b:Keep (fun a=>u3.ownBlock=some a) wr u:=kD b;have bg:_=_:=d 5 14 kR rfl;have G:=a5.out;have a7:=(Keep.cell b (p:=⟨o,t+1,none⟩) aa G).trans aK;go_simp;exact kq j rfl
      refine pH3 0 (.slice (some ⟨o,t,none⟩) r B) ?_;refine sC3 (fun _ _ _ _ _ _ _ d _ _ _ j=>?_) ?_
      · have bi:_=_:=d 7 16 kR rfl;have aA:=N3.out;go_simp;exact kq j rfl
      refine sC3 (fun _ u b _ _ _ _ d _ _ _ j=>?_) ?_
      · replace b:Keep (fun a=>u3.ownBlock=some a) wr u:=kD b;have bj:_=_:=d 8 17 kR rfl;have G:=a5.out;have a7:=(Keep.cell b (p:=⟨o,t+2,none⟩) aa G).trans aL;go_simp;exact kq j rfl
      refine sC3 (fun _ u b _ _ _ _ d _ _ _ j=>?_) ?_
      · replace b:Keep (fun a=>u3.ownBlock=some a) wr u:=kD b;have be:_=_:=d 3 12 kR rfl;have bh:_=_:=d 6 15 kR rfl;have bk:_=_:=d 9 18 kR rfl;go_simp;refine (aJr v x y u).mono ?_;rintro bb bu ⟨J,M,K,rfl,U,a9⟩;exact j _ _ (aE a9) ⟨J,M,K,rfl,U.mono b.size⟩
      refine sC3 (fun L u b _ _ _ _ d _ _ _ j=>?_) ?_
      · replace b:Keep (fun a=>u3.ownBlock=some a) wr u:=kD b;have b5:(fun z m=>∃e q g,z=.agg (fJ v x y e q g)/\DataAt m wr.heap.size e q g (spD v x y)) (L (.tmp 19)) u:=d 10 19 kR rfl;obtain ⟨J,M,K,bl,U⟩:=b5;go_simp;exact j _ _ (aE (bR.alloc nL _)) ⟨_,J,M,K,rfl,ke _ _ _,fun F=>by have:=a4.out _ F;have:=b.size;omega,U.below (bR.alloc nL _)⟩
      refine sC3 (fun L u b aP _ _ _ d _ _ aR j=>?_) ?_;replace b:Keep (fun a=>u3.ownBlock=some a) wr u:=kD b;have a1:=aP rfl;have aN:_=_:=d 0 9 kR rfl;have b6:(fun z m=>∃C e q g,z=.slice (some ⟨C,0,none⟩) 1 1/\Bk m C 44 (fJ v x y e q g)/\u3.ownBlock≠some C/\DataAt m wr.heap.size e q g (spD v x y)) (L (.tmp 20)) u:=d 11 20 kR rfl;obtain ⟨bm,J,M,K,aM,a9,br,U⟩:=b6;subst aR;refine eB u (.tmp 9) (.tmp 20) _ rfl w.heap.size 44 b4 ba 4 48 underlying31 aV b0 b1 b2 b3 dC u3 k I aN a1.1 u.heap.size _ 1 1 (fJ v x y J M K).toList aM (wZ a9 rfl) (aH1 _ _ _ _ _ _) (by unfold maxLen;omega) oM (zAk az b.size) ?_;intro b8 N a0 ab bn;exact j _ _ (aT (Keep.grown (kf _ _) ab fun k aW=>.inl aW)) ⟨_,a0,StpsAt.snoc (s:=aEd v x y) (A:=J) (n:=M) (c:=K) (U.grown a1.1 ab |>.mono az) (a1.2.grown a1.1 ab)⟩;exact aC
    · intro L N O b d;replace b:Keep (fun a=>u3.ownBlock=some a) wr N:=kD b;have b7:(fun z m=>∃E,m.ownsRow w.heap.size 44 4 z (k+1) E/\StpsAt m w.heap.size E (a6++ [aEd v x y])) (L (.tmp 21)) N:=d 12 21 dC rfl;simp only [zqq];clear d;obtain ⟨E,a0,ay⟩:=b7;obtain ⟨an,aG⟩:=hqq2 a0 ay;clear a0 ay;change wpAny prog Region.Mode.any _ _ (1+O) (bX 13 14) _ N;rw [zCs 1 O];refine bQ (f:=O) (i:=13) kR ?_;refine bY rfl rfl ?_;generalize j:wpAny prog _ _ _ O _=K5;go_simp;subst j;refine bV kR ?_;generalize L (.tmp 21)=b8 at an⊢;have ar:Below w.heap.size wr N:=b.to_below ak.out.size (fun a Y F=>by have:=aB.out _ F;omega);have aS:Below w.heap.size w N:=ak.out.trans ar;have bt:=iX (P:=prog) 22 5 1 underlying22 (fun w=>by kernel_rfl) (some ⟨o,t,none⟩) r B 3 S;go_wp2_with fail;go_roundw
      case rel=>exact ⟨k+1,r - 3,B - 3,_,E,rfl,by omega,by omega,aD.out.below ar,an.out,by rw [am.out];exact aG.out,aS⟩
      case measure=>simp;omega
  · have av:l.length / 3=k:=(by rw [al.out];omega);go_wp2_with fail;go_ret;exact ⟨_,I,rfl,by rw [av];exact V,by rw [av];exact af,X⟩
def aET (T D most kind p k):(doM T most kind p k D).2.places.length<=T.length+1:=by
 unfold doM;by_cases a:kind=1
 · rw [zBx a];split
   · simp
   · split <;> simp
 rw [zBw a];by_cases b:kind=2
 · rw [zBx b];split <;> simp
 rw [zBw b];by_cases e:kind=5
 · rw [zBx e];split <;> simp
 rw [zBw e];by_cases c:kind=3
 · rw [zBx c];split <;> simp
 rw [zBw c];by_cases d:kind=4
 · rw [zBx d];simp
 rw [zBw d];by_cases f:kind=6
 · rw [zBx f];simp
 rw [zBw f];by_cases g:kind=7;rw [zBx g];have:=tY T D (T.length+1 - D.length);simp only [dT];omega;rw [zBw g];by_cases i:kind=8
 · rw [zBx i];simp
 rw [zBw i];simp
def tU (l:List UInt8) (a b:Nat):(⟨l.toArray⟩:ByteArray).extract a b=⟨((l.drop a).take (b - a)).toArray⟩:=by
 apply ByteArray.ext;rw [ByteArray.data_extract];apply Array.ext';rw [Array.toList_extract]
def aX (l:List UInt8):(⟨l.toArray⟩:ByteArray).size=l.length:=by simp [ByteArray.size]
section
variable (l : List UInt8) (w : World)
def nW (a b) (c:a<=b) (d:b<=l.length):(Instr.slice 9 (.string ⟨l.toArray⟩) (some (.int .i64 (a:Int))) (some (.int .i64 (b:Int))) none).run prog w=.ok (.string ⟨((l.drop a).take (b - a)).toArray⟩) w:=by
 rw [run_slice_string (P:=prog) (w:=w) 9 ⟨l.toArray⟩ .i64 .i64 a b underlying9 oM oM (by rw [aX];omega)];rw [zBr,zBr,tU]
def aAX (a) (b:a<=l.length):(Instr.slice 9 (.string ⟨l.toArray⟩) none (some (.int .i64 (a:Int))) none).run prog w=.ok (.string ⟨(l.take a).toArray⟩) w:=by
 rw [run_slice_string_h (P:=prog) (w:=w) 9 ⟨l.toArray⟩ underlying9 .i64 a oM (by rw [aX];omega)];rw [zBr,tU];simp
def aAW (a) (b:a<=l.length):(Instr.slice 9 (.string ⟨l.toArray⟩) (some (.int .i64 (a:Int))) none none).run prog w=.ok (.string ⟨(l.drop a).toArray⟩) w:=by
 rw [run_slice_string_l (P:=prog) (w:=w) 9 ⟨l.toArray⟩ underlying9 .i64 a oM (by rw [aX];omega)];rw [zBr,tU,aX];congr 3;apply congrArg;rw [zAg (by rw [zAw];omega)]
def xM (a b) (c:a<=b) (d:b<=l.length):(Instr.sliceAt 9 (.string ⟨l.toArray⟩) (some (.int .i64 (a:Int))) (some (.int .i64 (b:Int))) none).run prog w=.ok (.string ⟨((l.drop a).take (b - a)).toArray⟩) w:=by
 rw [run_sliceAt_string (h:=underlying9),nW l w a b c d]
def aJn (a) (b:a<=l.length):(Instr.sliceAt 9 (.string ⟨l.toArray⟩) none (some (.int .i64 (a:Int))) none).run prog w=.ok (.string ⟨(l.take a).toArray⟩) w:=by
 rw [run_sliceAt_string (h:=underlying9),aAX l w a b]
def aJm (a) (b:a<=l.length):(Instr.sliceAt 9 (.string ⟨l.toArray⟩) (some (.int .i64 (a:Int))) none none).run prog w=.ok (.string ⟨(l.drop a).toArray⟩) w:=by
 rw [run_sliceAt_string (h:=underlying9),aAW l w a b]
end
def aEu (c a:List UInt8):(c.take a.length==a)=a.isPrefixOf c:=by
 rw [Bool.eq_iff_iff];simp only [zCq,List.isPrefixOf_iff_prefix];constructor;intro b;rw [<-b];exact List.take_prefix _ _;intro b;exact (List.prefix_iff_eq_take.1 b).symm
def pT (b p:List UInt8) (a c f d:Nat) (w:World) (j:b.length=f) (e:p.length=d) (s:a+d=c) (q:c<=f) (r:f<=1099511627776):
 Calls prog 52 #[.string ⟨b.toArray⟩,(a:Int),.string ⟨p.toArray⟩] w fun m n=>m=.returned (.bool (p.isPrefixOf (b.drop a)))/\w=n:=by
 have x:(⟨b.toArray⟩:ByteArray).size=f:=(aX b).trans j;have y:(⟨p.toArray⟩:ByteArray).size=d:=(aX p).trans e;have u:=fun w=>nW b w a c oM oM;have v:=fun w=>xM b w a c oM oM;have t:(a:Int)+(d:Int)=(c:Int):=oM;have i:((b.drop a).take (c - a)==p)=p.isPrefixOf (b.drop a):=by rw [<-aEu,e,show c - a=d by omega]
 obtain ⟨g,o⟩:=hqq2 i e;clear e j i;go_enter func52,ntmps52;go_wp2;go_ret;exact ⟨bH (by first | exact g.out |(simp [<-g.out])),rfl⟩
def zC (a p c b j t w) (o:a.length=c) (d:p.length=b) (A:dT a p=j) (B:j.length=t) (a4:c<=549755813888) (a3:b<=549755813888):
 Calls prog 21 #[.string ⟨a.toArray⟩,.string ⟨p.toArray⟩] w fun u r=>∃g m,u=.returned (.slice g t m)/\Made r w.heap.size 3 1 g t m (j.map nv)/\Below w.heap.size w r:=by
 obtain ⟨Y,P,U,V,X⟩:=info_parts uQ;have a8:(⟨a.toArray⟩:ByteArray).size=c:=(aX a).trans o;have a9:(⟨p.toArray⟩:ByteArray).size=b:=(aX p).trans d;have C:∀k:Nat,k<=c+1 - b->¬(k+b<=c)->fP a p k=j:=fun k a1 a2=>by rw [<-A,dT,o,d];congr 1;omega
 obtain ⟨K,J,z,y⟩:=hqq4 C B o d;clear A B C o d;go_enter func21,ntmps21;go_wp2;go_loopw [5,6] (fun a0 x wr=>∃k:Nat,k<=c+1 - b/\x=.int .i64 k/\wr.ownsRow w.heap.size 3 1 a0 (fP a p k).length ((fP a p k).map nv)/\Below w.heap.size w wr) (fun _ x _=>c+1 -(intOf x).toNat)
 case atStart=>exact ⟨0,zAp _,rfl,kj _ _ _ _,kh _ _⟩
 case round=>
  obtain ⟨k,Q,rfl,f,n⟩:=hrel;have H:=n.size;by_cases R:k+b<=c
  · have F:=tY a p k;have O:decide ((k:Int)+(b:Int)<=(c:Int))=true:=(by simp;omega);obtain ⟨I,G⟩:=eqx (k+b);have i:=lhd f;clear f;cases q:p.isPrefixOf (a.drop k) with
    | true=>
      have e:=xV a p k q;have s:=lhd e;obtain ⟨Z,v⟩:=eqx ((fP a p k).length);rw [v] at F i;have L:=lhd v;clear e v;go_wp2_with fail;refine (pT a p k I c b _ z.out y.out G oM oM).mono ?_;rintro u r ⟨rfl,rfl⟩;rw [q];go_wp2_with (at_builtin;refine bL _ rfl (.tmp 20) (.tmp 22) _ rfl w.heap.size 3 Y (.int .i64 0) 1 8 underlying39 P U V X rfl dC _ Z _ rfl i.out rfl rfl (by simp [Value.oneCell']) (by unfold maxLen;omega) oM H ?_;intro a6 a7 S E a5 M);have N:=aZ n i.out E H;clear E M;go_roundw
      case rel=>refine ⟨k+1,by omega,by go_num,?_,N⟩;rw [s.out,zAi,L.out,zAz];exact S
      case measure=>simp [intOf];omega
    | false=>
      have e:=tX a p k q;have s:=lhd e;clear e F;go_wp2_with fail;refine (pT a p k I c b _ z.out y.out G oM oM).mono ?_;rintro u r ⟨rfl,rfl⟩;rw [q];go_wp2;go_roundw
      case rel=>refine ⟨k+1,by omega,by go_num,?_,n⟩;rw [s.out];exact i.out
      case measure=>simp [intOf];omega
  · have O:decide ((k:Int)+(b:Int)<=(c:Int))=false:=(by simp;omega);rw [K.out k Q R,J.out] at f;obtain ⟨g,m,rfl,d⟩:=aS f;clear f;go_wp2;go_ret;exact ⟨g,m,rfl,d,n⟩
def xL (B C:Option Addr) (a O e P J K:Nat) (b c:List Nat) (w:World) (o:Rd w J 1 B a (b.map nv)) (q:Rd w K 1 C e (c.map nv)) (a2:a<=1099511627776) (a3:e<=1099511627776):
 Calls prog 24 #[.slice B a O,.slice C e P] w fun S Y=>S=.returned (.bool (decide (b=c)))/\Below w.heap.size w Y:=by
 have H:b.length=a:=by simpa using o.1
 have I:c.length=e:=by simpa using q.1
 obtain ⟨L,M,f,g⟩:=hqq4 o q H I;clear o q H I;by_cases r:a=e
 · subst r;go_enter func24,ntmps24;go_wp2;go_loopw [5] (fun y wr=>∃k:Nat,k<=a/\y=.int .i64 k/\b.take k=c.take k/\∃V,wr=w.drewN V) (fun y _=>a -(intOf y).toNat)
   case atStart=>exact ⟨0,zAp _,rfl,rfl,0,rfl⟩
   case round=>
    obtain ⟨k,a1,rfl,j,a4,rfl⟩:=hrel;by_cases G:k < a
    · obtain ⟨z,u⟩:∃z,b[k]?=some z:=⟨b[k]'(by have:=f.out;omega),zAa (by have:=f.out;omega)⟩;obtain ⟨A,x⟩:∃A,c[k]?=some A:=⟨c[k]'(by have:=g.out;omega),zAa (by have:=g.out;omega)⟩;obtain ⟨b1,a5,a7,rfl,Z,s,Q⟩:=L.out.get G;obtain ⟨b2,a6,a8,rfl,a0,t,R⟩:=M.out.get G;rw [zAf,u] at s;rw [zAf,x] at t;simp only [Option.map_some,Option.some.injEq] at s t;subst s;subst t;unfold nv iv at Q R;obtain ⟨N,E,F⟩:=hqq3 j u x;clear j u x;by_cases v:z=A
      · subst v;go_wp2;go_quiet (fail);go_wp2;go_roundw
        case rel=>refine ⟨k+1,by omega,by go_num,?_,_,rfl⟩;rw [zAv,zAv,N.out,E.out,F.out]
        case measure=>simp [intOf];omega
      · have X:=oW v
        have d:b≠c:=fun n=>v (by
         have i:=E.out;rw [n,F.out] at i;injection i with i;exact i.symm)
        have m:=lhd d;clear d;go_wp2;go_quiet (fail);go_wp2;go_ret;exact ⟨bH (by rw [zBy m.out]),kn (kn bR _) _⟩
    · have U:a<=k:=oM;have d:=lhd (uP f.out g.out j U);clear j;go_wp2;go_ret;exact ⟨bH (by rw [zBz d.out]),kn bR _⟩
 · have d:b≠c:=fun n=>r (by rw [<-f.out,<-g.out,n]);have m:=lhd d;have X:=oW r;clear d;go_enter func24,ntmps24;go_wp2;go_ret;exact ⟨bH (by rw [zBy m.out]),kh _ _⟩
def vD (g i j m:Int) (x y z A:Option Addr) (Q Y R Z t a0 u a1 B C E F:Nat) (n o:List UInt8) (r s:List Nat) (w:World) (L:Rd w B 1 x Q (n.map bv)) (M:Rd w C 1 y R (o.map bv)) (N:Rd w E 1 z t (r.map nv)) (O:Rd w F 1 A u (s.map nv))
 (b1:B<=w.heap.size) (b2:C<=w.heap.size) (I:E<=w.heap.size) (J:F<=w.heap.size) (a3:t<=1099511627776) (a4:u<=1099511627776):
 Calls prog 13 #[.agg #[(g:Int),(j:Int),.slice x Q Y,.slice z t a0],.agg #[(i:Int),(m:Int),.slice y R Z,.slice A u a1]] w fun K U=>K=.returned (.bool (decide (g=i/\j=m/\n=o/\r=s)))/\Below w.heap.size w U:=by
 have b:∀c d,Below w.heap.size w ((w.alloc c).alloc d):=fun c d=>((kh w.heap.size w).alloc nL c).alloc (by simp) d;obtain ⟨G,H,V,X⟩:=hqq4 (L.mono b1) (M.mono b2) (N.mono I) (O.mono J);clear L M N O b1 b2 I J;by_cases e:g=i
 · by_cases f:j=m
   · by_cases q:n=o
     · have v:(g==i)=true:=(by rw [zCq];exact e);have S:(j==m)=true:=(by rw [zCq];exact f);have a:=lhd (And.intro e (And.intro f q));clear e f q;go_enter func13,ntmps13;have a5:=fun c d=>gM (G.out.below (b c d));have a6:=fun c d=>gM (H.out.below (b c d));have a7:(n==o)=true:=(by rw [zCq];exact a.out.2.2);go_wp2_with fail;refine (xL _ _ _ _ _ _ _ _ r s _ (V.out.below (b _ _)) (X.out.below (b _ _)) a3 a4).mono ?_;rintro K U ⟨rfl,P⟩;have a2:=(b _ _).trans (P.mono (b _ _).size);clear P;go_wp2_with fail;go_ret;exact ⟨bH (by simp [a.out.1,a.out.2.1,a.out.2.2]),a2⟩
     · have v:(g==i)=true:=(by rw [zCq];exact e);have S:(j==m)=true:=(by rw [zCq];exact f);have a:=lhd q;clear e f q;go_enter func13,ntmps13;have a5:=fun c d=>gM (G.out.below (b c d));have a6:=fun c d=>gM (H.out.below (b c d));have a7:(n==o)=false:=(by rw [zCb];exact a.out);go_wp2_with fail;go_ret;exact ⟨bH (by simp [a.out]),b _ _⟩
   · have v:(g==i)=true:=(by rw [zCq];exact e);have S:(j==m)=false:=(by rw [zCb];exact f);have a:=lhd f;clear e f;go_enter func13,ntmps13;go_wp2_with fail;go_ret;exact ⟨bH (by simp [a.out]),b _ _⟩
 · have v:(g==i)=false:=(by rw [zCb];exact e);have a:=lhd e;clear e;go_enter func13,ntmps13;go_wp2_with fail;go_ret;exact ⟨bH (by simp [a.out]),b _ _⟩
def jG (a b:List UInt8):Value.string ((⟨a.toArray⟩:ByteArray)++⟨b.toArray⟩)=.string ⟨(a++b).toArray⟩:=congrArg Value.string (by
 apply ByteArray.ext;rw [ByteArray.data_append];simp)
def RdN (w:World) (g i:Nat) (c:Option Addr) (d:Nat) (j:List Value):Prop:=Rd w w.heap.size i c d j/\(0 < d->∀a,c=some a->g<=a.block/\∃e b f,w.heap[a.block]?=some (.cells e b f)/\(b=5∨b=3))
def RdN.keepF {i w r f q o g s} (b:RdN w f q g o s) (k:Keep i w r) (n:∀j,i j->j < f):RdN r f q g o s:=
 ⟨Rd.keepF b.1 k nL fun e a d c=>by have:=(b.2 e a d).1;have:=n _ c;omega,fun e a d=>by
  obtain ⟨x,t,u,v,m,y⟩:=b.2 e a d;exact ⟨x,t,u,v,(k.block _ (zAh.1 m).1 fun c=>by have:=n _ c;omega).trans m,y⟩⟩
def RdN.below {w g d f e a i} (b:RdN w d f a e i) (k:Below w.heap.size w g):RdN g d f a e i:=⟨(b.1.below k).mono k.size,fun t j s=>by
 obtain ⟨q,m,n,o,c,r⟩:=b.2 t j s;exact ⟨q,m,n,o,(k.block _ (zAh.1 c).1).trans c,r⟩⟩
def RdN.mono {w f g j i b m} (a:RdN w f j b i m) (n:g<=f):RdN w g j b i m:=⟨a.1,fun e c d=>⟨zAk n (a.2 e c d).1,(a.2 e c d).2⟩⟩
def RdN.nil (w c d a):RdN w c d a 0 []:=⟨Rd.nil _ _ _ _,fun b=>absurd b oM⟩
def RdN.of_made {w d g f j b c i} (e:Made w d b g c f j i) (q:b=5∨b=3):RdN w d g c f i:=⟨e.rd,fun x r n=>by
 subst n;rcases e.own.2 with ⟨y,v⟩|⟨u,s,t,a,m,o,_⟩;omega
 · injection a with a;injection a with a;subst a;exact ⟨m,_,_,_,o,q⟩⟩
def aIJ (d e b:Nat) (g:List Value):Value->World->Prop:=fun f w=>∃a c,f=.slice a b c/\RdN w d e a b g
def aCo {a c} (i:∀b,a b->b < c) (m j n):uE a (aIJ c m j n):=fun _ _ _ ⟨d,e,f,g⟩ k=>⟨d,e,f,g.keepF k i⟩
def aLt (d:Nat) (a:List UInt8):Value->World->Prop:=fun e w=>∃b c,e=.agg (gX ⟨0,0,a, []⟩ b c none 0)/\RdN w d 1 b a.length (a.map bv)
def aGg {a c} (j:∀b,a b->b < c) (e):uE a (aLt c e):=fun _ _ _ ⟨d,f,g,i⟩ k=>⟨d,f,g,i.keepF k j⟩
def aJp (e d:Nat) (a:List UInt8):Value->World->Prop:=fun _ w=>∃b c,Bk w e 41 (gX ⟨0,0,a, []⟩ b c none 0)/\RdN w d 1 b a.length (a.map bv)
def aG2 (g f c):Stb (aJp g f c):=fun _ _ _ ⟨b,d,a,e⟩ k=>⟨b,d,kg a k a.lt,e.below k⟩
def aIp (w:World) (l:List UInt8) (c:Nat) (a:TypeId) (d:Nat×Nat) (i e:Nat) (q:l.length=i) (o:e=w.heap.size) (n:a=5∨a=3):RdN (w.drew.alloc (.cells (bytesRow ⟨l.toArray⟩ c) a d)) e 1 (some ⟨e,0,none⟩) i (l.map bv):=by
 subst o;refine ⟨⟨by simp [q],fun _=>⟨_,0,rfl,by simp,fun g s b=>?_⟩⟩,fun _ r m=>by cases m;exact ⟨zAs _,_,_,_,heap_alloc_new w.drew _,n⟩⟩;have j:=cell_of_row (w.drew.alloc (.cells (bytesRow ⟨l.toArray⟩ c) a d)) w.heap.size g (bytesRow ⟨l.toArray⟩ c) a d (heap_alloc_new w.drew _);rw [zBi,j];unfold bytesRow;have f:g < l.length:=by have:=(zAc.1 b).1;simpa using this
 rw [Array.getElem?_append_left (by simpa using f)];rw [zAf,zAa f] at b;simp only [Option.map_some,Option.some.injEq] at b;rw [<-b];simp [f,bv]
def bZ (gx:Nat) (most:Int) (f:List UInt8) (a:Told) (w b:World) (j:Ending):Prop:=
 ∃c i d e,j=.returned (.agg (gX a c i d e))/\Keep (fun g=>g=gx) w b/\RdN b w.heap.size 1 c a.data.length (a.data.map bv)/\Made b w.heap.size 3 1 d a.places.length e (a.places.map nv)/\Bk b gx 38 #[.string ⟨f.toArray⟩,(most:Int)]
def cU {gx most d b w a c s A1 c1 A2 c2} (o:c.getD 4 undef=.pointer (some s)) (i:Bk a s 41 (gX b A1 c1 A2 c2)) (j:Keep (fun e=>e=gx) w a) (m:RdN a w.heap.size 1 A1 b.data.length (b.data.map bv)) (n:Made a w.heap.size 3 1 A2 b.places.length c2 (b.places.map nv)) (q:Bk a gx 38 #[.string ⟨d.toArray⟩,(most:Int)]):
 bodyPost prog f11 (fun g a=>bZ gx most d b w a g) .ret ⟨c, []⟩ a:=by
 have r:=results_cell_row (P:=prog) (fn:=f11) (p:=4) (ty:=41) rfl c a s 41 (gX b A1 c1 A2 c2) (0,0) _ o i underlying41 rfl kR;exact bodyPost_ret r rfl ⟨A1,c1,A2,c2,rfl,j,m,n,q⟩
structure RefF (w W:World) (gx nd cd:Nat) (AD:Option Addr) (T D:List UInt8) (most kind p k:Int):Prop where
 low:Below w.heap.size w W
 step:Bk W w.heap.size 44 #[(kind:Int),(p:Int),(k:Int),.slice AD nd cd]
 res:Bk W (w.heap.size+1) 41 #[o0,o0,(),()]
 mod:Bk W gx 38 #[.string ⟨T.toArray⟩,(most:Int)]
 rD:Rd W w.heap.size 1 AD nd (D.map bv)
 gxl:gx < w.heap.size
section
variable {w W W' : World} {gx nd cd : Nat} {AD : Option Addr} {T D : List UInt8} {most kind p k : Int}
def RefF.grow (a:RefF w W gx nd cd AD T D most kind p k) (b:Grow W W'):RefF w W' gx nd cd AD T D most kind p k:=
 ⟨a.low.trans (Below.mono b a.low.size),a.step.below b a.step.lt,a.res.below b a.res.lt,a.mod.below b a.mod.lt,a.rD.below (Below.mono b a.low.size),a.gxl⟩
def dX (w kind p k AD nd cd a):Below w.heap.size w ((w.alloc (.cells #[(kind:Int),(p:Int),(k:Int),.slice AD nd cd] 44)).alloc (.cells a 41)):=
 ((kh w.heap.size w).alloc nL _).alloc (by simp) _
def eE (w:World) (kind p k:Int) (AD:Option Addr) (nd cd:Nat) (a:Array Value):Bk ((w.alloc (.cells #[(kind:Int),(p:Int),(k:Int),.slice AD nd cd] 44)).alloc (.cells a 41)) (w.heap.size+1) 41 a:=by
 simpa using ke (w.alloc (.cells #[(kind:Int),(p:Int),(k:Int),.slice AD nd cd] 44)) 41 a
def bS {a} (b:Bk w gx 38 #[.string ⟨T.toArray⟩,(most:Int)]) (d:Rd w a 1 AD nd (D.map bv)) (c:a<=w.heap.size):
 RefF w ((w.alloc (.cells #[(kind:Int),(p:Int),(k:Int),.slice AD nd cd] 44)).alloc (.cells #[o0,o0,(),()] 41)) gx nd cd AD T D most kind p k:=
 ⟨dX _ _ _ _ _ _ _ _,(ke _ _ _).alloc _,eE _ _ _ _ _ _ _ _,(b.alloc _).alloc _,(d.mono c).below (dX _ _ _ _ _ _ _ _),b.lt⟩
end
def aDA (gx:Nat) (AD:Option Addr) (nd cd e:Nat) (p k:Int) (most:Int) (T D:List UInt8) (d:Nat) (c:T.length=d) (w:World) (a:Bk w gx 38 #[.string ⟨T.toArray⟩,(most:Int)])
 (b:Rd w e 1 AD nd (D.map bv)) (n:e<=w.heap.size) (i:0 < nd->∀g,AD=some g->g.block≠gx) (y:d<=549755813888) (v:nd<=549755813888) (C:-9223372036854775808<=(p:Int)/\(p:Int)<=9223372036854775807) (o:-9223372036854775808<=(k:Int)/\(k:Int)<=9223372036854775807) (B:0<=most/\most<=2147483648)
 (u:p < 0):
 Calls prog 11 #[gx,aU 1 p k AD nd cd] w fun m q=>bZ gx most (T) ⟨2,0, [], []⟩ w q m:=by
 have x:D.length=nd:=by simpa using b.1
 have f:=bS (kind:=1) (p:=p) (k:=k) (cd:=cd) a b n;obtain ⟨r,j,t,s⟩:=hqq4 f a c i;have z:=a.lt;have F:(⟨T.toArray⟩:ByteArray).size=d:=(aX T).trans c;have E:w.cell? gx=some (.string ⟨T.toArray⟩):=(a.cell 0).trans rfl;clear b a f c i;have A:=o;unfold aU;go_enter func11,ntmps11;go_wp2;exact cU (A1:=none) (c1:=0) (A2:=none) (c2:=0) rfl (eE w 1 p k AD nd cd #[(2:Int),o0,(),()]) (kF (dX _ _ _ _ _ _ _ _)) (RdN.nil _ _ _ _) (aM _ _ _) ((j.out.alloc _).alloc _)
def aDB (gx:Nat) (AD:Option Addr) (nd cd e:Nat) (p k:Int) (most:Int) (T D:List UInt8) (b:Nat) (d:T.length=b) (w:World) (a:Bk w gx 38 #[.string ⟨T.toArray⟩,(most:Int)])
 (c:Rd w e 1 AD nd (D.map bv)) (n:e<=w.heap.size) (i:0 < nd->∀g,AD=some g->g.block≠gx) (z:b<=549755813888) (x:nd<=549755813888) (E:-9223372036854775808<=(p:Int)/\(p:Int)<=9223372036854775807) (o:-9223372036854775808<=(k:Int)/\(k:Int)<=9223372036854775807) (C:0<=most/\most<=2147483648)
 (u:¬(p < 0)) (v:p > (b:Int)):
 Calls prog 11 #[gx,aU 1 p k AD nd cd] w fun m q=>bZ gx most (T) ⟨2,0, [], []⟩ w q m:=by
 have y:D.length=nd:=by simpa using c.1
 have f:=bS (kind:=1) (p:=p) (k:=k) (cd:=cd) a c n;obtain ⟨r,j,t,s⟩:=hqq4 f a d i;have A:=a.lt;have G:(⟨T.toArray⟩:ByteArray).size=b:=(aX T).trans d;have F:w.cell? gx=some (.string ⟨T.toArray⟩):=(a.cell 0).trans rfl;clear c a f d i;have B:=o;unfold aU;go_enter func11,ntmps11;go_wp2;exact cU (A1:=none) (c1:=0) (A2:=none) (c2:=0) rfl (eE w 1 p k AD nd cd #[(2:Int),o0,(),()]) (kF (dX _ _ _ _ _ _ _ _)) (RdN.nil _ _ _ _) (aM _ _ _) ((j.out.alloc _).alloc _)
def aDC (gx:Nat) (AD:Option Addr) (nd cd e:Nat) (p k:Int) (most:Int) (T D:List UInt8) (d:Nat) (c:T.length=d) (w:World) (a:Bk w gx 38 #[.string ⟨T.toArray⟩,(most:Int)])
 (b:Rd w e 1 AD nd (D.map bv)) (n:e<=w.heap.size) (i:0 < nd->∀g,AD=some g->g.block≠gx) (y:d<=549755813888) (v:nd<=549755813888) (C:-9223372036854775808<=(p:Int)/\(p:Int)<=9223372036854775807) (o:-9223372036854775808<=(k:Int)/\(k:Int)<=9223372036854775807) (B:0<=most/\most<=2147483648)
 (u:p < 0):
 Calls prog 11 #[gx,aU 2 p k AD nd cd] w fun m q=>bZ gx most (T) ⟨2,0, [], []⟩ w q m:=by
 have x:D.length=nd:=by simpa using b.1
 have f:=bS (kind:=2) (p:=p) (k:=k) (cd:=cd) a b n;obtain ⟨r,j,t,s⟩:=hqq4 f a c i;have z:=a.lt;have F:(⟨T.toArray⟩:ByteArray).size=d:=(aX T).trans c;have E:w.cell? gx=some (.string ⟨T.toArray⟩):=(a.cell 0).trans rfl;clear b a f c i;have A:=o;unfold aU;go_enter func11,ntmps11;go_wp2;exact cU (A1:=none) (c1:=0) (A2:=none) (c2:=0) rfl (eE w 2 p k AD nd cd #[(2:Int),o0,(),()]) (kF (dX _ _ _ _ _ _ _ _)) (RdN.nil _ _ _ _) (aM _ _ _) ((j.out.alloc _).alloc _)
def aBN (gx:Nat) (AD:Option Addr) (nd cd e:Nat) (p k:Int) (most:Int) (T D:List UInt8) (d:Nat) (c:T.length=d) (w:World) (a:Bk w gx 38 #[.string ⟨T.toArray⟩,(most:Int)])
 (b:Rd w e 1 AD nd (D.map bv)) (n:e<=w.heap.size) (i:0 < nd->∀g,AD=some g->g.block≠gx) (z:d<=549755813888) (x:nd<=549755813888) (E:-9223372036854775808<=(p:Int)/\(p:Int)<=9223372036854775807) (o:-9223372036854775808<=(k:Int)/\(k:Int)<=9223372036854775807) (C:0<=most/\most<=2147483648)
 (u:¬(p < 0)) (v:k < 0):
 Calls prog 11 #[gx,aU 2 p k AD nd cd] w fun m q=>bZ gx most (T) ⟨2,0, [], []⟩ w q m:=by
 have y:D.length=nd:=by simpa using b.1
 have f:=bS (kind:=2) (p:=p) (k:=k) (cd:=cd) a b n;obtain ⟨r,j,t,s⟩:=hqq4 f a c i;have A:=a.lt;have G:(⟨T.toArray⟩:ByteArray).size=d:=(aX T).trans c;have F:w.cell? gx=some (.string ⟨T.toArray⟩):=(a.cell 0).trans rfl;clear b a f c i;have B:=o;unfold aU;go_enter func11,ntmps11;go_wp2;exact cU (A1:=none) (c1:=0) (A2:=none) (c2:=0) rfl (eE w 2 p k AD nd cd #[(2:Int),o0,(),()]) (kF (dX _ _ _ _ _ _ _ _)) (RdN.nil _ _ _ _) (aM _ _ _) ((j.out.alloc _).alloc _)
def aDD (gx:Nat) (AD:Option Addr) (nd cd e:Nat) (p k:Int) (most:Int) (T D:List UInt8) (b:Nat) (d:T.length=b) (w:World) (a:Bk w gx 38 #[.string ⟨T.toArray⟩,(most:Int)])
 (c:Rd w e 1 AD nd (D.map bv)) (n:e<=w.heap.size) (i:0 < nd->∀g,AD=some g->g.block≠gx) (A:b<=549755813888) (y:nd<=549755813888) (F:-9223372036854775808<=(p:Int)/\(p:Int)<=9223372036854775807) (o:-9223372036854775808<=(k:Int)/\(k:Int)<=9223372036854775807) (E:0<=most/\most<=2147483648)
 (u:¬(p < 0)) (v:¬(k < 0)) (x:p > (b:Int)):
 Calls prog 11 #[gx,aU 2 p k AD nd cd] w fun m q=>bZ gx most (T) ⟨2,0, [], []⟩ w q m:=by
 have z:D.length=nd:=by simpa using c.1
 have f:=bS (kind:=2) (p:=p) (k:=k) (cd:=cd) a c n;obtain ⟨r,j,t,s⟩:=hqq4 f a d i;have B:=a.lt;have H:(⟨T.toArray⟩:ByteArray).size=b:=(aX T).trans d;have G:w.cell? gx=some (.string ⟨T.toArray⟩):=(a.cell 0).trans rfl;clear c a f d i;have C:=o;unfold aU;go_enter func11,ntmps11;go_wp2;exact cU (A1:=none) (c1:=0) (A2:=none) (c2:=0) rfl (eE w 2 p k AD nd cd #[(2:Int),o0,(),()]) (kF (dX _ _ _ _ _ _ _ _)) (RdN.nil _ _ _ _) (aM _ _ _) ((j.out.alloc _).alloc _)
def aBO (gx:Nat) (AD:Option Addr) (nd cd e:Nat) (p k:Int) (most:Int) (T D:List UInt8) (b:Nat) (d:T.length=b) (w:World) (a:Bk w gx 38 #[.string ⟨T.toArray⟩,(most:Int)])
 (c:Rd w e 1 AD nd (D.map bv)) (n:e<=w.heap.size) (i:0 < nd->∀g,AD=some g->g.block≠gx) (B:b<=549755813888) (z:nd<=549755813888) (G:-9223372036854775808<=(p:Int)/\(p:Int)<=9223372036854775807) (o:-9223372036854775808<=(k:Int)/\(k:Int)<=9223372036854775807) (F:0<=most/\most<=2147483648)
 (u:¬(p < 0)) (v:¬(k < 0)) (x:¬(p > (b:Int))) (y:k > (b:Int) - p):
 Calls prog 11 #[gx,aU 2 p k AD nd cd] w fun m q=>bZ gx most (T) ⟨2,0, [], []⟩ w q m:=by
 have A:D.length=nd:=by simpa using c.1
 have f:=bS (kind:=2) (p:=p) (k:=k) (cd:=cd) a c n;obtain ⟨r,j,t,s⟩:=hqq4 f a d i;have C:=a.lt;have I:(⟨T.toArray⟩:ByteArray).size=b:=(aX T).trans d;have H:w.cell? gx=some (.string ⟨T.toArray⟩):=(a.cell 0).trans rfl;clear c a f d i;have E:=o;unfold aU;go_enter func11,ntmps11;go_wp2;exact cU (A1:=none) (c1:=0) (A2:=none) (c2:=0) rfl (eE w 2 p k AD nd cd #[(2:Int),o0,(),()]) (kF (dX _ _ _ _ _ _ _ _)) (RdN.nil _ _ _ _) (aM _ _ _) ((j.out.alloc _).alloc _)
def aBJ (gx:Nat) (AD:Option Addr) (nd cd e:Nat) (p k:Int) (most:Int) (T D:List UInt8) (d:Nat) (c:T.length=d) (w:World) (a:Bk w gx 38 #[.string ⟨T.toArray⟩,(most:Int)])
 (b:Rd w e 1 AD nd (D.map bv)) (n:e<=w.heap.size) (i:0 < nd->∀g,AD=some g->g.block≠gx) (y:d<=549755813888) (v:nd<=549755813888) (C:-9223372036854775808<=(p:Int)/\(p:Int)<=9223372036854775807) (o:-9223372036854775808<=(k:Int)/\(k:Int)<=9223372036854775807) (B:0<=most/\most<=2147483648)
 (u:p < 0):
 Calls prog 11 #[gx,aU 5 p k AD nd cd] w fun m q=>bZ gx most (T) ⟨2,0, [], []⟩ w q m:=by
 have x:D.length=nd:=by simpa using b.1
 have f:=bS (kind:=5) (p:=p) (k:=k) (cd:=cd) a b n;obtain ⟨r,j,t,s⟩:=hqq4 f a c i;have z:=a.lt;have F:(⟨T.toArray⟩:ByteArray).size=d:=(aX T).trans c;have E:w.cell? gx=some (.string ⟨T.toArray⟩):=(a.cell 0).trans rfl;clear b a f c i;have A:=o;unfold aU;go_enter func11,ntmps11;go_wp2;exact cU (A1:=none) (c1:=0) (A2:=none) (c2:=0) rfl (eE w 5 p k AD nd cd #[(2:Int),o0,(),()]) (kF (dX _ _ _ _ _ _ _ _)) (RdN.nil _ _ _ _) (aM _ _ _) ((j.out.alloc _).alloc _)
def zZ (gx:Nat) (AD:Option Addr) (nd cd e:Nat) (p k:Int) (most:Int) (T D:List UInt8) (d:Nat) (c:T.length=d) (w:World) (a:Bk w gx 38 #[.string ⟨T.toArray⟩,(most:Int)])
 (b:Rd w e 1 AD nd (D.map bv)) (n:e<=w.heap.size) (i:0 < nd->∀g,AD=some g->g.block≠gx) (z:d<=549755813888) (x:nd<=549755813888) (E:-9223372036854775808<=(p:Int)/\(p:Int)<=9223372036854775807) (o:-9223372036854775808<=(k:Int)/\(k:Int)<=9223372036854775807) (C:0<=most/\most<=2147483648)
 (u:¬(p < 0)) (v:k < 0):
 Calls prog 11 #[gx,aU 5 p k AD nd cd] w fun m q=>bZ gx most (T) ⟨2,0, [], []⟩ w q m:=by
 have y:D.length=nd:=by simpa using b.1
 have f:=bS (kind:=5) (p:=p) (k:=k) (cd:=cd) a b n;obtain ⟨r,j,t,s⟩:=hqq4 f a c i;have A:=a.lt;have G:(⟨T.toArray⟩:ByteArray).size=d:=(aX T).trans c;have F:w.cell? gx=some (.string ⟨T.toArray⟩):=(a.cell 0).trans rfl;clear b a f c i;have B:=o;unfold aU;go_enter func11,ntmps11;go_wp2;exact cU (A1:=none) (c1:=0) (A2:=none) (c2:=0) rfl (eE w 5 p k AD nd cd #[(2:Int),o0,(),()]) (kF (dX _ _ _ _ _ _ _ _)) (RdN.nil _ _ _ _) (aM _ _ _) ((j.out.alloc _).alloc _)
def aBK (gx:Nat) (AD:Option Addr) (nd cd e:Nat) (p k:Int) (most:Int) (T D:List UInt8) (b:Nat) (d:T.length=b) (w:World) (a:Bk w gx 38 #[.string ⟨T.toArray⟩,(most:Int)])
 (c:Rd w e 1 AD nd (D.map bv)) (n:e<=w.heap.size) (i:0 < nd->∀g,AD=some g->g.block≠gx) (A:b<=549755813888) (y:nd<=549755813888) (F:-9223372036854775808<=(p:Int)/\(p:Int)<=9223372036854775807) (o:-9223372036854775808<=(k:Int)/\(k:Int)<=9223372036854775807) (E:0<=most/\most<=2147483648)
 (u:¬(p < 0)) (v:¬(k < 0)) (x:p > (b:Int)):
 Calls prog 11 #[gx,aU 5 p k AD nd cd] w fun m q=>bZ gx most (T) ⟨2,0, [], []⟩ w q m:=by
 have z:D.length=nd:=by simpa using c.1
 have f:=bS (kind:=5) (p:=p) (k:=k) (cd:=cd) a c n;obtain ⟨r,j,t,s⟩:=hqq4 f a d i;have B:=a.lt;have H:(⟨T.toArray⟩:ByteArray).size=b:=(aX T).trans d;have G:w.cell? gx=some (.string ⟨T.toArray⟩):=(a.cell 0).trans rfl;clear c a f d i;have C:=o;unfold aU;go_enter func11,ntmps11;go_wp2;exact cU (A1:=none) (c1:=0) (A2:=none) (c2:=0) rfl (eE w 5 p k AD nd cd #[(2:Int),o0,(),()]) (kF (dX _ _ _ _ _ _ _ _)) (RdN.nil _ _ _ _) (aM _ _ _) ((j.out.alloc _).alloc _)
def aAa (gx:Nat) (AD:Option Addr) (nd cd e:Nat) (p k:Int) (most:Int) (T D:List UInt8) (b:Nat) (d:T.length=b) (w:World) (a:Bk w gx 38 #[.string ⟨T.toArray⟩,(most:Int)])
 (c:Rd w e 1 AD nd (D.map bv)) (n:e<=w.heap.size) (i:0 < nd->∀g,AD=some g->g.block≠gx) (B:b<=549755813888) (z:nd<=549755813888) (G:-9223372036854775808<=(p:Int)/\(p:Int)<=9223372036854775807) (o:-9223372036854775808<=(k:Int)/\(k:Int)<=9223372036854775807) (F:0<=most/\most<=2147483648)
 (u:¬(p < 0)) (v:¬(k < 0)) (x:¬(p > (b:Int))) (y:k > (b:Int) - p):
 Calls prog 11 #[gx,aU 5 p k AD nd cd] w fun m q=>bZ gx most (T) ⟨2,0, [], []⟩ w q m:=by
 have A:D.length=nd:=by simpa using c.1
 have f:=bS (kind:=5) (p:=p) (k:=k) (cd:=cd) a c n;obtain ⟨r,j,t,s⟩:=hqq4 f a d i;have C:=a.lt;have I:(⟨T.toArray⟩:ByteArray).size=b:=(aX T).trans d;have H:w.cell? gx=some (.string ⟨T.toArray⟩):=(a.cell 0).trans rfl;clear c a f d i;have E:=o;unfold aU;go_enter func11,ntmps11;go_wp2;exact cU (A1:=none) (c1:=0) (A2:=none) (c2:=0) rfl (eE w 5 p k AD nd cd #[(2:Int),o0,(),()]) (kF (dX _ _ _ _ _ _ _ _)) (RdN.nil _ _ _ _) (aM _ _ _) ((j.out.alloc _).alloc _)
def aDy (gx:Nat) (AD:Option Addr) (nd cd e:Nat) (p k:Int) (most:Int) (T D:List UInt8) (d:Nat) (c:T.length=d) (w:World) (a:Bk w gx 38 #[.string ⟨T.toArray⟩,(most:Int)])
 (b:Rd w e 1 AD nd (D.map bv)) (n:e<=w.heap.size) (i:0 < nd->∀g,AD=some g->g.block≠gx) (y:d<=549755813888) (v:nd<=549755813888) (C:-9223372036854775808<=(p:Int)/\(p:Int)<=9223372036854775807) (o:-9223372036854775808<=(k:Int)/\(k:Int)<=9223372036854775807) (B:0<=most/\most<=2147483648)
 (u:p < 0):
 Calls prog 11 #[gx,aU 3 p k AD nd cd] w fun m q=>bZ gx most (T) ⟨2,0, [], []⟩ w q m:=by
 have x:D.length=nd:=by simpa using b.1
 have f:=bS (kind:=3) (p:=p) (k:=k) (cd:=cd) a b n;obtain ⟨r,j,t,s⟩:=hqq4 f a c i;have z:=a.lt;have F:(⟨T.toArray⟩:ByteArray).size=d:=(aX T).trans c;have E:w.cell? gx=some (.string ⟨T.toArray⟩):=(a.cell 0).trans rfl;clear b a f c i;have A:=o;unfold aU;go_enter func11,ntmps11;go_wp2;exact cU (A1:=none) (c1:=0) (A2:=none) (c2:=0) rfl (eE w 3 p k AD nd cd #[(2:Int),o0,(),()]) (kF (dX _ _ _ _ _ _ _ _)) (RdN.nil _ _ _ _) (aM _ _ _) ((j.out.alloc _).alloc _)
def aDz (gx:Nat) (AD:Option Addr) (nd cd e:Nat) (p k:Int) (most:Int) (T D:List UInt8) (b:Nat) (d:T.length=b) (w:World) (a:Bk w gx 38 #[.string ⟨T.toArray⟩,(most:Int)])
 (c:Rd w e 1 AD nd (D.map bv)) (n:e<=w.heap.size) (i:0 < nd->∀g,AD=some g->g.block≠gx) (z:b<=549755813888) (x:nd<=549755813888) (E:-9223372036854775808<=(p:Int)/\(p:Int)<=9223372036854775807) (o:-9223372036854775808<=(k:Int)/\(k:Int)<=9223372036854775807) (C:0<=most/\most<=2147483648)
 (u:¬(p < 0)) (v:p > (b:Int)):
 Calls prog 11 #[gx,aU 3 p k AD nd cd] w fun m q=>bZ gx most (T) ⟨2,0, [], []⟩ w q m:=by
 have y:D.length=nd:=by simpa using c.1
 have f:=bS (kind:=3) (p:=p) (k:=k) (cd:=cd) a c n;obtain ⟨r,j,t,s⟩:=hqq4 f a d i;have A:=a.lt;have G:(⟨T.toArray⟩:ByteArray).size=b:=(aX T).trans d;have F:w.cell? gx=some (.string ⟨T.toArray⟩):=(a.cell 0).trans rfl;clear c a f d i;have B:=o;unfold aU;go_enter func11,ntmps11;go_wp2;exact cU (A1:=none) (c1:=0) (A2:=none) (c2:=0) rfl (eE w 3 p k AD nd cd #[(2:Int),o0,(),()]) (kF (dX _ _ _ _ _ _ _ _)) (RdN.nil _ _ _ _) (aM _ _ _) ((j.out.alloc _).alloc _)
def aBL (gx:Nat) (AD:Option Addr) (nd cd e:Nat) (p k:Int) (most:Int) (T D:List UInt8) (b:Nat) (d:T.length=b) (w:World) (a:Bk w gx 38 #[.string ⟨T.toArray⟩,(most:Int)])
 (c:Rd w e 1 AD nd (D.map bv)) (n:e<=w.heap.size) (i:0 < nd->∀g,AD=some g->g.block≠gx) (A:b<=549755813888) (y:nd<=549755813888) (F:-9223372036854775808<=(p:Int)/\(p:Int)<=9223372036854775807) (o:-9223372036854775808<=(k:Int)/\(k:Int)<=9223372036854775807) (E:0<=most/\most<=2147483648)
 (u:¬(p < 0)) (v:¬(p > (b:Int))) (x:(nd:Int) > (b:Int) - p):
 Calls prog 11 #[gx,aU 3 p k AD nd cd] w fun m q=>bZ gx most (T) ⟨2,0, [], []⟩ w q m:=by
 have z:D.length=nd:=by simpa using c.1
 have f:=bS (kind:=3) (p:=p) (k:=k) (cd:=cd) a c n;obtain ⟨r,j,t,s⟩:=hqq4 f a d i;have B:=a.lt;have H:(⟨T.toArray⟩:ByteArray).size=b:=(aX T).trans d;have G:w.cell? gx=some (.string ⟨T.toArray⟩):=(a.cell 0).trans rfl;clear c a f d i;have C:=o;unfold aU;go_enter func11,ntmps11;go_wp2;exact cU (A1:=none) (c1:=0) (A2:=none) (c2:=0) rfl (eE w 3 p k AD nd cd #[(2:Int),o0,(),()]) (kF (dX _ _ _ _ _ _ _ _)) (RdN.nil _ _ _ _) (aM _ _ _) ((j.out.alloc _).alloc _)
def aKy (gx:Nat) (AD:Option Addr) (nd cd e:Nat) (p k:Int) (most:Int) (T D:List UInt8) (b:Nat) (d:T.length=b) (w:World) (a:Bk w gx 38 #[.string ⟨T.toArray⟩,(most:Int)])
 (c:Rd w e 1 AD nd (D.map bv)) (n:e<=w.heap.size) (i:0 < nd->∀g,AD=some g->g.block≠gx) (v:b<=549755813888) (t:nd<=549755813888) (A:-9223372036854775808<=(p:Int)/\(p:Int)<=9223372036854775807) (y:-9223372036854775808<=(k:Int)/\(k:Int)<=9223372036854775807) (z:0<=most/\most<=2147483648)
  :
 Calls prog 11 #[gx,aU 4 p k AD nd cd] w fun m o=>bZ gx most (T) ⟨0,(b:Int), [], []⟩ w o m:=by
 have u:D.length=nd:=by simpa using c.1
 have f:=bS (kind:=4) (p:=p) (k:=k) (cd:=cd) a c n;obtain ⟨q,j,s,r⟩:=hqq4 f a d i;have x:=a.lt;have C:(⟨T.toArray⟩:ByteArray).size=b:=(aX T).trans d;have B:w.cell? gx=some (.string ⟨T.toArray⟩):=(a.cell 0).trans rfl;clear c a f d i;unfold aU;go_enter func11,ntmps11;go_wp2;exact cU (A1:=none) (c1:=0) (A2:=none) (c2:=0) rfl (eE w 4 p k AD nd cd #[o0,(b:Int),(),()]) (kF (dX _ _ _ _ _ _ _ _)) (RdN.nil _ _ _ _) (aM _ _ _) ((j.out.alloc _).alloc _)
def aFj (gx:Nat) (AD:Option Addr) (nd cd e:Nat) (p k:Int) (most:Int) (T D:List UInt8) (d:Nat) (c:T.length=d) (w:World) (a:Bk w gx 38 #[.string ⟨T.toArray⟩,(most:Int)])
 (b:Rd w e 1 AD nd (D.map bv)) (n:e<=w.heap.size) (i:0 < nd->∀g,AD=some g->g.block≠gx) (v:d<=549755813888) (t:nd<=549755813888) (A:-9223372036854775808<=(p:Int)/\(p:Int)<=9223372036854775807) (y:-9223372036854775808<=(k:Int)/\(k:Int)<=9223372036854775807) (z:0<=most/\most<=2147483648)
  :
 Calls prog 11 #[gx,aU 8 p k AD nd cd] w fun m o=>bZ gx most (T) ⟨0,0, [], []⟩ w o m:=by
 have u:D.length=nd:=by simpa using b.1
 have f:=bS (kind:=8) (p:=p) (k:=k) (cd:=cd) a b n;obtain ⟨q,j,s,r⟩:=hqq4 f a c i;have x:=a.lt;have C:(⟨T.toArray⟩:ByteArray).size=d:=(aX T).trans c;have B:w.cell? gx=some (.string ⟨T.toArray⟩):=(a.cell 0).trans rfl;clear b a f c i;unfold aU;go_enter func11,ntmps11;go_wp2;exact cU (A1:=none) (c1:=0) (A2:=none) (c2:=0) rfl (eE w 8 p k AD nd cd #[o0,o0,(),()]) (kF (dX _ _ _ _ _ _ _ _)) (RdN.nil _ _ _ _) (aM _ _ _) ((j.out.alloc _).alloc _)
def aBM (gx:Nat) (AD:Option Addr) (nd cd q:Nat) (p k:Int) (most:Int) (T D:List UInt8) (e:Nat) (o:T.length=e) (w:World) (f:Bk w gx 38 #[.string ⟨T.toArray⟩,(most:Int)])
 (n:Rd w q 1 AD nd (D.map bv)) (C:q<=w.heap.size) (x:0 < nd->∀r,AD=some r->r.block≠gx) (V:e<=549755813888) (S:nd<=549755813888) (a0:-9223372036854775808<=(p:Int)/\(p:Int)<=9223372036854775807) (Y:-9223372036854775808<=(k:Int)/\(k:Int)<=9223372036854775807) (Z:0<=most/\most<=2147483648)
 (Q:¬(p < 0)) (R:¬(p > (e:Int))) (X:most -(e:Int) < (nd:Int)):
 Calls prog 11 #[gx,aU 1 p k AD nd cd] w fun z F=>bZ gx most (T) ⟨3,0, [], []⟩ w F z:=by
 have U:D.length=nd:=by simpa using n.1
 have c:=bS (kind:=1) (p:=p) (k:=k) (cd:=cd) f n C;obtain ⟨j,y,H,G⟩:=hqq4 c f o x;have E:=f.lt;have a6:(⟨T.toArray⟩:ByteArray).size=e:=(aX T).trans o;have a5:w.cell? gx=some (.string ⟨T.toArray⟩):=(f.cell 0).trans rfl;clear n f c o x;unfold aU;go_enter func11,ntmps11;go_wp2;obtain ⟨W,u⟩:=eqx ((w.alloc (.cells #[(1:Int),(p:Int),(k:Int),.slice AD nd cd] 44)).alloc (.cells #[o0,o0,(),()] 41));rw [u] at j⊢;have c:=j.out;clear u j;refine wp_region_any kR ?_;refine aO [27,28,29,30,31,32,33,34,35,36] Grow (Vs [is (.pointer (some ⟨w.heap.size,3,none⟩)),is (.slice AD nd cd),is (nd:Int),is gx,is gx,is (.pointer (some ⟨gx,1,none⟩)),is (.int .i64 most),is (e:Int),is (.int .i64 (most -(e:Int))),is (.bool true)]) _ _ rfl kR bR (fun _ _=>Grow.trans) (eM tA2) ?_ ?_
 · refine aK ?_;refine pH 3 (.pointer (some w.heap.size)) ?_;refine pL 0 27 (fun g a=>have a:Grow W g:=gD a;(((c.step.below a c.step.lt).cell 3).trans rfl:g.cell? ⟨w.heap.size,3,none⟩=some (.slice AD nd cd))) ?_;refine pV 1 28 ?_;refine pH 0 (.pointer (some gx)) ?_;refine pV 3 30 ?_;refine pV 4 31 ?_;refine pL 5 32 (fun g a=>have a:Grow W g:=gD a;(((c.mod.below a c.mod.lt).cell 1).trans rfl:g.cell? ⟨gx,1,none⟩=some (.int .i64 most))) ?_;refine pH 5 (.int .i64 (e:Int)) ?_;refine sC (fun _ _ _ _ _ _ d _ _ _ m=>?_) ?_
   · have J:_=_:=d 6 33 kR rfl;have K:_=_:=d 7 34 kR rfl;go_simp;exact m _ _ bR (cO (by rw [wI0];omega))
   refine sC (fun _ _ _ _ _ _ d _ _ _ m=>?_) ?_
   · have I:_=_:=d 2 29 kR rfl;have L:_=_:=d 8 35 kR rfl;go_simp;exact m _ _ bR (gE (by simp <;> omega))
   exact aC
 · intro B i a d;replace a:Grow W i:=gD a;have A:B (.tmp 36)=.bool true:=d 9 36 rfl;simp only [zqq];rw [A];clear d;have t:=c.grow a;have b:=t.res;have a1:i.cell? ⟨w.heap.size+1,0,none⟩=some (.int .i64 0):=(b.cell 0).trans rfl;have M:=b.frozen 0;have a2:i.cell? ⟨w.heap.size+1,1,none⟩=some (.int .i64 0):=(b.cell 1).trans rfl;have N:=b.frozen 1;have a3:i.cell? ⟨w.heap.size+1,2,none⟩=some (.slice none 0 0):=(b.cell 2).trans rfl;have O:=b.frozen 2;have a4:i.cell? ⟨w.heap.size+1,3,none⟩=some (.slice none 0 0):=(b.cell 3).trans rfl;have P:=b.frozen 3;go_wp2;have v:=jJ (v0:=.int .i64 3) (v1:=.int .i64 0) (v2:=.slice none 0 0) (v3:=.slice none 0 0) (Nat.le_succ w.heap.size) t.low;exact cU (s:=w.heap.size+1) (A1:=none) (c1:=0) (A2:=none) (c2:=0) rfl (dW b) (kF v) (RdN.nil _ _ _ _) (aM _ _ _) (y.out.below v E)
def aFl (gx:Nat) (AD:Option Addr) (nd cd z:Nat) (p:Nat) (k:Int) (most:Int) (T D:List UInt8) (m:Nat) (y:T.length=m) (w:World) (n:Bk w gx 38 #[.string ⟨T.toArray⟩,(most:Int)])
 (x:Rd w z 1 AD nd (D.map bv)) (N:z<=w.heap.size) (H:0 < nd->∀A,AD=some A->A.block≠gx) (ao:m<=549755813888) (am:nd<=549755813888) (aw:-9223372036854775808<=(p:Int)/\(p:Int)<=9223372036854775807) (au:-9223372036854775808<=(k:Int)/\(k:Int)<=9223372036854775807) (av:0<=most/\most<=2147483648)
 (al:p<=m) (ap:(nd:Int)<=most -(m:Int)):
 Calls prog 11 #[gx,aU 1 p k AD nd cd] w fun L S=>bZ gx most (T.take p++(D++T.drop (p+0))) ⟨0,0, [], []⟩ w S L:=by
 have an:D.length=nd:=by simpa using x.1
 have c:=bS (kind:=1) (p:=p) (k:=k) (cd:=cd) n x N;obtain ⟨u,U,q,K⟩:=hqq4 c n y H;have aq:=n.lt;have aH:(⟨T.toArray⟩:ByteArray).size=m:=(aX T).trans y;have aG:w.cell? gx=some (.string ⟨T.toArray⟩):=(n.cell 0).trans rfl;clear x n c y H;obtain ⟨t,v⟩:=eqx ((T.take p++D)++T.drop p);have C:T.take p++(D++T.drop (p+0))=t:=by rw [zBq,<-zCo];exact v
 rw [C];have J:=lhd v;clear v C;have V:=fun w=>aJn T w p (by have:=q.out;omega);have X:=fun w=>aJm T w p (by have:=q.out;omega);have b1:=fun w=>aAX T w p (by have:=q.out;omega);have b2:=fun w=>aAW T w p (by have:=q.out;omega);have a1:¬((p:Int) < 0):=oM;have a2:¬((p:Int) > (m:Int)):=oM;unfold aU;go_enter func11,ntmps11;go_wp2;obtain ⟨W,E⟩:=eqx ((w.alloc (.cells #[(1:Int),(p:Int),(k:Int),.slice AD nd cd] 44)).alloc (.cells #[o0,o0,(),()] 41));rw [E] at u⊢;have c:=u.out;clear E u;refine wp_region_any kR ?_;refine aO [27,28,29,30,31,32,33,34,35,36] Grow (Vs [is (.pointer (some ⟨w.heap.size,3,none⟩)),is (.slice AD nd cd),is (nd:Int),is gx,is gx,is (.pointer (some ⟨gx,1,none⟩)),is (.int .i64 most),is (m:Int),is (.int .i64 (most -(m:Int))),is (.bool false)]) _ _ rfl kR bR (fun _ _=>Grow.trans) (eM tA2) ?_ ?_
 · refine aK ?_;refine pH 3 (.pointer (some w.heap.size)) ?_;refine pL 0 27 (fun d a=>have a:Grow W d:=gD a;(((c.step.below a c.step.lt).cell 3).trans rfl:d.cell? ⟨w.heap.size,3,none⟩=some (.slice AD nd cd))) ?_;refine pV 1 28 ?_;refine pH 0 (.pointer (some gx)) ?_;refine pV 3 30 ?_;refine pV 4 31 ?_;refine pL 5 32 (fun d a=>have a:Grow W d:=gD a;(((c.mod.below a c.mod.lt).cell 1).trans rfl:d.cell? ⟨gx,1,none⟩=some (.int .i64 most))) ?_;refine pH 5 (.int .i64 (m:Int)) ?_;refine sC (fun _ _ _ _ _ _ b _ _ _ f=>?_) ?_
   · have a4:_=_:=b 6 33 kR rfl;have a5:_=_:=b 7 34 kR rfl;go_simp;exact f _ _ bR (cO (by rw [wI0];omega))
   refine sC (fun _ _ _ _ _ _ b _ _ _ f=>?_) ?_
   · have a3:_=_:=b 2 29 kR rfl;have a6:_=_:=b 8 35 kR rfl;go_simp;exact f _ _ bR (gE (by simp <;> omega))
   exact aC
 · intro B i a b;replace a:Grow W i:=gD a;have M:B (.tmp 36)=.bool false:=b 9 36 rfl;simp only [zqq];rw [M];clear b;have I:=c.grow a;clear c a;revert I;generalize i=W2;intro c;go_wp2;refine wp_region_any kR ?_;refine aY [38,39,40,41,42,43,44,45,46,47,48,49,50,51,52,53,54,55,56,57,58,59] (fun g=>g=gx) 22 [4,15,22] (fun w1=>Bk w1 gx 38 #[.string ⟨T.toArray⟩,(most:Int)]) (fun _ w1=>Bk w1 gx 38 #[.string ⟨t.toArray⟩,(most:Int)]) [is gx,is gx,is gx,is gx,is (.string ⟨T.toArray⟩),is (.pointer (some ⟨w.heap.size,1,none⟩)),is (p:Int),is (.string ⟨(T.take p).toArray⟩),is (.pointer (some ⟨w.heap.size,3,none⟩)),is (.slice AD nd cd),is (.string ⟨D.toArray⟩),is (.string ⟨(T.take p++D).toArray⟩),is gx,is gx,is gx,is (.string ⟨T.toArray⟩),is (.pointer (some ⟨w.heap.size,1,none⟩)),is (p:Int),is (.string ⟨(T.drop p).toArray⟩),is (.string ⟨t.toArray⟩),is gx,is gx,cJ] _ _ rfl kR kR (c.mod) (fun w1 aF e _ n=>kg e n e.lt) (fun _ _ _ e k=>kg e k e.lt) tA0 ?_ ?_
   · refine aK ?_;refine pH3 0 (.pointer (some gx)) ?_;refine pH3 0 (.pointer (some gx)) ?_;refine pV3 1 39 ?_;refine pV3 2 40 ?_;refine sC3 (fun _ d _ r _ _ _ b _ _ _ f=>?_) ?_
     · have o:=r rfl;have a7:_=_:=b 3 41 kR rfl;have Z:d.cell? gx=some (.string ⟨T.toArray⟩):=(o.cell 0).trans rfl;go_simp;exact kq f rfl
     refine pH3 3 (.pointer (some w.heap.size)) ?_;refine pL3 5 43 (fun d a=>have a:Keep (fun g=>g=gx) W2 d:=kD a;(((a.bk c.step (fun e=>absurd (show w.heap.size=gx from e) (by have:=c.gxl;omega))).cell 1).trans rfl:d.cell? ⟨w.heap.size,1,none⟩=some (.int .i64 (p:Int)))) ?_;refine pW3 4 42 6 44 ?_;refine pH3 3 (.pointer (some w.heap.size)) ?_;refine pL3 8 46 (fun d a=>have a:Keep (fun g=>g=gx) W2 d:=kD a;(((a.bk c.step (fun e=>absurd (show w.heap.size=gx from e) (by have:=c.gxl;omega))).cell 3).trans rfl:d.cell? ⟨w.heap.size,3,none⟩=some (.slice AD nd cd))) ?_;refine sC3 (fun _ d a _ _ _ _ b _ _ _ f=>?_) ?_
     · replace a:Keep (fun g=>g=gx) W2 d:=kD a;have a9:_=_:=b 9 47 kR rfl;have aB:=gM (Rd.keepF c.rD a c.low.size K.out);go_simp;exact kq f rfl
     refine sC3 (fun _ _ _ _ _ _ _ b _ _ _ f=>?_) ?_
     · have a8:_=_:=b 7 45 kR rfl;have aa:_=_:=b 10 48 kR rfl;go_simp;rw [zBw (by have:=q.out;simp;omega)];exact f _ _ (aE bR) (jG _ _)
     refine pH3 0 (.pointer (some gx)) ?_;refine pV3 12 50 ?_;refine pV3 13 51 ?_;refine sC3 (fun _ d _ r _ _ _ b _ _ _ f=>?_) ?_
     · have o:=r rfl;have ac:_=_:=b 14 52 kR rfl;have a0:d.cell? gx=some (.string ⟨T.toArray⟩):=(o.cell 0).trans rfl;go_simp;exact kq f rfl
     refine pH3 3 (.pointer (some w.heap.size)) ?_;refine pL3 16 54 (fun d a=>have a:Keep (fun g=>g=gx) W2 d:=kD a;(((a.bk c.step (fun e=>absurd (show w.heap.size=gx from e) (by have:=c.gxl;omega))).cell 1).trans rfl:d.cell? ⟨w.heap.size,1,none⟩=some (.int .i64 (p:Int)))) ?_;refine pW3 15 53 17 55 ?_;refine sC3 (fun _ _ _ _ _ _ _ b _ _ _ f=>?_) ?_
     · have ab:_=_:=b 11 49 kR rfl;have ad:_=_:=b 18 56 kR rfl;go_simp;rw [zBw (by have:=q.out;simp;omega)];exact f _ _ (aE bR) ((jG _ _).trans (by rw [J.out]))
     refine pV3 0 38 ?_;refine pV3 20 58 ?_;refine sC3 (fun _ d _ r _ _ _ b _ _ _ f=>?_) ?_
     · have o:=r rfl;have af:_=_:=b 21 59 kR rfl;have ae:_=_:=b 19 57 kR rfl;have aj:=o.frozen 0;have Y:d.cell? gx=some (.string ⟨T.toArray⟩):=(o.cell 0).trans rfl;go_simp;exact f (.bool true) _ (aT (ka (F:=fun g=>g=gx) (kf _ _) (p:=gx) (.inl rfl) _)) (o.set 0 _)
     exact aC
   · intro B i a b G;replace a:Keep (fun g=>g=gx) W2 i:=kD a;obtain ⟨aD,Q⟩:∃R,(fun _ w1=>Bk w1 gx 38 #[.string ⟨t.toArray⟩,(most:Int)]) R i:=G 22 dC;simp only [zqq];clear b G;have ar:=c.gxl;have j:=a.bk c.res (fun e=>absurd (show w.heap.size+1=gx from e) oM);have ax:i.cell? ⟨w.heap.size+1,0,none⟩=some (.int .i64 0):=(j.cell 0).trans rfl;have ag:=j.frozen 0;have ay:i.cell? ⟨w.heap.size+1,1,none⟩=some (.int .i64 0):=(j.cell 1).trans rfl;have ah:=j.frozen 1;have az:i.cell? ⟨w.heap.size+1,2,none⟩=some (.slice none 0 0):=(j.cell 2).trans rfl;have ai:=j.frozen 2;have aA:i.cell? ⟨w.heap.size+1,3,none⟩=some (.slice none 0 0):=(j.cell 3).trans rfl;have ak:=j.frozen 3;go_wp2;have O:=lY (v0:=.int .i64 0) (v1:=.int .i64 0) (v2:=.slice none 0 0) (v3:=.slice none 0 0) (Nat.le_succ w.heap.size) ((kF c.low).trans a);have P:=iO (W:=i) (s:=w.heap.size+1) (v0:=.int .i64 0) (v1:=.int .i64 0) (v2:=.slice none 0 0) (v3:=.slice none 0 0);exact cU (s:=w.heap.size+1) (A1:=none) (c1:=0) (A2:=none) (c2:=0) rfl (dW j) O (RdN.nil _ _ _ _) (aM _ _ _) (P.bk Q (fun e=>absurd (show gx=w.heap.size+1 from e) (by have:=c.gxl;omega)))
def aFm (gx:Nat) (AD:Option Addr) (nd cd A:Nat) (p k:Nat) (most:Int) (T D:List UInt8) (o:Nat) (z:T.length=o) (w:World) (j:Bk w gx 38 #[.string ⟨T.toArray⟩,(most:Int)])
 (y:Rd w A 1 AD nd (D.map bv)) (K:A<=w.heap.size) (H:0 < nd->∀B,AD=some B->B.block≠gx) (al:o<=549755813888) (aj:nd<=549755813888) (aq:-9223372036854775808<=(p:Int)/\(p:Int)<=9223372036854775807) (ao:-9223372036854775808<=(k:Int)/\(k:Int)<=9223372036854775807) (ap:0<=most/\most<=2147483648)
 (ai:p+k<=o):
 Calls prog 11 #[gx,aU 2 p k AD nd cd] w fun J Q=>bZ gx most (T.take p++([]++T.drop (p+k))) ⟨0,0, [], []⟩ w Q J:=by
 have ak:D.length=nd:=by simpa using y.1
 have b:=bS (kind:=2) (p:=p) (k:=k) (cd:=cd) j y K;obtain ⟨v,S,q,R⟩:=hqq4 b j z H;have am:=j.lt;have aA:(⟨T.toArray⟩:ByteArray).size=o:=(aX T).trans z;have az:w.cell? gx=some (.string ⟨T.toArray⟩):=(j.cell 0).trans rfl;clear y j b z H;obtain ⟨t,M⟩:=eqx (p+k);obtain ⟨u,x⟩:=eqx ((T.take p++ [])++T.drop t);have C:T.take p++([]++T.drop (p+k))=u:=by rw [M,<-zCo];exact x
 rw [C];have I:=lhd x;clear x C;have U:=fun w=>aJn T w p (by have:=q.out;omega);have V:=fun w=>aJm T w t (by have:=q.out;omega);have b1:=fun w=>aAX T w p (by have:=q.out;omega);have b2:=fun w=>aAW T w t (by have:=q.out;omega);have a0:¬((p:Int) < 0):=oM;have a1:¬((p:Int) > (o:Int)):=oM;have a2:¬((k:Int) > (o:Int) -(p:Int)):=oM;have a3:¬((k:Int) < 0):=oM;unfold aU;go_enter func11,ntmps11;go_wp2;obtain ⟨W,E⟩:=eqx ((w.alloc (.cells #[(2:Int),(p:Int),(k:Int),.slice AD nd cd] 44)).alloc (.cells #[o0,o0,(),()] 41));rw [E] at v⊢;have b:=v.out;clear E v;refine wp_region_any kR ?_;refine aY [104,105,106,107,108,109,110,111,112,113,114,115,116,117,118,119,120,121,122,123,124] (fun f=>f=gx) 21 [4,11,21] (fun w1=>Bk w1 gx 38 #[.string ⟨T.toArray⟩,(most:Int)]) (fun _ w1=>Bk w1 gx 38 #[.string ⟨u.toArray⟩,(most:Int)]) [is gx,is gx,is gx,is gx,is (.string ⟨T.toArray⟩),is (.pointer (some ⟨w.heap.size,1,none⟩)),is (p:Int),is (.string ⟨(T.take p).toArray⟩),is gx,is gx,is gx,is (.string ⟨T.toArray⟩),is (.pointer (some ⟨w.heap.size,1,none⟩)),is (p:Int),is (.pointer (some ⟨w.heap.size,2,none⟩)),is (k:Int),is (t:Int),is (.string ⟨(T.drop t).toArray⟩),is (.string ⟨u.toArray⟩),is gx,is gx,cJ] _ _ rfl kR kR (b.mod) (fun w1 ay c _ j=>kg c j c.lt) (fun _ _ _ c k=>kg c k c.lt) tA0 ?_ ?_
 · refine aK ?_;refine pH3 0 (.pointer (some gx)) ?_;refine pH3 0 (.pointer (some gx)) ?_;refine pV3 1 105 ?_;refine pV3 2 106 ?_;refine sC3 (fun _ e _ r _ _ _ d _ _ _ g=>?_) ?_
   · have m:=r rfl;have a4:_=_:=d 3 107 kR rfl;have X:e.cell? gx=some (.string ⟨T.toArray⟩):=(m.cell 0).trans rfl;go_simp;exact kq g rfl
   refine pH3 3 (.pointer (some w.heap.size)) ?_;refine pL3 5 109 (fun e a=>have a:Keep (fun f=>f=gx) W e:=kD a;(((a.bk b.step (fun c=>absurd (show w.heap.size=gx from c) (by have:=b.gxl;omega))).cell 1).trans rfl:e.cell? ⟨w.heap.size,1,none⟩=some (.int .i64 (p:Int)))) ?_;refine pW3 4 108 6 110 ?_;refine pH3 0 (.pointer (some gx)) ?_;refine pV3 8 112 ?_;refine pV3 9 113 ?_;refine sC3 (fun _ e _ r _ _ _ d _ _ _ g=>?_) ?_
   · have m:=r rfl;have a6:_=_:=d 10 114 kR rfl;have Y:e.cell? gx=some (.string ⟨T.toArray⟩):=(m.cell 0).trans rfl;go_simp;exact kq g rfl
   refine pH3 3 (.pointer (some w.heap.size)) ?_;refine pL3 12 116 (fun e a=>have a:Keep (fun f=>f=gx) W e:=kD a;(((a.bk b.step (fun c=>absurd (show w.heap.size=gx from c) (by have:=b.gxl;omega))).cell 1).trans rfl:e.cell? ⟨w.heap.size,1,none⟩=some (.int .i64 (p:Int)))) ?_;refine pH3 3 (.pointer (some w.heap.size)) ?_;refine pL3 14 118 (fun e a=>have a:Keep (fun f=>f=gx) W e:=kD a;(((a.bk b.step (fun c=>absurd (show w.heap.size=gx from c) (by have:=b.gxl;omega))).cell 2).trans rfl:e.cell? ⟨w.heap.size,2,none⟩=some (.int .i64 (k:Int)))) ?_;refine sC3 (fun _ _ _ _ _ _ _ d _ _ _ g=>?_) ?_
   · have a7:_=_:=d 13 117 kR rfl;have a8:_=_:=d 15 119 kR rfl;go_simp;exact g _ _ (aE bR) (cO (by rw [wI0];omega))
   refine pW3 11 115 16 120 ?_;refine sC3 (fun _ _ _ _ _ _ _ d _ _ _ g=>?_) ?_
   · have a5:_=_:=d 7 111 kR rfl;have a9:_=_:=d 17 121 kR rfl;go_simp;rw [zBw (by have:=q.out;simp;omega)];exact g _ _ (aE bR) ((jG _ _).trans (by rw [<-I.out,List.append_nil]))
   refine pV3 0 104 ?_;refine pV3 19 123 ?_;refine sC3 (fun _ e _ r _ _ _ d _ _ _ g=>?_) ?_
   · have m:=r rfl;have ab:_=_:=d 20 124 kR rfl;have aa:_=_:=d 18 122 kR rfl;have ag:=m.frozen 0;have Z:e.cell? gx=some (.string ⟨T.toArray⟩):=(m.cell 0).trans rfl;go_simp;exact g (.bool true) _ (aT (ka (F:=fun f=>f=gx) (kf _ _) (p:=gx) (.inl rfl) _)) (m.set 0 _)
   exact aC
 · intro ac n a d G;replace a:Keep (fun f=>f=gx) W n:=kD a;obtain ⟨ax,O⟩:∃P,(fun _ w1=>Bk w1 gx 38 #[.string ⟨u.toArray⟩,(most:Int)]) P n:=G 21 dC;simp only [zqq];clear d G;have an:=b.gxl;have i:=a.bk b.res (fun c=>absurd (show w.heap.size+1=gx from c) oM);have ar:n.cell? ⟨w.heap.size+1,0,none⟩=some (.int .i64 0):=(i.cell 0).trans rfl;have ad:=i.frozen 0;have au:n.cell? ⟨w.heap.size+1,1,none⟩=some (.int .i64 0):=(i.cell 1).trans rfl;have ae:=i.frozen 1;have av:n.cell? ⟨w.heap.size+1,2,none⟩=some (.slice none 0 0):=(i.cell 2).trans rfl;have af:=i.frozen 2;have aw:n.cell? ⟨w.heap.size+1,3,none⟩=some (.slice none 0 0):=(i.cell 3).trans rfl;have ah:=i.frozen 3;go_wp2;have L:=lY (v0:=.int .i64 0) (v1:=.int .i64 0) (v2:=.slice none 0 0) (v3:=.slice none 0 0) (Nat.le_succ w.heap.size) ((kF b.low).trans a);have N:=iO (W:=n) (s:=w.heap.size+1) (v0:=.int .i64 0) (v1:=.int .i64 0) (v2:=.slice none 0 0) (v3:=.slice none 0 0);exact cU (s:=w.heap.size+1) (A1:=none) (c1:=0) (A2:=none) (c2:=0) rfl (dW i) L (RdN.nil _ _ _ _) (aM _ _ _) (N.bk O (fun c=>absurd (show gx=w.heap.size+1 from c) (by have:=b.gxl;omega)))
def aFi (gx:Nat) (AD:Option Addr) (nd cd A:Nat) (p:Nat) (k:Int) (most:Int) (T D:List UInt8) (q:Nat) (z:T.length=q) (w:World) (j:Bk w gx 38 #[.string ⟨T.toArray⟩,(most:Int)])
 (y:Rd w A 1 AD nd (D.map bv)) (L:A<=w.heap.size) (H:0 < nd->∀B,AD=some B->B.block≠gx) (ao:q<=549755813888) (am:nd<=549755813888) (av:-9223372036854775808<=(p:Int)/\(p:Int)<=9223372036854775807) (ar:-9223372036854775808<=(k:Int)/\(k:Int)<=9223372036854775807) (au:0<=most/\most<=2147483648)
 (al:p+nd<=q):
 Calls prog 11 #[gx,aU 3 p k AD nd cd] w fun K R=>bZ gx most (T.take p++(D++T.drop (p+nd))) ⟨0,0, [], []⟩ w R K:=by
 have an:D.length=nd:=by simpa using y.1
 have b:=bS (kind:=3) (p:=p) (k:=k) (cd:=cd) j y L;obtain ⟨v,S,o,J⟩:=hqq4 b j z H;have ap:=j.lt;have aG:(⟨T.toArray⟩:ByteArray).size=q:=(aX T).trans z;have aF:w.cell? gx=some (.string ⟨T.toArray⟩):=(j.cell 0).trans rfl;clear y j b z H;obtain ⟨t,N⟩:=eqx (p+nd);obtain ⟨u,x⟩:=eqx ((T.take p++D)++T.drop t);have C:T.take p++(D++T.drop (p+nd))=u:=by rw [N,<-zCo];exact x
 rw [C];have I:=lhd x;clear x C;have U:=fun w=>aJn T w p (by have:=o.out;omega);have V:=fun w=>aJm T w t (by have:=o.out;omega);have b1:=fun w=>aAX T w p (by have:=o.out;omega);have b2:=fun w=>aAW T w t (by have:=o.out;omega);have a0:¬((p:Int) < 0):=oM;have a1:¬((p:Int) > (q:Int)):=oM;have a2:¬((nd:Int) > (q:Int) -(p:Int)):=oM;have a3:¬((nd:Int) < 0):=oM;unfold aU;go_enter func11,ntmps11;go_wp2;obtain ⟨W,E⟩:=eqx ((w.alloc (.cells #[(3:Int),(p:Int),(k:Int),.slice AD nd cd] 44)).alloc (.cells #[o0,o0,(),()] 41));rw [E] at v⊢;have b:=v.out;clear E v;refine wp_region_any kR ?_;refine aY [147,148,149,150,151,152,153,154,155,156,157,158,159,160,161,162,163,164,165,166,167,168,169,170,171,172] (fun f=>f=gx) 26 [4,15,26] (fun w1=>Bk w1 gx 38 #[.string ⟨T.toArray⟩,(most:Int)]) (fun _ w1=>Bk w1 gx 38 #[.string ⟨u.toArray⟩,(most:Int)]) [is gx,is gx,is gx,is gx,is (.string ⟨T.toArray⟩),is (.pointer (some ⟨w.heap.size,1,none⟩)),is (p:Int),is (.string ⟨(T.take p).toArray⟩),is (.pointer (some ⟨w.heap.size,3,none⟩)),is (.slice AD nd cd),is (.string ⟨D.toArray⟩),is (.string ⟨(T.take p++D).toArray⟩),is gx,is gx,is gx,is (.string ⟨T.toArray⟩),is (.pointer (some ⟨w.heap.size,1,none⟩)),is (p:Int),is (.pointer (some ⟨w.heap.size,3,none⟩)),is (.slice AD nd cd),is (nd:Int),is (t:Int),is (.string ⟨(T.drop t).toArray⟩),is (.string ⟨u.toArray⟩),is gx,is gx,cJ] _ _ rfl kR kR (b.mod) (fun w1 aD e _ j=>kg e j e.lt) (fun _ _ _ e k=>kg e k e.lt) tA0 ?_ ?_
 · refine aK ?_;refine pH3 0 (.pointer (some gx)) ?_;refine pH3 0 (.pointer (some gx)) ?_;refine pV3 1 148 ?_;refine pV3 2 149 ?_;refine sC3 (fun _ d _ r _ _ _ c _ _ _ g=>?_) ?_
   · have m:=r rfl;have a4:_=_:=c 3 150 kR rfl;have X:d.cell? gx=some (.string ⟨T.toArray⟩):=(m.cell 0).trans rfl;go_simp;exact kq g rfl
   refine pH3 3 (.pointer (some w.heap.size)) ?_;refine pL3 5 152 (fun d a=>have a:Keep (fun f=>f=gx) W d:=kD a;(((a.bk b.step (fun e=>absurd (show w.heap.size=gx from e) (by have:=b.gxl;omega))).cell 1).trans rfl:d.cell? ⟨w.heap.size,1,none⟩=some (.int .i64 (p:Int)))) ?_;refine pW3 4 151 6 153 ?_;refine pH3 3 (.pointer (some w.heap.size)) ?_;refine pL3 8 155 (fun d a=>have a:Keep (fun f=>f=gx) W d:=kD a;(((a.bk b.step (fun e=>absurd (show w.heap.size=gx from e) (by have:=b.gxl;omega))).cell 3).trans rfl:d.cell? ⟨w.heap.size,3,none⟩=some (.slice AD nd cd))) ?_;refine sC3 (fun _ d a _ _ _ _ c _ _ _ g=>?_) ?_
   · replace a:Keep (fun f=>f=gx) W d:=kD a;have a6:_=_:=c 9 156 kR rfl;have aA:=gM (Rd.keepF b.rD a b.low.size J.out);go_simp;exact kq g rfl
   refine sC3 (fun _ _ _ _ _ _ _ c _ _ _ g=>?_) ?_
   · have a5:_=_:=c 7 154 kR rfl;have a7:_=_:=c 10 157 kR rfl;go_simp;rw [zBw (by have:=o.out;simp;omega)];exact g _ _ (aE bR) (jG _ _)
   refine pH3 0 (.pointer (some gx)) ?_;refine pV3 12 159 ?_;refine pV3 13 160 ?_;refine sC3 (fun _ d _ r _ _ _ c _ _ _ g=>?_) ?_
   · have m:=r rfl;have a9:_=_:=c 14 161 kR rfl;have Y:d.cell? gx=some (.string ⟨T.toArray⟩):=(m.cell 0).trans rfl;go_simp;exact kq g rfl
   refine pH3 3 (.pointer (some w.heap.size)) ?_;refine pL3 16 163 (fun d a=>have a:Keep (fun f=>f=gx) W d:=kD a;(((a.bk b.step (fun e=>absurd (show w.heap.size=gx from e) (by have:=b.gxl;omega))).cell 1).trans rfl:d.cell? ⟨w.heap.size,1,none⟩=some (.int .i64 (p:Int)))) ?_;refine pH3 3 (.pointer (some w.heap.size)) ?_;refine pL3 18 165 (fun d a=>have a:Keep (fun f=>f=gx) W d:=kD a;(((a.bk b.step (fun e=>absurd (show w.heap.size=gx from e) (by have:=b.gxl;omega))).cell 3).trans rfl:d.cell? ⟨w.heap.size,3,none⟩=some (.slice AD nd cd))) ?_;refine pV3 19 166 ?_;refine sC3 (fun _ _ _ _ _ _ _ c _ _ _ g=>?_) ?_
   · have aa:_=_:=c 17 164 kR rfl;have ab:_=_:=c 20 167 kR rfl;go_simp;exact g _ _ (aE bR) (cO (by rw [wI0];omega))
   refine pW3 15 162 21 168 ?_;refine sC3 (fun _ _ _ _ _ _ _ c _ _ _ g=>?_) ?_
   · have a8:_=_:=c 11 158 kR rfl;have ac:_=_:=c 22 169 kR rfl;go_simp;rw [zBw (by have:=o.out;simp;omega)];exact g _ _ (aE bR) ((jG _ _).trans (by rw [I.out]))
   refine pV3 0 147 ?_;refine pV3 24 171 ?_;refine sC3 (fun _ d _ r _ _ _ c _ _ _ g=>?_) ?_
   · have m:=r rfl;have ae:_=_:=c 25 172 kR rfl;have ad:_=_:=c 23 170 kR rfl;have aj:=m.frozen 0;have Z:d.cell? gx=some (.string ⟨T.toArray⟩):=(m.cell 0).trans rfl;go_simp;exact g (.bool true) _ (aT (ka (F:=fun f=>f=gx) (kf _ _) (p:=gx) (.inl rfl) _)) (m.set 0 _)
   exact aC
 · intro af n a c G;replace a:Keep (fun f=>f=gx) W n:=kD a;obtain ⟨aB,P⟩:∃Q,(fun _ w1=>Bk w1 gx 38 #[.string ⟨u.toArray⟩,(most:Int)]) Q n:=G 26 dC;simp only [zqq];clear c G;have aq:=b.gxl;have i:=a.bk b.res (fun e=>absurd (show w.heap.size+1=gx from e) oM);have aw:n.cell? ⟨w.heap.size+1,0,none⟩=some (.int .i64 0):=(i.cell 0).trans rfl;have ag:=i.frozen 0;have ax:n.cell? ⟨w.heap.size+1,1,none⟩=some (.int .i64 0):=(i.cell 1).trans rfl;have ah:=i.frozen 1;have ay:n.cell? ⟨w.heap.size+1,2,none⟩=some (.slice none 0 0):=(i.cell 2).trans rfl;have ai:=i.frozen 2;have az:n.cell? ⟨w.heap.size+1,3,none⟩=some (.slice none 0 0):=(i.cell 3).trans rfl;have ak:=i.frozen 3;go_wp2;have M:=lY (v0:=.int .i64 0) (v1:=.int .i64 0) (v2:=.slice none 0 0) (v3:=.slice none 0 0) (Nat.le_succ w.heap.size) ((kF b.low).trans a);have O:=iO (W:=n) (s:=w.heap.size+1) (v0:=.int .i64 0) (v1:=.int .i64 0) (v2:=.slice none 0 0) (v3:=.slice none 0 0);exact cU (s:=w.heap.size+1) (A1:=none) (c1:=0) (A2:=none) (c2:=0) rfl (dW i) M (RdN.nil _ _ _ _) (aM _ _ _) (O.bk P (fun e=>absurd (show gx=w.heap.size+1 from e) (by have:=b.gxl;omega)))
def aDx (gx:Nat) (AD:Option Addr) (nd cd B:Nat) (p k:Nat) (most:Int) (T D:List UInt8) (o:Nat) (z:T.length=o) (w:World) (m:Bk w gx 38 #[.string ⟨T.toArray⟩,(most:Int)])
 (y:Rd w B 1 AD nd (D.map bv)) (O:B<=w.heap.size) (J:0 < nd->∀E,AD=some E->E.block≠gx) (ap:o<=549755813888) (an:nd<=549755813888) (au:-9223372036854775808<=(p:Int)/\(p:Int)<=9223372036854775807) (aq:-9223372036854775808<=(k:Int)/\(k:Int)<=9223372036854775807) (ar:0<=most/\most<=2147483648)
 (am:p+k<=o):
 Calls prog 11 #[gx,aU 5 p k AD nd cd] w fun M a2=>bZ gx most (T) ⟨0,0,(T.drop p).take k, []⟩ w a2 M:=by
 have ao:D.length=nd:=by simpa using y.1
 have f:=bS (kind:=5) (p:=p) (k:=k) (cd:=cd) m y O;obtain ⟨v,L,C,a4⟩:=hqq4 f m z J;have S:=m.lt;have aF:(⟨T.toArray⟩:ByteArray).size=o:=(aX T).trans z;have aD:w.cell? gx=some (.string ⟨T.toArray⟩):=(m.cell 0).trans rfl;clear y m f z J;obtain ⟨u,av⟩:=eqx (p+k);obtain ⟨e,x⟩:=eqx ((T.drop p).take k);have G:(T.drop p).take (u - p)=e:=by rw [show u - p=k by omega];exact x
 rw [x];have K:=lhd G;clear x G;have a5:=fun w=>xM T w p u oM (by have:=C.out;omega);have b1:=fun w=>nW T w p u oM (by have:=C.out;omega);have a6:¬((p:Int) < 0):=oM;have a7:¬((p:Int) > (o:Int)):=oM;have a8:¬((k:Int) > (o:Int) -(p:Int)):=oM;have a9:¬((k:Int) < 0):=oM;unfold aU;go_enter func11,ntmps11;go_wp2;obtain ⟨W,F⟩:=eqx ((w.alloc (.cells #[(5:Int),(p:Int),(k:Int),.slice AD nd cd] 44)).alloc (.cells #[o0,o0,(),()] 41));rw [F] at v⊢;have f:=v.out;clear F v;refine wp_region_any kR ?_;refine aY [90,91,92,93,94,95,96,97,98,99,100,101,102,103] (fun c=>c=w.heap.size+1) 14 [14] (fun w1=>Bk w1 (w.heap.size+1) 41 #[o0,o0,(),()]) (aJp (w.heap.size+1) (w.heap.size+2) e) [is gx,is gx,is gx,is (.string ⟨T.toArray⟩),is (.pointer (some ⟨w.heap.size,1,none⟩)),is (p:Int),is (.pointer (some ⟨w.heap.size,1,none⟩)),is (p:Int),is (.pointer (some ⟨w.heap.size,2,none⟩)),is (k:Int),is (u:Int),is (.string ⟨e.toArray⟩),aIJ (w.heap.size+2) 1 e.length (e.map bv),aLt (w.heap.size+2) e,cJ] _ _ rfl kR kR (f.res) (fun w1 aB g _ m=>kg g m g.lt) (aG2 _ _ _) (by repeat' (first | exact gA _ _ | exact eQ _ | exact aCo (fun c n=>by subst n;omega) _ _ _ | exact aGg (fun c n=>by subst n;omega) _ |(refine zAe.2 ⟨?_,?_⟩)|(intro p V;cases V))) ?_ ?_
 · refine aK ?_;refine pH3 0 (.pointer (some gx)) ?_;refine pV3 0 90 ?_;refine pV3 1 91 ?_;refine pL3 2 92 (fun b a=>have a:Keep (fun c=>c=w.heap.size+1) W b:=kD a;(((a.bk f.mod (fun g=>absurd (show gx=w.heap.size+1 from g) (by have:=f.gxl;omega))).cell 0).trans rfl:b.cell? gx=some (.string ⟨T.toArray⟩))) ?_;refine pH3 3 (.pointer (some w.heap.size)) ?_;refine pL3 4 94 (fun b a=>have a:Keep (fun c=>c=w.heap.size+1) W b:=kD a;(((a.bk f.step (fun g=>absurd (show w.heap.size=w.heap.size+1 from g) oM)).cell 1).trans rfl:b.cell? ⟨w.heap.size,1,none⟩=some (.int .i64 (p:Int)))) ?_;refine pH3 3 (.pointer (some w.heap.size)) ?_;refine pL3 6 96 (fun b a=>have a:Keep (fun c=>c=w.heap.size+1) W b:=kD a;(((a.bk f.step (fun g=>absurd (show w.heap.size=w.heap.size+1 from g) oM)).cell 1).trans rfl:b.cell? ⟨w.heap.size,1,none⟩=some (.int .i64 (p:Int)))) ?_;refine pH3 3 (.pointer (some w.heap.size)) ?_;refine pL3 8 98 (fun b a=>have a:Keep (fun c=>c=w.heap.size+1) W b:=kD a;(((a.bk f.step (fun g=>absurd (show w.heap.size=w.heap.size+1 from g) oM)).cell 2).trans rfl:b.cell? ⟨w.heap.size,2,none⟩=some (.int .i64 (k:Int)))) ?_;refine sC3 (fun _ _ _ _ _ _ _ d _ _ _ i=>?_) ?_
   · have ag:_=_:=d 7 97 kR rfl;have ah:_=_:=d 9 99 kR rfl;go_simp;exact i _ _ (aE bR) (cO (by rw [wI0];omega))
   refine sC3 (fun _ _ _ _ _ _ _ d _ _ _ i=>?_) ?_
   · have ae:_=_:=d 3 93 kR rfl;have af:_=_:=d 5 95 kR rfl;have aa:_=_:=d 10 100 kR rfl;go_simp;exact i _ _ (aE bR) (congrArg (fun a3:List UInt8=>Value.string ⟨a3.toArray⟩) K.out)
   refine sC3 (fun _ b a _ _ _ _ d _ _ _ i=>?_) ?_
   · replace a:Keep (fun c=>c=w.heap.size+1) W b:=kD a;have ab:_=_:=d 11 101 kR rfl;have X:=run_bytes_of_string (P:=prog) b 9 22 5 ⟨e.toArray⟩ underlying9 underlying22 underlying5;rw [aX e] at X;go_simp;exact i _ _ (aE (bR.drew.alloc nL _)) ⟨_,_,rfl,(aIp b e _ _ _ _ _ rfl rfl (.inl rfl)).mono (by have:=a.size;have:=f.res.lt;omega)⟩
   refine sC3 (fun s b _ _ _ _ _ d _ _ _ i=>?_) ?_
   · have Y:(aIJ (w.heap.size+2) 1 e.length (e.map bv)) (s (.tmp 102)) b:=d 12 102 kR rfl;obtain ⟨q,r,ac,t⟩:=Y;go_simp;exact i _ _ (aE bR) ⟨q,r,rfl,t⟩
   refine sC3 (fun s b _ Q _ _ U d _ _ _ i=>?_) ?_
   · have j:=Q rfl;have ad:s (.tmp 4)=.pointer (some ⟨w.heap.size+1,0,none⟩):=U 4 kR;have Z:(aLt (w.heap.size+2) e) (s (.tmp 103)) b:=d 13 103 kR rfl;obtain ⟨q,r,N,t⟩:=Z;unfold gX at N;have aw:b.cell? ⟨w.heap.size+1,0,none⟩=some (.int .i64 0):=(j.cell 0).trans rfl;have ai:=j.frozen 0;have ax:b.cell? ⟨w.heap.size+1,1,none⟩=some (.int .i64 0):=(j.cell 1).trans rfl;have aj:=j.frozen 1;have ay:b.cell? ⟨w.heap.size+1,2,none⟩=some (.slice none 0 0):=(j.cell 2).trans rfl;have ak:=j.frozen 2;have az:b.cell? ⟨w.heap.size+1,3,none⟩=some (.slice none 0 0):=(j.cell 3).trans rfl;have al:=j.frozen 3;go_simp;exact i (.bool true) _ (aT iO) ⟨q,r,dW j,t.keepF iO (fun c n=>by subst n;omega)⟩
   exact aC
 · intro s A a d H;replace a:Keep (fun c=>c=w.heap.size+1) W A:=kD a;obtain ⟨aA,a0⟩:∃a1,(aJp (w.heap.size+1) (w.heap.size+2) e) a1 A:=H 14 dC;simp only [zqq];clear d H;obtain ⟨q,r,R,t⟩:=a0;go_wp2;have I:Below w.heap.size w A:=f.low.trans (a.to_below f.low.size (fun c n g=>absurd (show c=w.heap.size+1 from g) oM));exact cU (A1:=q) (c1:=r) (A2:=none) (c2:=0) rfl R (kF I) (t.mono oM) (aM _ _ _) (L.out.below I S)
def aHq (gx AD nd cd A p k most T D q) (x:T.length=q) (w) (m:Bk w gx 38 #[.string ⟨T.toArray⟩,(most:Int)]) (v:Rd w A 1 AD nd (D.map bv)) (O:A<=w.heap.size) (I:0 < nd->∀B,AD=some B->B.block≠gx) (ad:q<=549755813888) (ac:nd<=549755813888) (ag:-9223372036854775808<=(p:Int)/\(p:Int)<=9223372036854775807) (ae:-9223372036854775808<=(k:Int)/\(k:Int)<=9223372036854775807) (af:0<=most/\most<=2147483648)
  :
 Calls prog 11 #[gx,aU 6 p k AD nd cd] w fun E a0=>bZ gx most (T) ⟨0,((dT T D).length:Int), [], []⟩ w a0 E:=by
 have P:D.length=nd:=by simpa using v.1
 have e:=bS (kind:=6) (p:=p) (k:=k) (cd:=cd) m v O;obtain ⟨r,M,N,a1⟩:=hqq4 e m x I;have S:=m.lt;have aq:(⟨T.toArray⟩:ByteArray).size=q:=(aX T).trans x;have ap:w.cell? gx=some (.string ⟨T.toArray⟩):=(m.cell 0).trans rfl;clear v m e x I;obtain ⟨n,s⟩:=eqx (dT T D);obtain ⟨i,t⟩:=eqx n.length;rw [s,t];obtain ⟨K,L⟩:=hqq2 s t;clear s t;unfold aU;go_enter func11,ntmps11;go_wp2;obtain ⟨W,F⟩:=eqx ((w.alloc (.cells #[(6:Int),(p:Int),(k:Int),.slice AD nd cd] 44)).alloc (.cells #[o0,o0,(),()] 41));rw [F] at r⊢;have e:=r.out;clear F r;refine wp_region_any kR ?_;refine aY [179,180,181,182,183,184,185,186,187,188] (fun c=>c=w.heap.size+1) 10 [10] (fun w1=>Bk w1 (w.heap.size+1) 41 #[o0,o0,(),()]) (fun _ w1=>Bk w1 (w.heap.size+1) 41 #[o0,(i:Int),(),()]) [is gx,is gx,is gx,is (.string ⟨T.toArray⟩),is (.pointer (some ⟨w.heap.size,3,none⟩)),is (.slice AD nd cd),is (.string ⟨D.toArray⟩),aIJ (w.heap.size+2) 1 i (n.map nv),is (i:Int),is (.agg #[o0,(i:Int),(),()]),cJ] _ _ rfl kR kR (e.res) (fun w1 an d _ m=>kg d m d.lt) (fun _ _ _ d k=>kg d k d.lt) (by repeat' (first | exact gA _ _ | exact eQ _ | exact aCo (fun c u=>by subst u;omega) _ _ _ |(refine zAe.2 ⟨?_,?_⟩)|(intro p V;cases V))) ?_ ?_
 · refine aK ?_;refine pH3 0 (.pointer (some gx)) ?_;refine pV3 0 179 ?_;refine pV3 1 180 ?_;refine pL3 2 181 (fun b a=>have a:Keep (fun c=>c=w.heap.size+1) W b:=kD a;(((a.bk e.mod (fun d=>absurd (show gx=w.heap.size+1 from d) (by have:=e.gxl;omega))).cell 0).trans rfl:b.cell? gx=some (.string ⟨T.toArray⟩))) ?_;refine pH3 3 (.pointer (some w.heap.size)) ?_;refine pL3 4 183 (fun b a=>have a:Keep (fun c=>c=w.heap.size+1) W b:=kD a;(((a.bk e.step (fun d=>absurd (show w.heap.size=w.heap.size+1 from d) oM)).cell 3).trans rfl:b.cell? ⟨w.heap.size,3,none⟩=some (.slice AD nd cd))) ?_;refine sC3 (fun _ b a _ _ _ _ f _ _ _ j=>?_) ?_
   · replace a:Keep (fun c=>c=w.heap.size+1) W b:=kD a;have a3:_=_:=f 5 184 kR rfl;have al:=gM (a.rd e.rD e.low.size (fun c u d=>absurd (show c=w.heap.size+1 from d) oM));go_simp;exact kq j rfl
   refine sC3 (fun _ b a _ _ _ _ f _ _ _ j=>?_) ?_
   · replace a:Keep (fun c=>c=w.heap.size+1) W b:=kD a;have a2:_=_:=f 3 182 kR rfl;have a4:_=_:=f 6 185 kR rfl;go_simp;refine (zC T D q nd n i b N.out P K.out L.out oM oM).mono ?_;rintro E ao ⟨z,C,rfl,J,R⟩;exact j _ _ (aE R) ⟨z,C,rfl,(RdN.of_made J (.inr rfl)).mono (by have:=a.size;have:=e.res.lt;omega)⟩
   refine sC3 (fun o b _ _ _ _ _ f _ _ _ j=>?_) ?_
   · have X:(aIJ (w.heap.size+2) 1 i (n.map nv)) (o (.tmp 186)) b:=f 7 186 kR rfl;obtain ⟨z,C,a5,J⟩:=X;go_simp;exact kq j rfl
   refine pV3 8 187 ?_;refine sC3 (fun o b _ Q _ _ U f _ _ _ j=>?_) ?_
   · have g:=Q rfl;have a7:o (.tmp 4)=.pointer (some ⟨w.heap.size+1,0,none⟩):=U 4 kR;have a6:_=_:=f 9 188 kR rfl;have ah:b.cell? ⟨w.heap.size+1,0,none⟩=some (.int .i64 0):=(g.cell 0).trans rfl;have a8:=g.frozen 0;have ai:b.cell? ⟨w.heap.size+1,1,none⟩=some (.int .i64 0):=(g.cell 1).trans rfl;have a9:=g.frozen 1;have aj:b.cell? ⟨w.heap.size+1,2,none⟩=some (.slice none 0 0):=(g.cell 2).trans rfl;have aa:=g.frozen 2;have ak:b.cell? ⟨w.heap.size+1,3,none⟩=some (.slice none 0 0):=(g.cell 3).trans rfl;have ab:=g.frozen 3;go_simp;exact j (.bool true) _ (aT iO) (dW g)
   exact aC
 · intro o y a f G;replace a:Keep (fun c=>c=w.heap.size+1) W y:=kD a;obtain ⟨am,Y⟩:∃Z,(fun _ w1=>Bk w1 (w.heap.size+1) 41 #[o0,(i:Int),(),()]) Z y:=G 10 dC;simp only [zqq];clear f G;go_wp2;have H:Below w.heap.size w y:=e.low.trans (a.to_below e.low.size (fun c u d=>absurd (show c=w.heap.size+1 from d) oM));exact cU (A1:=none) (c1:=0) (A2:=none) (c2:=0) rfl Y (kF H) (RdN.nil _ _ _ _) (aM _ _ _) (M.out.below H S)
def aFk (gx AD nd cd E p k most T D u) (C:T.length=u) (w) (r:Bk w gx 38 #[.string ⟨T.toArray⟩,(most:Int)]) (B:Rd w E 1 AD nd (D.map bv)) (Q:E<=w.heap.size) (L:0 < nd->∀G,AD=some G->G.block≠gx) (ac:u<=549755813888) (ab:nd<=549755813888) (af:-9223372036854775808<=(p:Int)/\(p:Int)<=9223372036854775807) (ad:-9223372036854775808<=(k:Int)/\(k:Int)<=9223372036854775807) (ae:0<=most/\most<=2147483648)
  :
 Calls prog 11 #[gx,aU 7 p k AD nd cd] w fun H a1=>bZ gx most (T) ⟨0,((dT T D).length:Int), [],dT T D⟩ w a1 H:=by
 have R:D.length=nd:=by simpa using B.1
 have c:=bS (kind:=7) (p:=p) (k:=k) (cd:=cd) r B Q;obtain ⟨v,N,O,a2⟩:=hqq4 c r C L;have V:=r.lt;have ap:(⟨T.toArray⟩:ByteArray).size=u:=(aX T).trans C;have ao:w.cell? gx=some (.string ⟨T.toArray⟩):=(r.cell 0).trans rfl;clear B r c C L;obtain ⟨j,z⟩:=eqx (dT T D);obtain ⟨i,A⟩:=eqx j.length;rw [z,A];obtain ⟨M,F⟩:=hqq2 z A;clear z A;unfold aU;go_enter func11,ntmps11;go_wp2;obtain ⟨W,I⟩:=eqx ((w.alloc (.cells #[(7:Int),(p:Int),(k:Int),.slice AD nd cd] 44)).alloc (.cells #[o0,o0,(),()] 41));rw [I] at v⊢;have c:=v.out;clear I v;refine wp_region_any kR ?_;refine aY [191,192,193,194,195,196,197,198,6] (fun _=>False) 8 [] (fun _=>True) (iC (w.heap.size+2) 3 1 i (j.map nv)) [is gx,is gx,is gx,is (.string ⟨T.toArray⟩),is (.pointer (some ⟨w.heap.size,3,none⟩)),is (.slice AD nd cd),is (.string ⟨D.toArray⟩),iC (w.heap.size+2) 3 1 i (j.map nv),cJ] _ _ rfl kR kR (trivial) (fun _ _ _ _ _=>trivial) (aAD _ _ _ _ _) (by repeat' (first | exact gA _ _ | exact eQ _ | exact kA (fun x q=>q.elim) _ _ _ _ |(refine zAe.2 ⟨?_,?_⟩)|(intro p X;cases X))) ?_ ?_
 · refine aK ?_;refine pH3 0 (.pointer (some gx)) ?_;refine pV3 0 191 ?_;refine pV3 1 192 ?_;refine pL3 2 193 (fun b a=>have a:Keep (fun _=>False) W b:=kD a;(((a.bk c.mod (fun d=>d)).cell 0).trans rfl:b.cell? gx=some (.string ⟨T.toArray⟩))) ?_;refine pH3 3 (.pointer (some w.heap.size)) ?_;refine pL3 4 195 (fun b a=>have a:Keep (fun _=>False) W b:=kD a;(((a.bk c.step (fun d=>d)).cell 3).trans rfl:b.cell? ⟨w.heap.size,3,none⟩=some (.slice AD nd cd))) ?_;refine sC3 (fun _ b a _ _ _ _ f _ _ _ o=>?_) ?_
   · replace a:Keep (fun _=>False) W b:=kD a;have a4:_=_:=f 5 196 kR rfl;have al:=gM (a.rd c.rD c.low.size (fun x q d=>d));go_simp;exact kq o rfl
   refine sC3 (fun _ b a _ _ _ _ f _ _ _ o=>?_) ?_
   · replace a:Keep (fun _=>False) W b:=kD a;have a3:_=_:=f 3 194 kR rfl;have a5:_=_:=f 6 197 kR rfl;go_simp;refine (zC T D u nd j i b O.out R M.out F.out oM oM).mono ?_;rintro H an ⟨m,n,rfl,t,S⟩;exact o _ _ (aE S) ⟨m,n,rfl,t.mono (by have:=a.size;have:=c.res.lt;omega)⟩
   refine sC3 (fun y b _ _ _ _ _ f _ _ _ o=>?_) ?_
   · have Y:(iC (w.heap.size+2) 3 1 i (j.map nv)) (y (.tmp 198)) b:=f 7 198 kR rfl;obtain ⟨m,n,a6,t⟩:=Y;go_simp;exact o _ _ (aE bR) ⟨m,n,rfl,t⟩
   exact aC
 · intro y g a f J;replace a:Keep (fun _=>False) W g:=kD a;have Z:(iC (w.heap.size+2) 3 1 i (j.map nv)) (y (.tmp 6)) g:=f 8 6 rfl;obtain ⟨am,ag⟩:∃a0,(iC (w.heap.size+2) 3 1 i (j.map nv)) a0 g:=J 8 dC;simp only [zqq];clear f J;obtain ⟨m,n,P,t⟩:=Z;rw [P];have U:Below w.heap.size w g:=c.low.trans (a.to_below c.low.size (fun x q d=>d));have e:Bk g (w.heap.size+1) 41 #[o0,o0,(),()]:=a.bk c.res (fun d=>d);have ah:g.cell? ⟨w.heap.size+1,0,none⟩=some (.int .i64 0):=(e.cell 0).trans rfl;have a7:=e.frozen 0;have ai:g.cell? ⟨w.heap.size+1,1,none⟩=some (.int .i64 0):=(e.cell 1).trans rfl;have a8:=e.frozen 1;have aj:g.cell? ⟨w.heap.size+1,2,none⟩=some (.slice none 0 0):=(e.cell 2).trans rfl;have a9:=e.frozen 2;have ak:g.cell? ⟨w.heap.size+1,3,none⟩=some (.slice none 0 0):=(e.cell 3).trans rfl;have aa:=e.frozen 3;go_wp2;have K:=jJ (v0:=.int .i64 0) (v1:=.int .i64 (i:Int)) (v2:=.slice none 0 0) (v3:=.slice m i n) (Nat.le_succ w.heap.size) U;rw [<-F.out] at*
   exact cU (s:=w.heap.size+1) (A1:=none) (c1:=0) (A2:=m) (c2:=n) rfl (dW e) (kF K) (RdN.nil _ _ _ _) ((t.keepF iO (fun x q=>by subst q;omega)).mono oM) (N.out.below K V)
def aHp (gx:Nat) (AD:Option Addr) (nd cd e:Nat) (kind p k:Int) (most:Int) (T D:List UInt8) (d:Nat) (c:T.length=d) (w:World) (a:Bk w gx 38 #[.string ⟨T.toArray⟩,(most:Int)])
 (b:Rd w e 1 AD nd (D.map bv)) (n:e<=w.heap.size) (i:0 < nd->∀g,AD=some g->g.block≠gx) (x:d<=549755813888) (u:nd<=549755813888) (B:-9223372036854775808<=(p:Int)/\(p:Int)<=9223372036854775807) (z:-9223372036854775808<=(k:Int)/\(k:Int)<=9223372036854775807) (A:0<=most/\most<=2147483648)
 (o:kind < 1∨8 < kind):
 Calls prog 11 #[gx,aU kind p k AD nd cd] w fun m q=>bZ gx most (T) ⟨1,0, [], []⟩ w q m:=by
 have v:D.length=nd:=by simpa using b.1
 have f:=bS (kind:=kind) (p:=p) (k:=k) (cd:=cd) a b n;obtain ⟨r,j,t,s⟩:=hqq4 f a c i;have y:=a.lt;have M:(⟨T.toArray⟩:ByteArray).size=d:=(aX T).trans c;have L:w.cell? gx=some (.string ⟨T.toArray⟩):=(a.cell 0).trans rfl;clear b a f c i;have C:(kind==1)=false:=by rw [zCb];omega
 have E:(kind==2)=false:=by rw [zCb];omega
 have F:(kind==3)=false:=by rw [zCb];omega
 have G:(kind==4)=false:=by rw [zCb];omega
 have H:(kind==5)=false:=by rw [zCb];omega
 have I:(kind==6)=false:=by rw [zCb];omega
 have J:(kind==7)=false:=by rw [zCb];omega
 have K:(kind==8)=false:=by rw [zCb];omega
 clear o;unfold aU;go_enter func11,ntmps11;go_wp2;exact cU (A1:=none) (c1:=0) (A2:=none) (c2:=0) rfl (eE w kind p k AD nd cd #[(1:Int),o0,(),()]) (kF (dX _ _ _ _ _ _ _ _)) (RdN.nil _ _ _ _) (aM _ _ _) ((j.out.alloc _).alloc _)
def wK {a p k} (b:dL a p k=false):p < 0∨(0<=p/\k < 0)∨(0<=p/\0<=k/\(a:Int) < p)∨(0<=p/\0<=k/\p<=(a:Int)/\(a:Int) - p < k):=by
 unfold dL at b;have:=of_decide_eq_false b;omega
def aF0 (gx AD nd cd c kind p k most T D B N) (a:doM T most kind p k D=(B,N)) (w) (m:Bk w gx 38 #[.string ⟨T.toArray⟩,(most:Int)]) (d:Rd w c 1 AD nd (D.map bv)) (f:c<=w.heap.size) (j:0 < nd->∀t,AD=some t->t.block≠gx) (Q:T.length<=549755813888) (g:nd<=549755813888) (q:-9223372036854775808<=p/\p<=9223372036854775807) (n:-9223372036854775808<=k/\k<=9223372036854775807) (o:0<=most/\most<=2147483648):
 Calls prog 11 #[gx,aU kind p k AD nd cd] w fun O P=>bZ gx most B N w P O:=by
 have z:D.length=nd:=by simpa using d.1
 obtain ⟨b,e⟩:=eqx T.length;have i:b<=549755813888:=oM;unfold doM at a;rw [e] at a;by_cases F:kind=1
 · subst F;rw [zBx rfl] at a;cases s:dL b p 0 with
   | false=>
     rw [zBx s] at a;cases a;rcases wK s with r |⟨_,r⟩|⟨r,_,u⟩|⟨_,_,r,u⟩;exact aDA gx AD nd cd c p k most T D b e w m d f j i g q n o r;exact absurd r oM;exact aDB gx AD nd cd c p k most T D b e w m d f j i g q n o oM oM;omega
   | true=>
     rw [zBw (by rw [s];decide)] at a;by_cases A:most -(b:Int) < (D.length:Int);rw [zBx A] at a;cases a;obtain ⟨t,v,rfl,E,x⟩:=fS s;exact aBM gx AD nd cd c t k most T D b e w m d f j i g q n o oM oM (by rw [<-z];exact A);rw [zBw A] at a;cases a;obtain ⟨t,v,rfl,E,x⟩:=fS s;exact aFl gx AD nd cd c t k most T D b e w m d f j i g q n o oM (by rw [<-z];omega)
 rw [zBw F] at a;by_cases G:kind=2
 · subst G;rw [zBx rfl] at a;cases s:dL b p k with
   | false=>
     rw [zBx s] at a;cases a;rcases wK s with r |⟨r,u⟩|⟨r,u,y⟩|⟨r,u,y,C⟩;exact aDC gx AD nd cd c p k most T D b e w m d f j i g q n o r;exact aBN gx AD nd cd c p k most T D b e w m d f j i g q n o oM u;exact aDD gx AD nd cd c p k most T D b e w m d f j i g q n o oM oM oM;exact aBO gx AD nd cd c p k most T D b e w m d f j i g q n o oM oM oM oM
   | true=>
     rw [zBw (by rw [s];decide)] at a;cases a;obtain ⟨t,v,rfl,rfl,x⟩:=fS s;exact aFm gx AD nd cd c t v most T D b e w m d f j i g q n o x
 rw [zBw G] at a;by_cases J:kind=5
 · subst J;rw [zBx rfl] at a;cases s:dL b p k with
   | false=>
     rw [zBx s] at a;cases a;rcases wK s with r |⟨r,u⟩|⟨r,u,y⟩|⟨r,u,y,C⟩;exact aBJ gx AD nd cd c p k most T D b e w m d f j i g q n o r;exact zZ gx AD nd cd c p k most T D b e w m d f j i g q n o oM u;exact aBK gx AD nd cd c p k most T D b e w m d f j i g q n o oM oM oM;exact aAa gx AD nd cd c p k most T D b e w m d f j i g q n o oM oM oM oM
   | true=>
     rw [zBw (by rw [s];decide)] at a;cases a;obtain ⟨t,v,rfl,rfl,x⟩:=fS s;exact aDx gx AD nd cd c t v most T D b e w m d f j i g q n o x
 rw [zBw J] at a;by_cases H:kind=3
 · subst H;rw [zBx rfl,z] at a;cases s:dL b p nd with
   | false=>
     rw [zBx s] at a;cases a;rcases wK s with r |⟨r,u⟩|⟨r,u,y⟩|⟨r,u,y,C⟩;exact aDy gx AD nd cd c p k most T D b e w m d f j i g q n o r;omega;exact aDz gx AD nd cd c p k most T D b e w m d f j i g q n o oM oM;exact aBL gx AD nd cd c p k most T D b e w m d f j i g q n o oM oM oM
   | true=>
     rw [zBw (by rw [s];decide)] at a;cases a;obtain ⟨t,v,rfl,E,x⟩:=fS s;exact aFi gx AD nd cd c t k most T D b e w m d f j i g q n o oM
 rw [zBw H] at a;by_cases I:kind=4;subst I;rw [zBx rfl] at a;cases a;exact aKy gx AD nd cd c p k most T D b e w m d f j i g q n o;rw [zBw I] at a;by_cases K:kind=6;subst K;rw [zBx rfl] at a;cases a;exact aHq gx AD nd cd c p k most T D b e w m d f j i g q n o;rw [zBw K] at a;by_cases L:kind=7;subst L;rw [zBx rfl] at a;cases a;exact aFk gx AD nd cd c p k most T D b e w m d f j i g q n o;rw [zBw L] at a;by_cases M:kind=8;subst M;rw [zBx rfl] at a;cases a;exact aFj gx AD nd cd c p k most T D b e w m d f j i g q n o;rw [zBw M] at a;cases a;exact aHp gx AD nd cd c kind p k most T D b e w m d f j i g q n o oM
end Go.Proofs.YtecdldbdednahaaGreatDoor
