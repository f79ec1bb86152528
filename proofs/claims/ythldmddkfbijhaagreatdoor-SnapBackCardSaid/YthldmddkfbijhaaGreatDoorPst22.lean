/- Lemmas of the walk. Conditions: each its own. -/
import Derived.Test.YthldmddkfbijhaaGreatDoorPst17
import Derived.Test.YthldmddkfbijhaaGreatDoorPst18
import Derived.Test.YthldmddkfbijhaaGreatDoorPst19
import Derived.Test.YthldmddkfbijhaaGreatDoorProg
import Derived.Test.YthldmddkfbijhaaGreatDoorShl
import Derived.Test.YthldmddkfbijhaaGreatDoorShi
import Derived.Test.YthldmddkfbijhaaGreatDoorSht
set_option linter.all false
set_option maxRecDepth 100000
set_option maxHeartbeats 4000000
open Go.Proofs.Tryz
namespace Go.Proofs.YthldmddkfbijhaaGreatDoor
section
open Go.RowKit Go.Shelf
theorem sN (w:Nat->Prop) (f a7 a6 l:Nat) (ah:List (Nat×Nat)) (n:World) (O:PermE n w f a7 a6 ah) (W:l < ah.length):
 Calls prog 157 #[f,(l:Int)] n fun e a0=>e=.returned (.tuple #[])/\PermE a0 (Gw w n.heap.size) f a7 a6 (aG ah l)/\Keep w n a0:=by
 obtain ⟨⟨i,aW,aX,r,q,t,L,H,N,z,rfl⟩,aQ,aC⟩:=O;rw [zBc] at W;have D:=z.at_;have bV:=gQ z.nd D.lt;have bO:=z.sz;obtain ⟨b,P⟩:∃b,t[l]?=some b:=⟨_,zAa W⟩;have ab:=zAd P;have aR:=(z.tkk b).2 ab;obtain ⟨j,B,a1,_,bp⟩:=World.ownsRow.form D.orow oM;have a3:=D.orow;rw [a1] at a3;have bb:n.cell? ⟨f,0,none⟩=some (.pointer (some ⟨i,0,none⟩)):=(D.blk.cell 0).trans rfl;have U:n.cell? ⟨f,2,none⟩=some (.slice (some ⟨j,0,none⟩) t.length B):=(D.blk.cell 2).trans (by rw [a1];rfl);have am:n.cell? ⟨j,l,none⟩=some (.int .i64 (b:Int)):=(World.ownsRow.cellAt a3 l oM).trans (by rw [zAf,P];rfl);have bq:=D.blk.lt;have bP:N.length<=1000:=by have:=gQ z.frn fun d A=>(zAc.1 ((z.frk d).1 A)).1;have:=z.tkl;omega
 obtain ⟨x,ac⟩:=eqx t.length;have bX:x<=1000:=oM;rw [ac] at U W a3;have bU:(l:Int) < (x:Int):=oM;have bT:(0:Int)<=(l:Int):=oM;have bM:wrap64 ((l:Int)+1)=((l+1:Nat):Int):=by rw [dK oM oM];rfl
 obtain ⟨o,M,b3,a5,b7,b1,I,bD⟩:=hqq8 z ac P aR aQ aC a1 ab;clear z ac P aR aQ aC a1 a3 D ab;go_enter func157,ntmps157;go_wp2_with fail;refine wp_region_any kR ?_;refine bH [4,5,6,7,8,9,10,11,12,13,14,15,16] (AF i r q) 12 [12] (fun S=>PermX S w f i aW aX r q a7 a6 t L H N) (fun _ S=>ArenaE S (Gw (AF i r q) n.heap.size) i (H.set b false) (N++ [b])) [is f,is f,is f,is i,is f,is f,is (.pointer (some ⟨f,2,none⟩)),is (.slice (some ⟨j,0,none⟩) x B),is (l:Int),is (.pointer (some ⟨j,l,none⟩)),is (b:Int),rK (AF i r q) 3 #[(b:Int)] fun J=>.slice (some ⟨J,0,none⟩) 1 1,cX] _ _ rfl kR kR (o.out.drewN 1) (fun S y O _ bo=> { O with at_:=O.at_.below bo }) (fun _ _ _ O b=>O.keep (G:=fun _=>False) (Keep.of_below b) fun _ _ _ _ _ _ m=>m) tA3 ?_ ?_
 · refine aO ?_;refine pH3 0 (.pointer (some ⟨f,0,none⟩)) ?_;refine pV3 0 4 ?_;refine pV3 1 5 ?_;refine pL3 2 6 (fun u g=>have g:Keep (AF i r q) n u:=kD g;(((g.bk o.out.at_.blk o.out.gp_af).cell 0).trans rfl:u.cell? ⟨f,0,none⟩=some (.pointer (some ⟨i,0,none⟩)))) ?_;refine pH3 0 (.pointer (some ⟨f,0,none⟩)) ?_;refine pV3 4 8 ?_;refine pV3 5 9 ?_;refine pL3 6 10 (fun u g=>have g:Keep (AF i r q) n u:=kD g;((g.cell (p:=⟨f,2,none⟩) bq o.out.gp_af).trans U:u.cell? ⟨f,2,none⟩=some (.slice (some ⟨j,0,none⟩) x B))) ?_;refine pH3 1 (.int .i64 (l:Int)) ?_;refine pW3 7 11 8 12 ?_;refine pL3 9 13 (fun u g=>have g:Keep (AF i r q) n u:=kD g;((g.cell (p:=⟨j,l,none⟩) bp (o.out.ord_af (by rw [I.out];rfl))).trans am:u.cell? ⟨j,l,none⟩=some (.int .i64 (b:Int)))) ?_;refine sC3 (fun _ u g _ _ _ _ R _ _ _ a8=>?_) ?_
   · replace g:Keep (AF i r q) n u:=kD g;have bI:_=_:=R 10 14 kR rfl;go_simp;exact a8 _ _ (aJ (bR.alloc nL _)) ⟨_,rfl,Bk.new _ _ _,fun m=>by have ap:=o.out.af_lt m;have aq:=g.size;omega⟩
   refine sC3 (fun ao u g bi _ _ _ R _ _ _ a8=>?_) ?_
   · replace g:Keep (AF i r q) n u:=kD g;have bw:=bi rfl;have bK:_=_:=R 3 7 kR rfl;have bz:(rK (AF i r q) 3 #[(b:Int)] fun J=>.slice (some ⟨J,0,none⟩) 1 1) (ao (.tmp 15)) u:=R 11 15 kR rfl;obtain ⟨bc,bJ,bj,bW⟩:=bz;go_simp;refine (aDM (AF i r q) i bc b H N u bw.arena a5.out bj oM).mono ?_;rintro e bZ ⟨rfl,bh,br⟩
     exact a8 _ _ (aV br) (bh.mono fun a _ m=>by
        rcases m with m | m;exact .inl m
        · exact .inr (zAk g.size m))
   exact aD
 · intro ao ai g R az;replace g:Keep (AF i r q) n ai:=kD g;obtain ⟨bY,aU⟩:∃bA,(fun _ S=>ArenaE S (Gw (AF i r q) n.heap.size) i (H.set b false) (N++ [b])) bA ai:=az 12 dC;simp only [zqq];clear R az;obtain ⟨y,bx⟩:∃y,y=ai:=⟨_,rfl⟩;subst bx;have X:=g;have av:=aU;clear bb U am;have a2:=X.bk o.out.at_.blk o.out.gp_af;have aS:=aA (w':=y) o.out.at_.lrow fun a v _ c=>X.bk c (o.out.pair_af c);have a4:=aA (w':=y) o.out.at_.orow fun a v c P=>X.bk P (o.out.ord_af c);rw [M.out,I.out,M.out] at a4;have U:y.cell? ⟨f,2,none⟩=some (.slice (some ⟨j,0,none⟩) x B):=(a2.cell 2).trans (by rw [I.out,M.out];rfl);have bQ:=a2.lt;have aH:Keep w n y:=(Keep.refl w n).trans (X.mono fun a _ m=>o.out.af m);have aw:=ArenaE.mono av (G:=fun a=>Gw (AF i r q) n.heap.size a/\a < y.heap.size) fun a c m=>⟨m,c⟩;have aE:=aAg 0 (some ⟨j,0,none⟩) x B l t y a4 W oM;obtain ⟨ak,b8,ba,b4,aZ,aj⟩:=hqq6 a2 aS a4 aH aw aE;clear a2 aS a4 aH av aw aE X aU g;go_wp2_with fail;refine aj.out.mono ?_;rintro e T ⟨rfl,aN,Q⟩;rw [show (Value.slice (some ⟨j,0,none⟩) x B).ownBlock=some j from rfl] at Q;have ag:∀a C v,C≠3->Bk y a C v->¬(some j=some a):=fun a C v Y c e=>by obtain ⟨bF,bl⟩:=eT ba.out (show (Value.slice (some ⟨j,0,none⟩) x B).ownBlock=some a from e);exact Y (aM c bl).1
   have aa:¬(Gw (AF i r q) n.heap.size j/\j < y.heap.size):=fun m=>by have an:aX.ownBlock=some j:=(by rw [I.out];rfl);rcases m.1 with m | m;exact o.out.ord_af an m;have:=(o.out.at_.orow.lt j an).2;omega
   have V:=Q.bk ak.out (ag _ _ _ dC ak.out);have aT:=aA (w':=T) b8.out fun a v _ c=>Q.bk c (ag _ _ _ dC c);have ax:=aZ.out.keep Q fun a C v _ _ m e=>by injection e with e;subst e;exact aa m
   have bn:w j:=o.out.fo j (by rw [I.out];rfl);have aK:Keep w n T:=b4.out.trans (Q.mono fun a _ e=>by
    injection e with e;subst e;exact bn)
   have U:T.cell? ⟨f,2,none⟩=some (.slice (some ⟨j,0,none⟩) x B):=(V.cell 2).trans (by rw [I.out,M.out];rfl);have bL:=V.frozen 2;have bS:=V.lt;obtain ⟨al,b9,b0,b5,b6,b2⟩:=hqq6 V aT ax aK aN aa;clear V aT ax aK aN aa ag Q aj;go_wp2_with fail;go_end0;have ad:Keep (fun a=>a=f) T (T.setCell ⟨f,2,none⟩ (.slice (some ⟨j,0,none⟩) (x - 1) B)):=Keep.setCell (F:=fun a=>a=f) (Keep.refl _ _) (p:=⟨f,2,none⟩) (.inl rfl) _;have a9:∀a C v,C≠166->Bk T a C v->¬(a=f):=fun a C v Y c e=>by subst e;exact Y (aM c al.out).1
   obtain ⟨bN,bC,bG,bB,bE,ap,aq,bd,be,ar⟩:=b0.out.keep ad fun a C v Y c _=>a9 a C v (fun e=>by subst e;revert Y;decide) c;have s:=o.out;have aP:(b::aG t l).Perm t:=eJ b3.out;have bv:=aP.nodup_iff.2 s.nd;obtain ⟨bt,bu⟩:=List.nodup_cons.1 bv;have aL:∀d,d∈aG t l↔d∈t/\d≠b:=fun d=>by rw [<-aP.mem_iff,List.mem_cons];constructor;intro A;exact ⟨.inr A,fun e=>bt (by rw [<-e];exact A)⟩;rintro ⟨K | K,bf⟩;exact absurd K bf;exact K
   have bm:(aG t l).length=x - 1:=(by have:=cW t (k:=l) (by rw [M.out];exact W);have:=M.out;omega);have ay:∀a,Gw (AF i r q) n.heap.size a/\a < y.heap.size->Gw w n.heap.size a:=fun a m=>by rcases m.1 with J | J;exact .inl (s.af J);exact .inr J
   have bs:b < H.length:=(zAc.1 a5.out).1;have aF:∀d,(H.set b false)[d]?=if d=b then some false else H[d]?:=fun d=>by
    rw [zBm];by_cases E:b=d
    · subst E;simp [bs]
    · rw [zBw E,zBw (fun e=>E e.symm)]
   refine ⟨rfl,⟨⟨i,aW,.slice (some ⟨j,0,none⟩) (x - 1) B,_,_,aG t l,L,H.set b false,N++ [b],⟨⟨al.out.set 2 _,aA b9.out fun a v _ c=>ad.bk c (a9 _ _ _ dC c),?_,ap,aq,bd,.inr fun e=>b2.out (ar j e.symm),fun d A=>s.at_.lt d ((aL d).1 A).1,⟨zAp _,zAp _⟩⟩,.inl s.fp,.inl s.fa,fun a c=>.inl (s.fl a c),fun a c=>.inl (s.fo a (by rw [I.out];exact c)),fun a c=>ay a (be a c),fun a c=>ay a (ar a c),bu,by rw [zAt];exact s.tkl,fun d=>?_,?_,fun d=>?_,s.sz⟩,(rY _ _ _).symm⟩,?_,fun d A=>?_⟩,Keep.setCell (F:=w) b5.out (p:=⟨f,2,none⟩) (.inl s.fp) _⟩;rw [bm];exact aA b6.out fun a v _ c=>ad.bk c (a9 _ _ _ dC c)
   · rw [aF,aL d,<-s.tkk d];by_cases E:d=b
     · simp [E]
     · simp [E]
   · rw [List.nodup_append];refine ⟨s.frn,by simp,fun d A aY Z=>?_⟩;rw [List.mem_singleton] at Z;subst Z;intro e;subst e;have au:=(s.frk d).1 A;have bg:=a5.out;rw [bg] at au;cases au
   · rw [aF,zCp,s.frk d,List.mem_singleton];by_cases E:d=b
     · simp [E]
     · simp [E]
   unfold aG;rw [List.pairwise_append];have ae:=b7.out;refine ⟨ae.sublist (List.take_sublist _ _),ae.sublist (List.drop_sublist _ _),fun d z aY Z=>?_⟩;have:=List.pairwise_append.1 (show ((t.map fun b=>(aB L b,aI L b)).take l++(t.map fun b=>(aB L b,aI L b)).drop l).Pairwise (fun D a=>D.1 < a.1) by rw [zAu];exact ae);refine this.2.2 d z aY ?_;rw [<-List.drop_drop] at Z;exact List.mem_of_mem_drop Z;refine b1.out d ?_;unfold aG at A;rcases zCp.1 A with K | K;exact List.mem_of_mem_take K;exact List.mem_of_mem_drop K
theorem aFJ {a:List (Nat×Nat)} {b:Nat} (p:a.Pairwise (fun c d=>c.1 < d.1)) (o:b < a.length) (e:Nat×Nat):e∈aG a b↔e∈a/\e.1≠a[b].1:=by
 have i:(a[b]::aG a b).Perm a:=eJ (zAa o);have q:(a[b]::aG a b).Pairwise (fun c d:Nat×Nat=>c.1≠d.1):=i.symm.pairwise (p.imp fun {c d} g=>Nat.ne_of_lt g) fun {c d} g f=>g f.symm;obtain ⟨k,r⟩:=List.pairwise_cons.1 q;constructor;intro j;exact ⟨i.subset (by simp [j]),fun f=>k e j f.symm⟩;rintro ⟨l,m⟩;rcases List.mem_cons.1 (i.symm.subset l) with rfl | n;exact absurd rfl m;exact n
def yZ (b:Nat->Prop) (k g f row:Nat) (l:List (Nat×Nat)) (d:World) (j:Ending) (e:World):Prop:=
 ∃(i:Int) (c:List (Nat×Nat)),j=.returned (.int .i64 i)/\(∀a,a∈c↔a∈l/\a.1≠row)/\PermE e (Gw b d.heap.size) k g f c/\Keep b d e
theorem aB1 (x:Nat->Prop) (k p o row:Nat) (G:List (Nat×Nat)) (w:World) (C:PermE w x k p o G):
 Calls prog 155 #[k,(row:Int)] w (yZ x k p o row G w):=by
 have r:=C;obtain ⟨⟨P,V,W,X,U,f,c,T,O,b,rfl⟩,v,F⟩:=C;have B:=List.pairwise_map.1 v;have u:f.Pairwise (fun N z=>aB c N < aB c z):=B;have a0:=gQ b.nd b.at_.lt;have Z:=b.sz;have d:=kA 0 k P V W X U p o f c T O row w b.at_ u oM;unfold yZ;by_cases j:∃a∈f,aB c a=row
 · rw [zBz j] at d;obtain ⟨a,t,n⟩:=(tL u row).2 j;obtain ⟨e,m⟩:∃e,(f.countP fun a=>decide (aB c a < row))=e:=⟨_,rfl⟩;rw [m] at d t;have A:=(zAc.1 t).1;obtain ⟨J,K,M,y⟩:=hqq4 t n v r;clear b v F u B j r t n m;go_enter func155,ntmps155;go_wp2_with fail;refine d.mono ?_;rintro q w1 ⟨rfl,l⟩;have g:=lhd l;clear d l;go_wp2_with fail;have D:=y.out.below g.out;refine (sN x k p o e _ w1 D (by rw [zBc];exact A)).mono ?_;rintro q a1 ⟨rfl,E,n⟩;obtain ⟨H,L⟩:=hqq2 E n;clear D E n;go_wp2_with fail;go_ret;refine ⟨0,_,rfl,fun Y=>?_,H.out.mono fun z _ i=>?_,(Keep.of_below g.out).trans L.out⟩
   · have S:e < (f.map fun a=>(aB c a,aI c a)).length:=(by rw [zBc];exact A);rw [aFJ M.out S];have Q:((f.map fun a=>(aB c a,aI c a))[e]).1=row:=(by rw [List.getElem_map];have s:=J.out;rw [zAa A] at s;injection s with s;rw [s];exact K.out);rw [Q]
   rcases i with i | i;exact .inl i;exact .inr (by have:=g.out.size;omega)
 · rw [zBy j] at d;obtain ⟨e,m⟩:∃e,(f.countP fun a=>decide (aB c a < row))=e:=⟨_,rfl⟩;rw [m] at d;obtain ⟨I,y⟩:=hqq2 j r;clear b v F u B j r m;go_enter func155,ntmps155;go_wp2_with fail;refine d.mono ?_;rintro q w1 ⟨rfl,l⟩;have g:=lhd l;clear d l;go_wp2_with fail;go_ret;refine ⟨7,_,rfl,fun Y=>?_,(y.out.below g.out).mono fun z _ i=>.inl i,Keep.of_below g.out⟩;constructor;intro b;refine ⟨b,fun q=>?_⟩;obtain ⟨a,R,rfl⟩:=zAy.1 b;exact I.out ⟨a,R,q⟩;intro b;exact b.1
theorem aJD {b c a:Nat} (d:b < c) (e:b≠a) (f:c≠a):aW b a < aW c a:=by
 unfold aW;split <;> split <;> omega
theorem yT (i:Nat->Prop) (e s r c:Nat) (Q:List (Nat×Nat)) (a:World) (v:PermE a i e s r Q) (a4:∀d,i d->d < a.heap.size) (aN:c < s) (aF:s<=100000) (b0:r<=100000):
 Calls prog 93 #[e,(c:Int)] a fun o ak=>o=.returned (.int .i64 0)/\(∃R:List (Nat×Nat),(∀j,j∈R↔j∈Q/\j.1≠c)/\PermE ak (Gw i a.heap.size) e (s - 1) r (R.map fun j=>(aW j.1 c,j.2)))/\Keep i a ak:=by
 obtain ⟨g,rfl⟩:∃g,s=g+1:=⟨s - 1,by omega⟩;rw [zBb];have aK:e < a.heap.size:=by obtain ⟨⟨B,x,I,J,H,u,l,G,A,q,_⟩,_⟩:=v;exact q.at_.blk.lt
 have K:a.cell? ⟨e,3,none⟩=some (.int .i64 ((g+1:Nat):Int)):=by obtain ⟨⟨B,x,I,J,H,u,l,G,A,q,_⟩,_⟩:=v;exact (q.at_.blk.cell 3).trans rfl
 have ai:¬((c:Int)>=((g+1:Nat):Int)):=oM;have aO:¬g+1<=c:=oM;have aP:decide ((c:Int)>=((g+1:Nat):Int))=false:=zBy ai;have b5:decide ((c:Int) < 0)=false:=by simp
 have aC:IntKind.i64.wrap (((g+1:Nat):Int) - 1)=(g:Int):=by rw [IntKind.wrap_i64];omega
 obtain ⟨z,L⟩:=eqx (g+1);rw [L] at K ai aP aC v aF aN aO;obtain ⟨m,w⟩:=eqx (a.alloc (.cells #[(c:Int)] 3));have D:Below a.heap.size a m:=by rw [<-w];exact bR.alloc nL _
 have E:Bk m a.heap.size 3 #[(c:Int)]:=by rw [<-w];exact Bk.new a _ _
 have aQ:∀aj,(m.drewN aj).cell? ⟨a.heap.size,0,none⟩=some (.int .i64 (c:Int)):=fun aj=>(E.cell 0).trans rfl;have aS:m.cell? ⟨a.heap.size,0,none⟩=some (.int .i64 (c:Int)):=(E.cell 0).trans rfl;have aR:m.cell? ⟨e,3,none⟩=some (.int .i64 (z:Int)):=(D.cell (p:=⟨e,3,none⟩) aK).trans K;have af:m.heap.size=a.heap.size+1:=by rw [<-w,World.size_alloc]
 have b2:e < m.heap.size:=oM;have a1:=v.below D;obtain ⟨an,ar,au,av,ap,aq,az⟩:=hqq7 a1 w D E a4 L af;clear v a1 w D E a4 L af K;go_enter func93,ntmps93;go_wp2_with fail;rw [ar.out];go_quiet (fail)
 rename_i nq
 have b4:∀(X:Fn) (first W:Array Value) (a:World),(Instr.makeFunc X first W).run prog a=.ok (.func X first W) a:=fun _ _ _ _=>rfl;go_wp2_with fail;have a2:=an.out.below (below_drewN bR nq);have M:=aB1 i e z r c Q (m.drewN nq) a2;unfold yZ at M;refine M.mono ?_;rintro o S ⟨aT,R,rfl,ad,aE,O⟩;obtain ⟨⟨B,x,I,J,H,u,l,G,A,q,rfl⟩,ae,a7⟩:=aE;have C:=q.at_;have aV:S.cell? ⟨e,3,none⟩=some (.int .i64 (z:Int)):=(C.blk.cell 3).trans rfl;have aY:=C.blk.frozen 3;have b1:=C.blk.lt;have N:Bk S a.heap.size 3 #[(c:Int)]:=O.bk (av.out.drewN nq) fun o=>by have:=ap.out _ o;omega
 have b6:S.cell? ⟨a.heap.size,0,none⟩=some (.int .i64 (c:Int)):=(N.cell 0).trans rfl;obtain ⟨b,ay,U,y,aw,V⟩:=hqq6 q ae a7 ad O N;clear q ae a7 ad O N C M a2 aQ aS aR;go_wp2_with fail;have a5:=b.out.at_.set_rows g;have aa:=V.out.far (p:=⟨e,3,none⟩) (fun o=>by have aX:a.heap.size=e:=o;omega) (.int .i64 (g:Int));have ag:∀d,x.ownBlock=some d->d≠a.heap.size:=fun d t o=>by subst o;obtain ⟨aU,aJ⟩:=eT b.out.at_.lrow t;exact absurd (aM aJ V.out).1 dC
 have a0:∀k,k∈u->aB l k<=1000000000000/\aI l k<=1000000000000:=fun k aL=>by have:=U.out (aB l k,aI l k) (zAy.2 ⟨k,aL,rfl⟩);have Z:aB l k < z:=this.1;have aD:aI l k < r:=this.2;omega
 have b3:=gQ b.out.nd b.out.at_.lt;refine (yX 0 e B a.heap.size c x I J H g r u l G A _ a5 b.out.nd (by have:=b.out.sz;omega) aa ag a0).mono ?_;rintro o al ⟨rfl,ab,am,P,a8,a6⟩;have a9:∀d,Gw i (m.drewN nq).heap.size d->Gw i a.heap.size d:=fun d n=>by rcases n with n | n;exact .inl n;exact .inr (by have:=az.out;simp at n;omega)
 have ac:Keep i a al:=((Keep.of_below (below_drewN au.out nq)).trans aw.out).trans' ((Keep.setCell (F:=Gw i (m.drewN nq).heap.size) (Keep.refl _ _) (p:=⟨e,3,none⟩) (.inl b.out.fp) _).trans (ab.mono fun d _ t=>b.out.fl d t)) fun d t n=>by rcases a9 d n with Y | Y;exact Y;omega
 have a3:PermE al (Gw i a.heap.size) e g r ((u.map fun k=>(aB l k,aI l k)).map fun j=>(aW j.1 c,j.2)):=by
  refine PermE.mono (F:=Gw i (m.drewN nq).heap.size) ⟨⟨B,x,I,J,H,u,am,G,A,⟨a6,b.out.fp,b.out.fa,b.out.fl,b.out.fo,b.out.ft,b.out.ff,b.out.nd,by rw [P];exact b.out.tkl,b.out.tkk,b.out.frn,b.out.frk,by rw [P];exact b.out.sz⟩,(aBd (f:=fun j=>(aW j.1 c,j.2)) a8).symm⟩,?_,fun j q=>?_⟩ fun d _ n=>a9 d n;refine List.pairwise_map.2 (List.Pairwise.imp_of_mem (fun {aA d} aG t aH=>?_) ay.out);exact aJD aH ((y.out aA).1 aG).2 ((y.out d).1 t).2
  · obtain ⟨T,ah,rfl⟩:=zAy.1 q;have Z:=U.out T ah;have aD:=((y.out T).1 ah).2;have aZ:=aq.out;refine ⟨?_,Z.2⟩;show aW T.1 c < g;unfold aW;split <;> omega
 obtain ⟨ao,ax⟩:=hqq2 a3 ac;clear ac a3 a6 a8 ab P a0 ag aa a5;go_wp2_with fail;go_ret;exact ⟨rfl,⟨_,y.out,ao.out⟩,ax.out⟩
theorem yU (m:Nat->Prop) (g B P d:Nat) (k:List (Nat×Nat)) (c:World) (q:PermE c m g B P k) (ar:∀t,m t->t < c.heap.size) (bq:d < P) (bA:B<=100000) (b7:P<=100000) (av:∀b∈k,∀n∈k,b.2=n.2->b=n):
 Calls prog 94 #[g,(d:Int)] c fun e K=>e=.returned (.int .i64 0)/\(∃N:List (Nat×Nat),(∀b,b∈N↔b∈k/\b.2≠d)/\PermE K (Gw m c.heap.size) g B (P - 1) (N.map fun b=>(b.1,aW b.2 d)))/\Keep m c K:=by
 obtain ⟨o,rfl⟩:∃o,P=o+1:=⟨P - 1,by omega⟩;rw [zBb];have be:g < c.heap.size:=by obtain ⟨⟨w,u,z,A,y,r,j,x,v,a,_⟩,_⟩:=q;exact a.at_.blk.lt
 have a5:c.cell? ⟨g,4,none⟩=some (.int .i64 ((o+1:Nat):Int)):=by obtain ⟨⟨w,u,z,A,y,r,j,x,v,a,_⟩,_⟩:=q;exact (a.at_.blk.cell 4).trans rfl
 have aE:¬((d:Int)>=((o+1:Nat):Int)):=oM;have br:¬o+1<=d:=oM;have bs:decide ((d:Int)>=((o+1:Nat):Int))=false:=zBy aE;have bE:decide ((d:Int) < 0)=false:=by simp
 have b3:IntKind.i64.wrap (((o+1:Nat):Int) - 1)=(o:Int):=by rw [IntKind.wrap_i64];omega
 obtain ⟨I,a6⟩:=eqx (o+1);rw [a6] at a5 aE bs b3 q b7 bq br;obtain ⟨C,U⟩:=eqx (c.alloc (.cells #[(d:Int)] 3));have a0:Below c.heap.size c C:=by rw [<-U];exact bR.alloc nL _
 have a1:Bk C c.heap.size 3 #[(d:Int)]:=by rw [<-U];exact Bk.new c _ _
 have aF:∀a2,(C.drewN a2).cell? ⟨c.heap.size,0,none⟩=some (.int .i64 (d:Int)):=fun a2=>(a1.cell 0).trans rfl;have aJ:C.cell? ⟨c.heap.size,0,none⟩=some (.int .i64 (d:Int)):=(a1.cell 0).trans rfl;have aH:C.cell? ⟨g,4,none⟩=some (.int .i64 (I:Int)):=(a0.cell (p:=⟨g,4,none⟩) be).trans a5;have aA:C.heap.size=c.heap.size+1:=by rw [<-U,World.size_alloc]
 have bB:g < C.heap.size:=oM;have ao:=q.below a0;obtain ⟨aL,aR,ae,af,aP,aQ,a4,aU⟩:=hqq8 ao U a0 a1 ar a6 aA av;clear q ao U a0 a1 ar a6 aA a5 av;go_enter func94,ntmps94;go_wp2_with fail;rw [aR.out];go_quiet (fail)
 rename_i nq
 have bD:∀(ak:Fn) (first aj:Array Value) (c:World),(Instr.makeFunc ak first aj).run prog c=.ok (.func ak first aj) c:=fun _ _ _ _=>rfl;go_wp2_with fail;have S:=aL.out.below (below_drewN bR nq);have a9:Calls prog 149 #[g,(d:Int)] (C.drewN nq) fun e K=>Below (C.drewN nq).heap.size (C.drewN nq) K/\((e=.returned (.int .i64 (-1))/\∀b∈k,b.2≠d)∨∃J b,e=.returned (.int .i64 ((J:Nat):Int))/\k[J]?=some b/\b.2=d):=by
  obtain ⟨⟨w,u,z,A,y,r,j,x,v,a,rfl⟩,az,a7⟩:=S;have bi:=gQ a.nd a.at_.lt;have bz:=a.sz;refine (iX 0 g w u z A y B I r j x v d _ a.at_ oM).mono ?_;rintro e K ⟨rfl,Q⟩;refine ⟨Q,?_⟩;by_cases a8:∃i∈r,aI j i=d
  · obtain ⟨a2,b,bj,bn,bo⟩:=tX (p:=fun i=>decide (aI j i=d)) (l:=r) (by obtain ⟨i,bg,ab⟩:=a8;exact ⟨i,bg,zBz ab⟩) 0;rw [bj,zBi];exact .inr ⟨a2,_,rfl,by rw [zAf,bn];rfl,of_decide_eq_true bo⟩
  rw [kN (p:=fun i=>decide (aI j i=d)) (l:=r) (fun i X=>zBy fun e=>a8 ⟨i,X,e⟩) 0];refine .inl ⟨rfl,fun b a=>?_⟩;obtain ⟨i,X,rfl⟩:=zAy.1 a;exact fun e=>a8 ⟨i,X,e⟩
 have ay:∀s (N:List (Nat×Nat)),(∀b,b∈N↔b∈k/\b.2≠d)->PermE s (Gw m c.heap.size) g B I N->Keep m c s->Bk s c.heap.size 3 #[(d:Int)]->∃w u z A y r j x v,PermX s (Gw m c.heap.size) g w u z A y B I r j x v/\Calls prog 118 #[g,.func (.func 158) #[] #[c.heap.size]] (s.setCell ⟨g,4,none⟩ (.int .i64 (o:Int))) fun e K=>e=.returned (.tuple #[])/\PermE K (Gw m c.heap.size) g B o (N.map fun b=>(b.1,aW b.2 d))/\Keep m c K:=by
  rintro s N Z ⟨⟨w,u,z,A,y,r,j,x,v,a,rfl⟩,az,a7⟩ ab H;refine ⟨w,u,z,A,y,r,j,x,v,a,?_⟩;have b9:=a.at_.set_places o;have W:=H.far (p:=⟨g,4,none⟩) (fun e=>by have bw:c.heap.size=g:=e;omega) (.int .i64 (o:Int));have bm:∀t,u.ownBlock=some t->t≠c.heap.size:=fun t Q e=>by subst e;obtain ⟨bv,bb⟩:=eT a.at_.lrow Q;exact absurd (aM bb H).1 dC
  have b6:∀i,i∈r->aB j i<=1000000000000/\aI j i<=1000000000000:=fun i X=>by have:=a7 (aB j i,aI j i) (zAy.2 ⟨i,X,rfl⟩);have am:aB j i < B:=this.1;have b5:aI j i < I:=this.2;omega
  have bi:=gQ a.nd a.at_.lt;refine (yY 0 g w c.heap.size d u z A y B o r j x v _ b9 a.nd (by have:=a.sz;omega) W bm b6).mono ?_;rintro e O ⟨rfl,bh,aK,ax,bd,ba⟩;refine ⟨rfl,⟨⟨w,u,z,A,y,r,aK,x,v,⟨ba,a.fp,a.fa,a.fl,a.fo,a.ft,a.ff,a.nd,by rw [ax];exact a.tkl,a.tkk,a.frn,a.frk,by rw [ax];exact a.sz⟩,(aBd (f:=fun b=>(b.1,aW b.2 d)) bd).symm⟩,List.pairwise_map.2 (az.imp fun {bu t} b8=>b8),fun b bp=>?_⟩,?_⟩
  · obtain ⟨n,M,rfl⟩:=zAy.1 bp;have am:=a7 n M;have b5:=((Z n).1 M).2;have bx:=aQ.out;refine ⟨am.1,?_⟩;show aW n.2 d < o;unfold aW;split <;> omega
  · refine ab.trans' ((Keep.setCell (F:=Gw m c.heap.size) (Keep.refl _ _) (p:=⟨g,4,none⟩) (.inl a.fp) _).trans (bh.mono fun t _ Q=>a.fl t Q)) fun t Q D=>by rcases D with al | al;exact al;omega
 have ah:=lhd ay;clear ay;refine a9.mono ?_;rintro e s ⟨E,⟨rfl,ac⟩|⟨J,b,rfl,ad,aD⟩⟩
 · have H:Bk s c.heap.size 3 #[(d:Int)]:=(af.out.drewN nq).below E (by have:=a4.out;simp;omega);have Y:Keep m c s:=(Keep.of_below (below_drewN ae.out nq)).trans (Keep.of_below E);have L:=(S.below E).mono (G:=Gw m c.heap.size) fun t _ D=>.inl D;obtain ⟨w,u,z,A,y,r,j,x,v,a,V⟩:=ah.out s k (fun b=>⟨fun q=>⟨q,ac b q⟩,fun q=>q.1⟩) L Y H;have b2:s.cell? ⟨g,4,none⟩=some (.int .i64 (I:Int)):=(a.at_.blk.cell 4).trans rfl;have b4:=a.at_.blk.frozen 4;have bf:=a.at_.blk.lt;have bt:s.cell? ⟨c.heap.size,0,none⟩=some (.int .i64 (d:Int)):=(H.cell 0).trans rfl;obtain ⟨a3,b0⟩:=hqq2 V ac;clear V ac a L Y H E S a9 aF aJ aH;go_wp2_with fail;refine a3.out.mono ?_;rintro e O ⟨rfl,T,R⟩;obtain ⟨aN,aX⟩:=hqq2 T R;clear T R;go_wp2_with fail;go_ret;exact ⟨rfl,⟨k,fun b=>⟨fun q=>⟨q,b0.out b q⟩,fun q=>q.1⟩,aN.out⟩,aX.out⟩
 · have H:Bk s c.heap.size 3 #[(d:Int)]:=(af.out.drewN nq).below E (by have:=a4.out;simp;omega);have L:=S.below E;have aa:=(zAc.1 ad).1;have au:=sN m g B I J k s L aa;have b1:=lhd L.2.1;have aV:=lhd (fun n (M:n∈k) b (a:b∈k) (e:n.1=b.1)=>L.inj M a e);have bC:decide ((J:Int)>=0)=true:=(by simp);have bl:=E.size;obtain ⟨ag,ai,aS,aT⟩:=hqq4 ad aD E H;clear ad aD H E L S a9 aF aJ aH;go_wp2_with fail;refine au.mono ?_;rintro e O ⟨rfl,T,R⟩;have W:Bk O c.heap.size 3 #[(d:Int)]:=R.bk aT.out fun e=>by have:=aP.out _ e;omega
   have Y:Keep m c O:=((Keep.of_below (below_drewN ae.out nq)).trans (Keep.of_below aS.out)).trans R;have Z:∀n,n∈aG k J↔n∈k/\n.2≠d:=fun n=>by
    rw [aFJ b1.out aa];have bc:k[J]=b:=(by have an:=ag.out;rw [zAa aa] at an;injection an);rw [bc];have aC:b∈k:=zAd ag.out;refine and_congr_right fun M=>not_congr ⟨fun e=>?_,fun e=>?_⟩;rw [aV.out n M b aC e];exact ai.out
    · rw [aU.out n M b aC (by rw [e,ai.out])]
   have ap:=T.mono (G:=Gw m c.heap.size) fun t _ D=>by rcases D with D | D;exact .inl D;exact .inr (by have:=a4.out;simp at bl;omega)
   obtain ⟨w,u,z,A,y,r,j,x,v,a,V⟩:=ah.out O (aG k J) Z ap Y W;have b2:O.cell? ⟨g,4,none⟩=some (.int .i64 (I:Int)):=(a.at_.blk.cell 4).trans rfl;have b4:=a.at_.blk.frozen 4;have bf:=a.at_.blk.lt;have bt:O.cell? ⟨c.heap.size,0,none⟩=some (.int .i64 (d:Int)):=(W.cell 0).trans rfl;obtain ⟨a3,aZ⟩:=hqq2 V Z;clear V Z a ap T Y W R au;go_wp2_with fail;refine a3.out.mono ?_;rintro e bF ⟨rfl,aq,aw⟩;obtain ⟨aO,aY⟩:=hqq2 aq aw;clear aq aw;go_wp2_with fail;go_ret;exact ⟨rfl,⟨_,aZ.out,aO.out⟩,aY.out⟩
end
section
open Go.RowKit
theorem aBt {a:List Nat} {c b:Nat} (d:a[c]?=some b):(a.take c).count b < a.count b:=by
 have e:a.count b=(a.take (c+1)).count b+(a.drop (c+1)).count b:=by rw [<-zCc,zAu]
 have f:(a.take (c+1)).count b=(a.take c).count b+1:=by rw [zAv,d,zCc];simp
 omega
theorem aIc {a:List UInt8} {b:List Nat} (n:IsSuf (aF a) b) {e m d:Nat} {c:UInt8} (p:b[e]?=some (d+1)) (q:b[m]?=some d) (i:a[d]?=some c):
 (aE (aF a) b)[e]?=some (c.toNat+1)/\cH (aE (aF a) b) (c.toNat+1) e=m:=by
 obtain ⟨j,k⟩:=zAc.1 p;obtain ⟨r,s⟩:=zAc.1 q;have l:=(zAc.1 i).1;have o:(aF a).getD d 0=c.toNat+1:=by unfold aF dF;rw [zAb,zAn (by simpa using l),zAf,i];rfl
 have f:=lf n (eE a) j r k s;have g:=rS (eE a) j k l;rw [o] at f g;exact ⟨zAc.2 ⟨_,g⟩,f⟩
theorem pM (j gk:Nat) (a:List Nat) (g c b:Nat) (d:World) (l:WalkAt d j gk a) (f:a[g]?=some b) (r:cH a b g=c) (p:∀i∈a,i < 257) (u:a.length<=1000):
 Calls prog 132 #[gk,(c:Int)] d fun e v=>e=.returned (.int .i64 (b:Int))/\Below d.heap.size d v:=by
 have E:b < 257:=p _ (zAd f);have q:=aBt f;have s:a.countP (fun i=>decide (i < b))+(a.take g).count b=c:=r;have t:c < a.length:=by have:=vC a b a.length;unfold cH at this;rw [List.take_length] at this;omega
 have o:=l;obtain ⟨G,B,m,C,n⟩:=l;have F:=m.cell 1;obtain ⟨w,x,k,y,z,A⟩:=hqq6 o n s q t u;clear o m C n s q r t p u f;go_enter func132,ntmps132;go_wp2_with fail;refine (xY j gk a c d w.out z.out).mono ?_;rintro e w1 ⟨rfl,rfl⟩;go_wp2_with fail;refine (yE B a c b _ x.out E (by have:=k.out;omega) (by have:=k.out;have:=y.out;omega) A.out).mono ?_;rintro e v ⟨rfl,D⟩;go_wp2_with fail;go_ret;exact ⟨rfl,D⟩
theorem uG (b:UInt8) (a:Nat) (i:a=b.toNat+1) (c:World):
 Calls prog 108 #[(a:Int)] c fun d k=>d=.returned (.tuple #[bv b,.bool true])/\Below c.heap.size c k:=by
 have g:=b.toNat_lt;have l:¬((a:Int)=0):=oM;have m:((a:Int)==0)=false:=by rw [zCb];omega
 have n:IntKind.i64.wrap ((a:Int) - 1)=(b.toNat:Int):=by rw [IntKind.wrap_i64];omega
 have o:IntKind.u8.wrap (b.toNat:Int)=(b.toNat:Int):=by rw [IntKind.wrap_u8];omega
 have e:¬a=0:=oM;have p:decide (a=0)=false:=zBy e;have j:a < 257:=oM;clear i g;go_enter func108,ntmps108;go_wp2_with fail;refine (eY a c j).mono ?_;rintro d w1 ⟨rfl,f⟩;go_wp2_with fail;go_ret2;exact ⟨rfl,f⟩
theorem qK (e gk:Nat) (b:List Nat) (d g a:Nat) (l:World) (y:WalkAt l e gk b) (u:b[d]?=some a) (B:cH b a d=g) (s:∀C∈b,C < 257) (v:b.length<=1000) (I:TabW l) (A:1 < e):
 Calls prog 91 #[gk,(g:Int)] l fun r a8=>r=.returned (.int .i64 (d:Int))/\VB e l a8:=by
 have a4:a < 257:=s _ (zAd u);have K:=pM e gk b d g a l y u B s v;obtain ⟨k,w⟩:∃k,b.countP (fun C=>decide (C < a))=k:=⟨_,rfl⟩;obtain ⟨n,t⟩:=eqx ((b.take d).count a);have L:k+n=g:=by rw [<-w,<-t];exact B
 have aj:k<=1000:=by rw [<-w];exact zAk zBh v
 have ak:n<=1000:=by rw [<-t];exact zAk zBv (by rw [zAj];omega)
 have H:=y;obtain ⟨x,ai,z,G,a2⟩:=y;have al:=z.lt;obtain ⟨O,P,R,W,T,F,Y,V,X⟩:=hqq9 H z G u s v w t L;have D:=lhd I;clear H z G a2 u s v w t B L I;have am:decide ((a:Int) < 0)=false:=by simp
 go_enter func91,ntmps91;go_wp2_with fail;refine K.mono ?_;rintro r m ⟨rfl,J⟩;clear K;have j:VB e l m:=VisK.of_below J;obtain ⟨U,Q,S,E⟩:=hqq4 (O.out.vis j.1) (j.1.bk P.out dC dC) (R.out.vis j.1) (D.out.vb j A D.out.pos);have an:=j.1.size;have Z:=lhd j;clear j J;go_wp2_with fail;refine wp_region_any kR ?_;refine aQ [11,12,13,14,15,16,17,18,19,20,21,4] (VB e) (Vs [is gk,is gk,is gk,is x,is (g:Int),is gk,is (a:Int),is (k:Int),is (n:Int),is (a:Int),is (d:Int),is (d:Int)]) _ _ rfl kR vR (fun _ _=>VisK.trans) (cV tA1) ?_ ?_
 · refine aO ?_;refine pH 0 (.pointer (some ⟨gk,0,none⟩)) ?_;refine pV 0 11 ?_;refine pV 1 12 ?_;refine pL 2 13 (fun i c=>have c:(VB e) m i:=bD c;(((c.1.bk Q.out dC dC).cell 0).trans rfl:i.cell? ⟨gk,0,none⟩=some (.pointer (some ⟨x,0,none⟩)))) ?_;refine pH 1 (.int .i64 (g:Int)) ?_;refine pH 0 (.pointer (some ⟨gk,0,none⟩)) ?_;refine pH 5 (.int .i64 (a:Int)) ?_;refine sC (fun _ i c _ _ _ f _ _ _ o=>?_) ?_
   · have ad:_=_:=f 5 16 kR rfl;have ae:_=_:=f 6 17 kR rfl;replace c:(VB e) m i:=bD c;go_simp;refine (iK e gk b a i (U.out.vis c.1) a4 F.out).mono ?_;rintro r aa ⟨rfl,a3⟩;rw [Y.out];exact o _ _ (VisK.of_below a3) rfl
   refine sC (fun _ _ _ _ _ _ f _ _ _ o=>?_) ?_
   · have ac:_=_:=f 4 15 kR rfl;have af:_=_:=f 7 18 kR rfl;have ao:IntKind.i64.wrap ((g:Int) -(k:Int))=(n:Int):=(by rw [IntKind.wrap_i64];have:=X.out;omega);go_simp;exact o _ _ vR rfl
   refine pH 5 (.int .i64 (a:Int)) ?_;refine sC (fun _ i c _ _ _ f _ _ _ o=>?_) ?_
   · have ab:_=_:=f 3 14 kR rfl;have ag:_=_:=f 8 19 kR rfl;have ah:_=_:=f 9 20 kR rfl;replace c:(VB e) m i:=bD c;go_simp;refine (xU e x b d n a i (S.out.vis c.1) W.out V.out T.out F.out (E.out.vb c A E.out.pos) A).mono ?_;rintro r aa ⟨rfl,a6⟩;exact o _ _ a6 rfl
   refine pV 10 21 ?_;exact aD
 · intro a1 a9 c f;replace c:(VB e) m a9:=bD c;have a0:a1 (.tmp 4)=.int .i64 (d:Int):=f 11 4 rfl;simp only [zqq];rw [a0];clear f;have a5:=Z.out.trans c;go_wp2_with fail;go_ret;exact ⟨rfl,a5⟩
@[irreducible] def zerC (q:Nat):Array Value:=kC .i64 q fun _=>0
@[irreducible] def filC (b:List Nat) (p:Nat):Array Value:=kC .i64 257 fun a=>if a < p then cH b a 0 else 0
@[irreducible] def firC (b:List Nat) (p:Nat):Array Value:=kC .i64 257 fun a=>cH b a p
@[irreducible] def toC (b:List Nat) (q p:Nat):Array Value:=kC .i64 q fun d=>if d < p then cH b (b.getD d 0) d else 0
@[irreducible] def seenC (a7:List Nat) (q g:Nat):Array Value:=kC .i64 q fun d=>if g < a7.getD d 0 then 1 else 0
@[irreducible] def txtC (N:List UInt8) (g:Nat):Array Value:=kC .u8 N.length fun M=>if M < g then 0 else (N.getD M 0).toNat
theorem aFp (a:Nat):Array.replicate a (Value.int .i64 0)=zerC a:=by unfold zerC;exact pA _ _
theorem aGJ (a:List Nat):Array.replicate 257 (Value.int .i64 0)=filC a 0:=by
 unfold filC;rw [pA];exact dE fun c b=>by rw [zBw oM]
theorem aIA {L:List Nat} {a:Nat} (e:a < 257):(filC L a).setIfInBounds a (.int .i64 ((L.countP (fun f=>decide (f < a)):Nat):Int))=filC L (a+1):=by
 unfold filC;rw [lK e];refine dE fun d g=>?_;by_cases b:d=a
 · subst b;rw [zBx rfl,zBx oM];unfold cH;simp
 · rw [zBw b];by_cases c:d < a
   · rw [zBx c,zBx oM]
   · rw [zBw c,zBw oM]
theorem aIC (a:List Nat):filC a 257=firC a 0:=by
 unfold filC firC;exact dE fun c b=>by rw [zBx b]
theorem aIB {L:List Nat} {k a:Nat} (b:a < 257):∃c,(filC L k)[a]?=some c:=by
 unfold filC;exact ⟨_,fS b⟩
theorem aIz {b:List Nat} {c a:Nat} (d:a < 257):(firC b c)[a]?=some (.int .i64 ((cH b a c:Nat):Int)):=by
 unfold firC;exact fS d
theorem aIy {b:List Nat} {c a:Nat} (f:b[c]?=some a) (e:a < 257):(firC b c).setIfInBounds a (.int .i64 ((cH b a c+1:Nat):Int))=firC b (c+1):=by
 unfold firC;rw [lK e];refine dE fun g i=>?_;rw [aGu f];by_cases d:g=a
 · subst d;simp
 · rw [zBw d,zBw d]
theorem aHm (b:List Nat) (a:Nat):zerC a=toC b a 0:=by
 unfold zerC toC;exact dE fun d c=>by rw [zBw oM]
theorem aFr {b:List Nat} {d c a:Nat} (e:a < d):(toC b d c)[a]?=some (.int .i64 (((if a < c then cH b (b.getD a 0) a else 0:Nat)):Int)):=by
 unfold toC;exact fS e
theorem aJj {b:List Nat} {c a g:Nat} (j:b[a]?=some g) (i:a < c):(toC b c a).setIfInBounds a (.int .i64 ((cH b g a:Nat):Int))=toC b c (a+1):=by
 unfold toC;rw [lK i];refine dE fun f k=>?_;by_cases d:f=a;subst d;rw [zBx rfl,zBx oM,zAb,j];rfl
 · rw [zBw d];by_cases e:f < a
   · rw [zBx e,zBx oM]
   · rw [zBw e,zBw oM]
theorem aEb {b:List Nat} {d c:Nat} (f:∀a∈b,a<=c):zerC d=seenC b d c:=by
 unfold zerC seenC;refine dE fun g i=>?_;rw [zBw];rw [zAb];cases e:b[g]? with
 | none=>simp
 | some a=>simpa using f a (zAd e)
theorem aGe {d:List Nat} {c b a:Nat} (e:a < c) (f:d[a]?=some b):(seenC d c b)[a]?=some (.int .i64 0):=by
 unfold seenC;rw [fS e,zAb,f];simp
theorem aGd {a:List Nat} {n b c:Nat} {o:List Nat} (m:IsSuf o a) (q:a.length=n) (l:c < n) (g:a[c]?=some (b+1)):(seenC a n (b+1)).setIfInBounds c (.int .i64 ((1:Nat):Int))=seenC a n b:=by
 unfold seenC;rw [lK l];refine dE fun j p=>?_;by_cases e:j=c
 · subst e;rw [zBx rfl,zAb,g,zBx (by simp)]
 · rw [zBw e];obtain ⟨d,i⟩:∃d,a[j]?=some d:=⟨_,zAa oM⟩;have r:d≠b+1:=fun k=>e (uY m (by rw [i,k]) g);rw [zAb,i];simp only [Option.getD_some];by_cases f:b+1 < d
   · rw [zBx f,zBx oM]
   · rw [zBw f,zBw oM]
theorem aFT (a:List UInt8):Array.replicate a.length (Value.int .u8 0)=txtC a a.length:=by
 unfold txtC;rw [pA];exact dE fun c b=>by rw [zBx b]
theorem aHi {b:List UInt8} {a:Nat} {c:UInt8} (f:b[a]?=some c):(txtC b (a+1)).setIfInBounds a (bv c)=txtC b a:=by
 have i:=(zAc.1 f).1;unfold txtC bv;rw [lK i];refine dE fun g j=>?_;by_cases d:g=a;subst d;rw [zBx rfl,zBw oM,zAb,f];rfl
 · rw [zBw d];by_cases e:g < a
   · rw [zBx e,zBx oM]
   · rw [zBw e,zBw oM]
theorem aHj {t:List UInt8} {j a:Nat} (b:a < t.length):∃c,(txtC t j)[a]?=some c:=by
 unfold txtC;exact ⟨_,fS b⟩
theorem aHk (b:List UInt8):(txtC b 0).toList=b.map bv:=by
 unfold txtC;rw [aGV];apply List.ext_getElem?;intro c;rw [zAf,zAf];by_cases a:c < b.length
 · rw [zCk a,zAa a];simp [bv,a]
 rw [zBg (by simpa using a),zBg (by simpa using a)];rfl
theorem aFU (a:List UInt8) (b:Nat):(txtC a b).size=a.length:=by unfold txtC;exact lJ _ _ _
theorem aGi (a:Nat) (j:a<=1000000) (b:World):(Instr.makeSlice 26 (.int .i64 (a:Int)) (.int .i64 (a:Int))).run prog b=.ok (.slice (some ⟨b.heap.size,0,none⟩) a a) (b.alloc (.cells (Array.replicate a (.int .u8 0)) 5)):=by
 obtain ⟨i,d,e,f,g⟩:=info_parts qO;have:=run_make (P:=prog) b 26 5 i (.int .u8 0) underlying26 d e .i64 .i64 a a oM (Int.le_refl _) (by rw [g];omega) oM;rw [this,f];have c:madeCells #[.int .u8 0] a=Array.replicate a (.int .u8 0):=by apply Array.ext';rw [toList_madeCells_one];simp
 simp only [Value.cells,zBr,zBl];rw [c]
theorem yP (aH:Option Addr) (T aj:Nat) (l:List UInt8) (O:List Nat) (g:World) (ag:IsSuf (aF l) O) (a6:Rd g aj 1 aH (l.length+1) ((aE (aF l) O).map sv)) (aS:aj<=g.heap.size) (cq:l.length<=127):
 Calls prog 49 #[.slice aH (l.length+1) T] g fun r bk=>∃bm br,r=.returned (.tuple #[.slice bm l.length br,.bool true])/\Made bk g.heap.size 5 1 bm l.length br (l.map bv)/\Below g.heap.size g bk:=by
 obtain ⟨d,ax⟩:=eqx (aE (aF l) O);have A:=dG (rs:=O) (eC l);have aW:=aEQ ag;have b4:d.length=l.length+1:=by rw [<-ax,bP,ag.len,aL]
 rw [ax] at a6 A aW;obtain ⟨x,ac⟩:=eqx l.length;obtain ⟨b,b7⟩:=eqx (x+1);rw [ac,b7] at a6 b4;rw [ac] at cq;have bN:=sE aH b T aj d g a6 aS oM A;obtain ⟨S,Y,rfl,cg,bE⟩:=a6.2 oM;have bF:∀wr,Below g.heap.size g wr->∀(a m:Nat),d[a]?=some m->wr.cell? ⟨S,Y+a,none⟩=some (.int .i64 (m:Int)):=fun wr i a m J=>(i.cell (p:=⟨S,Y+a,none⟩) (zAl cg aS)).trans (bE a _ (by rw [zAf,J];rfl));obtain ⟨c7,aM,c4,ao,ak,a1,c1⟩:=hqq7 a6 bF A b4 ax ac aW;rw [ac,b7];clear a6 bE bF A b4 ax ac aW;go_enter func49,ntmps49;go_wp2_with fail;refine bN.mono ?_;clear bN;rintro r w1 ⟨a3,rfl,cT,bB,bw⟩;obtain ⟨an,aI⟩:=hqq2 bB bw;clear bB bw;go_wp2_with fail;have b9:=uE a3 d 0 w1 an.out oM;rw [c1.out] at b9;refine b9.mono ?_;clear b9;rintro r a2 ⟨rfl,aU⟩;obtain ⟨aK,al⟩:=hqq2 (an.out.below aU an.out.lt) (aI.out.trans (aU.mono aI.out.size));clear aU an aI;go_wp2_with fail;have d0:b<=128:=oM;refine wp_region_any kR ?_;refine vP [29,30,31,32,33,34,6,7] [31,34] 8 (Grow) (Below a2.heap.size a2) [k0 (is (.slice (some ⟨S,Y,none⟩) b T)),k0 (is (b:Int)),k0 (fun Z a0=>∃f,Z=.slice (some ⟨f,0,none⟩) b b/\a2.heap.size<=f/\Bk a0 f 3 (zerC b)),k0 (is (.slice (some ⟨S,Y,none⟩) b T)),k0 (is (b:Int)),k0 (fun Z a0=>∃f,Z=.slice (some ⟨f,0,none⟩) b b/\a2.heap.size<=f/\Bk a0 f 3 (zerC b)),kEq 31,kEq 34] _ _ rfl kR kR (bR.drew) (xS rfl) (fun g bk av a=>a.elim (fun a=>av.trans (a.mono av.size)) (fun a=>av.trans (a.mono av.size))) (by repeat' (first | exact aEO _ | exact aFI _ |(refine zAe.2 ⟨?_,?_⟩)|(intro c E;cases E))) (by repeat' (first | exact uV _ _ | exact qX _ _ | exact jD (fun _ _ _ ⟨f,aQ,aR,ab⟩ a=>⟨f,aQ,aR,ab.below a ab.lt⟩)|(refine zAe.2 ⟨?_,?_⟩)|(intro c E;cases E))) (by simp only [List.eraseIdx_cons_zero,List.eraseIdx_cons_succ,List.eraseIdx_nil];repeat' (first | exact uV _ _ | exact qX _ _ | exact jD (fun _ _ _ ⟨f,aQ,aR,ab⟩ a=>⟨f,aQ,aR,ab.below a ab.lt⟩)|(refine zAe.2 ⟨?_,?_⟩)|(intro c E;cases E))) ?_ ?_
 · refine aO ?_;refine aC (cU rfl rfl fun y _ _ _ _ _ o _ _ _ _ s=>?_) ?_
   · have ce:y (.tmp 0)=.slice (some ⟨S,Y,none⟩) b T:=o 0 kR;clear o;go_simp;exact s _ _ (dO bR rfl rfl) rfl
   refine aC (cU rfl rfl fun _ _ _ _ _ _ o F _ _ _ s=>?_) ?_
   · have cG:_=_:=F 0 29 kR rfl;clear o;go_simp;exact s _ _ (dO bR rfl rfl) rfl
   refine aC (cU rfl rfl fun _ _ aT _ _ _ o F _ _ _ s=>?_) ?_
   · obtain ⟨U,aw⟩:=aT;have cI:_=_:=F 1 30 kR rfl;clear o;have bi:=nH b oM;go_simp;exact s _ _ (jM (bR.alloc nL _) rfl (fun f ae=>by simp [blk?] at ae;subst ae;simp)) ⟨_,rfl,U.size,by rw [<-aFp];exact Bk.new _ _ _⟩
   refine aC (cU rfl rfl fun y _ _ _ _ _ o _ _ _ _ s=>?_) ?_
   · have ce:y (.tmp 0)=.slice (some ⟨S,Y,none⟩) b T:=o 0 kR;clear o;go_simp;exact s _ _ (dO bR rfl rfl) rfl
   refine aC (cU rfl rfl fun _ _ _ _ _ _ o F _ _ _ s=>?_) ?_
   · have cJ:_=_:=F 3 32 kR rfl;clear o;go_simp;exact s _ _ (dO bR rfl rfl) rfl
   refine aC (cU rfl rfl fun _ _ aT _ _ _ o F _ _ _ s=>?_) ?_
   · obtain ⟨U,aw⟩:=aT;have cK:_=_:=F 4 33 kR rfl;clear o;have bi:=nH b oM;go_simp;exact s _ _ (jM (bR.alloc nL _) rfl (fun f ae=>by simp [blk?] at ae;subst ae;simp)) ⟨_,rfl,U.size,by rw [<-aFp];exact Bk.new _ _ _⟩
   refine aC (cU rfl rfl fun _ _ _ _ _ _ o _ _ _ _ s=>?_) ?_
   · clear o;go_simp;exact s _ _ (dO bR rfl rfl) rfl
   refine aC (cU rfl rfl fun _ _ _ _ _ _ o _ _ _ _ s=>?_) ?_
   · clear o;go_simp;exact s _ _ (dO bR rfl rfl) rfl
   exact aD
 · intro y ai U aw F cf;have bt:y (.tmp 6)=y (.tmp 31):=F 6 6 rfl;have bu:y (.tmp 7)=y (.tmp 34):=F 7 7 rfl;have ct:(fun Z a0=>∃f,Z=.slice (some ⟨f,0,none⟩) b b/\a2.heap.size<=f/\Bk a0 f 3 (zerC b)) (y (.tmp 31)) ai:=F 2 31 rfl;have cu:(fun Z a0=>∃f,Z=.slice (some ⟨f,0,none⟩) b b/\a2.heap.size<=f/\Bk a0 f 3 (zerC b)) (y (.tmp 34)) ai:=F 5 34 rfl;simp only [zqq];clear F cf;obtain ⟨z,bc,bd,bV⟩:=ct;obtain ⟨q,P,af,bO⟩:=cu;have bG:z≠q:=fun r=>aw.2 31 (by simp) 34 (by simp) dC z (by rw [bc];rfl) (by rw [P,r];rfl);have bx:=al.out.trans (U.mono al.out.size);have bC:=aK.out.below U aK.out.lt;have cQ:=al.out.size;rw [bt,bu,bc,P];generalize y (.tmp 29)=u29;generalize y (.tmp 30)=u30;generalize y (.tmp 32)=u32;generalize y (.tmp 33)=u33;obtain ⟨aq,ap,aJ,a9⟩:=hqq4 bV bO bx bC;clear bV bO bx bC aw bt bu bc P U;go_wp2_with fail;obtain ⟨D,a4⟩:=eqx ai.heap.size;have aY:Bk (ai.alloc (.cells Tryz.zeroCells148 148)) D 148 (filC d 0):=(by rw [<-a4,<-aGJ];exact Bk.new _ _ _);have Q:=aq.out.alloc (.cells Tryz.zeroCells148 148);have W:=ap.out.alloc (.cells Tryz.zeroCells148 148);have bg:=a9.out.alloc (.cells Tryz.zeroCells148 148);have V:=aJ.out.alloc aJ.out.size (.cells Tryz.zeroCells148 148);have cj:z < D:=(by rw [<-a4];exact aq.out.lt);have cR:q < D:=(by rw [<-a4];exact ap.out.lt);have cS:a3 < D:=(by rw [<-a4];exact a9.out.lt);have cW:a3≠z:=Bk.ne a9.out aq.out dC;have cV:a3≠q:=Bk.ne a9.out ap.out dC;rw [a4];generalize ai.alloc (.cells Tryz.zeroCells148 148)=W1 at aY Q W bg V⊢;clear aq ap aJ a9 aK al a4;go_loopw [35] (fun K wr=>∃a:Nat,a<=257/\K=.int .i64 (a:Int)/\Bk wr D 148 (filC d a)/\Bk wr z 3 (zerC b)/\Bk wr q 3 (zerC b)/\Bk wr a3 199 (tcells d)/\Below g.heap.size g wr) (fun K _=>257 -(intOf K).toNat)
   case atStart=>exact ⟨0,by omega,rfl,aY,Q,W,bg,V⟩
   case round=>
    clear aY Q W bg V;obtain ⟨a,aZ,rfl,I,G,u,aA,i⟩:=hrel;by_cases A:a < 257
    · have cZ:((a:Int) < 257):=oM;have aV:=jZ a3 d a wr aA A (by rw [ao.out];omega);obtain ⟨e,X⟩:∃e,d.countP (fun m=>decide (m < a))=e:=⟨_,rfl⟩;have be:=aIA (L:=d) A;rw [X] at aV be;obtain ⟨R,w,v,bp,c8⟩:=hqq5 I G u aA be;clear I G u aA be X;go_wp2_with fail;refine aV.mono ?_;clear aV;rintro r d3 ⟨rfl,ad⟩;have ay:=R.out.below ad R.out.lt;obtain ⟨cw,ah⟩:=aIB (L:=d) (k:=a) A;have cA:=(ay.cell a).trans ah;have cN:=ay.frozen a;have c2:=lhd ay;clear ay ah;go_wp2_with fail;go_roundw
      case rel=>exact ⟨a+1,by omega,by go_num,by rw [<-c8.out];exact c2.out.set a _,(w.out.below ad w.out.lt).far (by simp;omega) _,(v.out.below ad v.out.lt).far (by simp;omega) _,(bp.out.below ad bp.out.lt).far (by simp;omega) _,(i.trans (ad.mono i.size)).setCell (by simp;omega) _⟩
      case measure=>simp [intOf];omega
    · have b0:a=257:=oM;subst b0;rw [aIC] at I;have bs:((257:Nat):Int)=257:=rfl;rw [bs];clear bs;obtain ⟨R,w,v,C⟩:=hqq4 I G u i;clear I G u aA i A aZ;go_wp2_with fail;have ck:g.heap.size<=q:=oM;have cm:g.heap.size<=z:=oM;have ci:g.heap.size<=D:=oM;have bL:D≠q:=oM;have bM:q≠D:=oM;go_loopw [46] (fun K wr=>∃a:Nat,a<=b/\K=.int .i64 (a:Int)/\Bk wr D 148 (firC d a)/\Bk wr z 3 (zerC b)/\Bk wr q 3 (toC d b a)/\Below g.heap.size g wr) (fun K _=>b -(intOf K).toNat)
      case atStart=>exact ⟨0,by omega,rfl,R.out,w.out,by rw [<-aHm];exact v.out,C.out⟩
      case round=>
         clear R w v C;obtain ⟨a,aZ,rfl,I,G,u,i⟩:=hrel;by_cases A:a < b
         · obtain ⟨m,J⟩:∃m,d[a]?=some m:=⟨_,zAa (by rw [ao.out];exact A)⟩;have bX:=c4.out m (zAd J);have ar:=aM.out wr i a m J;obtain ⟨e,X⟩:=eqx (cH d m a);have d1:e<=1000:=(by have:=vC d m a;rw [X,ao.out] at this;omega);have cy:wr.cell? ⟨D,m,none⟩=some (.int .i64 (e:Int)):=(by rw [<-X];exact (I.cell m).trans (aIz bX));have cL:=I.frozen m;have cz:wr.cell? ⟨q,a,none⟩=some (.int .i64 (((if a < a then cH d (d.getD a 0) a else 0:Nat)):Int)):=(u.cell a).trans (aFr A);have cM:=u.frozen a;have a7:=aJj J A;have a8:=aIy J bX;rw [X] at a7 a8;have cP:IntKind.i64.wrap ((e:Int)+1)=((e+1:Nat):Int):=(by rw [IntKind.wrap_i64];omega);obtain ⟨R,w,v,aN,aP⟩:=hqq5 I G u a7 a8;clear I G u a7 a8 X;go_wp2_with fail;go_roundw
           case rel=>exact ⟨a+1,by omega,by go_num,by rw [<-aP.out];exact (R.out.far (p:=⟨q,a,none⟩) bL _).set m _,(w.out.far (p:=⟨q,a,none⟩) bG _).far (p:=⟨D,m,none⟩) (Nat.ne_of_lt cj) _,by rw [<-aN.out];exact (v.out.set a _).far (p:=⟨D,m,none⟩) bM _,(i.setCell (p:=⟨q,a,none⟩) ck _).setCell (p:=⟨D,m,none⟩) ci _⟩
           case measure=>simp [intOf];omega
         · have b0:b=a:=oM;subst b0;obtain ⟨w,v,C⟩:=hqq3 G u i;have ch:=i.size;clear I G u i A aZ bL bM;have cO:((b:Int) - 1)=(x:Int):=oM;have bi:=aGi x oM;go_wp2_with fail;obtain ⟨H,a5⟩:=eqx wr.heap.size;have bh:Bk (wr.alloc (.cells (Array.replicate x (.int .u8 0)) 5)) H 5 (txtC l x):=(by rw [<-a5,<-a1.out,<-aFT];exact Bk.new _ _ _);have Q:=w.out.alloc (.cells (Array.replicate x (.int .u8 0)) 5);have W:=v.out.alloc (.cells (Array.replicate x (.int .u8 0)) 5);have V:=C.out.alloc C.out.size (.cells (Array.replicate x (.int .u8 0)) 5);have bK:z≠H:=Nat.ne_of_lt (by rw [<-a5];exact w.out.lt);have bJ:q≠H:=Nat.ne_of_lt (by rw [<-a5];exact v.out.lt);have bI:g.heap.size<=H:=(by rw [<-a5];exact C.out.size);rw [a5];generalize wr.alloc (.cells (Array.replicate x (.int .u8 0)) 5)=W2 at bh Q W V⊢;clear w v C a5 bi ch;have bU:O.length=b:=(by have:=congrArg List.length ak.out;rw [bP,ao.out] at this;exact this);have b3:∀c∈O,c<=x:=fun c E=>by have:=ag.lt E;rw [aL,a1.out] at this;omega
           rw [aEb b3] at Q;have bb:=aCw ag;rw [a1.out] at bb;obtain ⟨bo,cx,aa⟩:=hqq3 bU b3 ag;clear bU b3;go_loopw [13,14] (fun cv K wr=>∃N c:Nat,N<=x/\O[c]?=some N/\cv=.int .i64 (c:Int)/\K=.int .i64 ((N:Int) - 1)/\Bk wr z 3 (seenC O b N)/\Bk wr q 3 (toC d b b)/\Bk wr H 5 (txtC l N)/\Below g.heap.size g wr) (fun _ K _=>(intOf K+1).toNat)
           case atStart=>exact ⟨x,0,by omega,bb,rfl,by first | rfl | go_num,Q,W,bh,V⟩
           case round=>
            clear Q W bh V bb;obtain ⟨N,c,cY,E,rfl,rfl,G,u,J,i⟩:=hrel;have az:c < b:=(by rw [<-bo.out];exact (zAc.1 E).1);by_cases co:N=0
            · subst co;have b1:=aGy aa.out E;rw [ak.out] at b1;have ar:=aM.out wr i c 0 b1;have cp:(((0:Nat):Int) - 1)=-1:=rfl;rw [cp];have b6:=aFC (B:=g.heap.size) J bI ((aFU l 0).trans a1.out) (by unfold maxLen;omega);rw [aHk] at b6;obtain ⟨bn,C⟩:=hqq2 b6 i;clear G u J i b6 b1;have b2:=nX (some ⟨H,0,none⟩) x x wr.heap.size l wr bn.out.rd nL oM;rw [b7] at b2;go_wp2_with fail;refine b2.mono ?_;clear b2;rintro r bl ⟨d2,bZ,cd,bd,rfl,b5,M⟩;have cs:=bd.unique aa.out;subst cs;rw [ak.out] at b5;have bW:=yO bZ (some ⟨S,Y,none⟩) b cd T bl.heap.size d bl b5.rd (((c7.out.below (C.out.mono aS)).below (M.mono (by have:=C.out.size;omega))).mono (by have:=C.out.size;have:=M.size;omega)) nL oM;have am:=lhd M;clear M b5 bd ar;go_wp2_with fail;refine bW.mono ?_;clear bW;rintro r d4 ⟨rfl,bA⟩;have c0:=lhd bA;clear bA;go_wp2_with fail;go_ret2;have bz:=am.out.trans (c0.out.mono am.out.size);exact ⟨_,_,rfl,bn.out.below bz,C.out.trans (bz.mono C.out.size)⟩
            · obtain ⟨e,rfl⟩:∃e,N=e+1:=⟨N - 1,by omega⟩;have cr:(((e+1:Nat):Int) - 1)=(e:Int):=oM;rw [cr];have bT:e < l.length:=(by rw [a1.out];omega);obtain ⟨au,aX⟩:∃au,l[e]?=some au:=⟨_,zAa bT⟩;obtain ⟨bj,bS,bQ⟩:=aa.out.row (p:=e) (by rw [aL,a1.out];omega);have ba:O[bj]?=some e:=(by rw [zAa bS,bQ]);obtain ⟨P,af⟩:=aIc aa.out E ba aX;rw [ak.out] at P af;have ar:=aM.out wr i c _ P;obtain ⟨bY,bf⟩:=eqx (au.toNat+1);have bD:=uG au bY bf.symm wr;rw [bf] at P af ar;have a7:=aGd (n:=b) aa.out bo.out az E;have a8:=aHi aX;have bH:(toC d b b)[c]?=some (.int .i64 (bj:Int)):=(by rw [aFr az,zBx az,zAb,P];show some (Value.int .i64 ((cH d bY c:Nat):Int))=_;rw [af]);obtain ⟨cw,ah⟩:=aHj (t:=l) (j:=e+1) bT;obtain ⟨c6,aN,aP,c3,w,v,bq,ca,c9⟩:=hqq9 ba a7 a8 bH G u J ah (aGe az E);clear ba bQ bS P af bf a7 a8 bH G u J ah aX;go_wp2_with fail;refine bD.mono ?_;clear bD;rintro r bl ⟨rfl,M⟩;have aG:=w.out.below M w.out.lt;have b8:=v.out.below M v.out.lt;have aB:=bq.out.below M bq.out.lt;have cB:=(aG.cell c).trans c9.out;have cC:=aG.frozen c;have cD:=(b8.cell c).trans c3.out;have cE:=(aB.cell e).trans ca.out;have cF:=aB.frozen e;have cl:q≠z:=fun r=>bG r.symm;have cn:H≠z:=fun r=>bK r.symm;have cX:H≠q:=fun r=>bJ r.symm;obtain ⟨cc,c5,cb,am⟩:=hqq4 aG b8 aB (i.trans (M.mono i.size));clear aG b8 aB M i;unfold bv;go_wp2_with fail;go_roundw
              case rel=>
               refine ⟨e,bj,by omega,c6.out,rfl,?_,?_,?_,?_,?_⟩
               · first | rfl | go_num
               rw [<-aN.out];exact (cc.out.set c _).far (p:=⟨H,e,none⟩) bK _;exact (c5.out.far (p:=⟨z,c,none⟩) cl _).far (p:=⟨H,e,none⟩) bJ _;rw [<-aP.out];exact (cb.out.far (p:=⟨z,c,none⟩) cn _).set e _;exact (am.out.setCell (p:=⟨z,c,none⟩) cm _).setCell (p:=⟨H,e,none⟩) bI _
              case measure=>simp [intOf]
end
end Go.Proofs.YthldmddkfbijhaaGreatDoor
