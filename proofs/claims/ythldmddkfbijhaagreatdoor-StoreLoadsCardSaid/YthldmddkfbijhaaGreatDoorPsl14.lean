/- Lemmas of the walk. Conditions: each its own. -/
import Derived.Test.YthldmddkfbijhaaGreatDoorPsl10
import Derived.Test.YthldmddkfbijhaaGreatDoorPsl11
import Derived.Test.YthldmddkfbijhaaGreatDoorProg
import Derived.Test.YthldmddkfbijhaaGreatDoorShl
import Derived.Test.YthldmddkfbijhaaGreatDoorSht
set_option linter.all false
set_option maxRecDepth 100000
set_option maxHeartbeats 4000000
open Go.Proofs.Tryz
namespace Go.Proofs.YthldmddkfbijhaaGreatDoor
section
open Go.RowKit
def TreeE.keepT {c k:World} {d e:Nat->Prop} {i:Nat} {f:List Bool} (m:TreeE c e i f) (r:Keep d c k) (q:∀a,d a->∃b g,Bk c a b g/\(b=154∨b=157)):TreeE k e i f:=
 m.keep r fun a b g j o _ l=>by obtain ⟨t,s,p,n⟩:=q a l;rw [(aL o p).1] at j;rcases n with rfl | rfl <;>(revert j;decide)
def TreeE.typed {l:World} {q:Nat->Prop} {v:Nat} {t:List Bool} (D:TreeE l q v t):TreeE l (fun a=>q a/\∃p c,Bk l a p c/\p∈ [202,221,205,230,4,3]) v t:=by
 have w:∀ {k:Nat} {x:List Bool} {u:List Nat},ArenaE l q k x u->ArenaE l (fun a=>q a/\∃p c,Bk l a p c/\p∈ [202,221,205,230,4,3]) k x u:=fun ⟨n,z,B,y,A,f,g,d,e,i⟩=>
  ⟨⟨n,_,_,f,by decide⟩,z,B,y,A,f,g,d,fun a o=>⟨e a o,by obtain ⟨c,j⟩:=eW g o;exact ⟨_,c,j,by decide⟩⟩,fun a o=>⟨i a o,by obtain ⟨c,j⟩:=eW d o;exact ⟨_,c,j,by decide⟩⟩⟩
 obtain ⟨n,k,s,⟨f,g,d,e⟩|⟨f,m,r,F,g,d,e,i⟩|⟨f,g,m,r,C,d,e,i,E⟩⟩:=D;exact ⟨⟨n,_,_,d,by decide⟩,k,s,.inl ⟨f,⟨g,_,_,e,by decide⟩,d,e⟩⟩;exact ⟨⟨n,_,_,d,by decide⟩,k,s,.inr (.inl ⟨f,m,r,F,⟨g,by obtain ⟨c,j⟩:=eW e (b:=m) rfl;exact ⟨_,c,j,by decide⟩⟩,d,e,w i⟩)⟩;exact ⟨⟨n,_,_,i.tree,by decide⟩,k,s,.inr (.inr ⟨f,g,m,r,C,⟨d,by obtain ⟨c,j⟩:=eW i.row (b:=m) rfl;exact ⟨_,c,j,by decide⟩⟩,⟨e,_,_,i.blk,by decide⟩,i,w E⟩)⟩
def ShelfE (g:World) (own:Nat->Nat) (i:Nat) (f:Value) (j:List Nat) (c d:Nat):Prop:=
 ∃e:Nat->Nat,g.ownsRow i 157 3 f d (eC e c d)/\(∀a,f.ownBlock=some a->own a=2)/\∀b,b < d->TreeE g (fun a=>own a=TC c b) (e b) (aK j c b)
def ShelfE.keepW {e p:World} {b f:Nat} {own:Nat->Nat} {i:Array Value} {o:Value} {g:List Nat} {m n:Nat} (r:ShelfE e own f o g m n) (l:Keep (fun a=>a=b) e p) (k:Bk e b 154 i):ShelfE p own f o g m n:=by
 obtain ⟨q,s,t,u⟩:=r;refine ⟨q,aA s fun a x _ j=>l.bk j fun c=>?_,t,fun w v=>(u w v).keepT l fun a c=>?_⟩;have d:a=b:=c;subst d;exact absurd (aL j k).1 dC;have d:a=b:=c;subst d;exact ⟨_,i,k,.inl rfl⟩
def ShelfE.mono {c:World} {own k:Nat->Nat} {B B':Nat} {m:Value} {d:List Nat} {b j:Nat} (p:ShelfE c own B m d b j) (s:B'<=B) (i:∀a,a < c.heap.size->own a≠0->k a=own a):ShelfE c k B' m d b j:=by
 obtain ⟨n,f,q,r⟩:=p;refine ⟨n,cB f s,fun a g=>?_,fun l u=>(r l u).mono fun a t o=>?_⟩;have:=q a g;rw [i a (f.lt a g).2 oM];exact this;have e:own a=TC b l:=o;rw [i a t (by rw [e];unfold TC;omega)];exact e
structure RowsE (w:World) (own:Nat->Nat) (B gv:Nat) (S:Nat->Value) (L:List Nat) (lv:Nat):Prop where
 bnd:∀b,own b≠0->B<=b/\b < w.heap.size
 gv2:own gv=2
 rows:∀j,j < lv->ShelfE w own B (S j) L j (2 ^ j)
def aJe {b c f:Nat} (g:c<=b/\b < f):∀a,(if a=b then 2 else 0)≠0->c<=a/\a < f:=fun a e=>by
 by_cases d:a=b;subst d;exact g;rw [zBw d] at e;exact absurd rfl e
def yQ (own:Nat->Nat) (d:Nat) (e:Option Nat) (c b a:Nat):Nat:=if a < d then own a else if e=some a then 2 else if a < c then b else 0
def ShelfE.next {f i:World} {own:Nat->Nat} {o m d b:Nat} {s l:Value} {p:List Nat} {g:Nat->Nat} {H:Nat->Prop} (O:d < 9) (P:b < 2 ^ d) (F:f.ownsRow o 157 3 s b (eC g d b)) (A:∀a,s.ownBlock=some a->own a=2) (B:∀e,e < b->TreeE f (fun a=>own a=TC d e) (g e) (aK p d e))
 (D:∀a,own a≠0->a < f.heap.size) (J:Keep H f i) (C:∀a,H a->∃n u,Bk f a n u/\(n=154∨n=157)) (G:TreeE i (fun a=>f.heap.size<=a) m (aK p d b)) (y:i.ownsRow o 157 3 l (b+1) (eC g d b++ [.pointer (some m),.int .i64 (d:Int),.int .i64 (b:Int)]))
 (I:l.ownBlock=s.ownBlock∨∃r,l.ownBlock=some r/\f.heap.size<=r):ShelfE i (yQ own f.heap.size l.ownBlock i.heap.size (TC d b)) o l p d (b+1):=by
 have x:∀a,a < f.heap.size->yQ own f.heap.size l.ownBlock i.heap.size (TC d b) a=own a:=fun a c=>by unfold yQ;rw [zBx c]
 refine ⟨fun k=>if k=b then m else g k,?_,fun a c=>?_,fun e Q=>?_⟩;rw [iM,aAN (fun k=>if k=b then m else g k) g d b (fun k N=>zBw oM),zBx rfl];exact y
 · rcases I with j |⟨r,j,M⟩;rw [j] at c;rw [x a (F.lt a c).2];exact A a c
   · rw [j] at c;injection c with c;subst c;unfold yQ;rw [zBw oM,zBx j]
 show TreeE i _ (if e=b then m else g e) _;by_cases t:e=b;subst t;rw [zBx rfl];refine G.typed.mono fun a w q=>?_;obtain ⟨L,n,u,c,z⟩:=q;unfold yQ;rw [zBw oM,zBw (fun j=>?_),zBx w];obtain ⟨K,E⟩:=eW y j;rw [(aL c E).1] at z;revert z;decide;rw [zBw t];refine ((B e oM).keepT J C).mono fun a w q=>?_;have v:own a=TC d e:=q;have c:=D a (by rw [v];unfold TC;omega);rw [x a c];exact v
def aHP {own:Nat->Nat} {e d c f:Nat} {v:Option Nat} (k:∀a,own a≠0->f<=a/\a < e) (n:e<=d) (m:f<=e) (l:∀a,v=some a->a < d):∀a,yQ own e v d c a≠0->f<=a/\a < d:=fun a b=>by
 unfold yQ at b;by_cases g:a < e;rw [zBx g] at b;have:=k a b;exact ⟨this.1,by omega⟩;rw [zBw g] at b;by_cases i:v=some a;have:=l a i;exact ⟨by omega,this⟩;rw [zBw i] at b;by_cases j:a < d;exact ⟨by omega,j⟩;rw [zBw j] at b;exact absurd rfl b
def aBn (bD:Option Addr) (a0 c0 bH:Nat) (w:List Nat) (E:World) (br:Rd E bH 1 bD a0 (w.map sv)) (c3:bH<=E.heap.size) (al:a0<=128) (c4:∀N∈w,N < 257):
 Calls prog 192 #[.slice bD a0 c0] E fun m aW=>∃g own,m=.returned (.tuple #[.pointer (some ⟨g,0,none⟩),.int .i64 0])/\WaveE aW E.heap.size own g w/\Below E.heap.size E aW:=by
 have cl:w.length=a0:=by simpa using br.1
 obtain ⟨bW,bL,aq,bJ⟩:=hqq4 br c4 cl c3;obtain ⟨g,ch⟩:=eqx E.heap.size;obtain ⟨ai,aL⟩:=eqx (E.alloc (.cells #[.slice none 0 0,.slice none 0 0,.slice none 0 0,.slice none 0 0,.slice none 0 0,.slice none 0 0,.slice none 0 0,.slice none 0 0,.slice none 0 0,(a0:Int),.int .i64 0] 154));have ae:Bk ai g 154 (wcells (fun _=>.slice none 0 0) (a0:Int) 0):=by rw [<-aL,<-ch];have T:=Bk.new E 154 #[.slice none 0 0,.slice none 0 0,.slice none 0 0,.slice none 0 0,.slice none 0 0,.slice none 0 0,.slice none 0 0,.slice none 0 0,.slice none 0 0,(a0:Int),.int .i64 0];unfold wcells;exact T
 have c6:Below E.heap.size E ai:=by rw [<-aL];exact bR.alloc nL _
 obtain ⟨b0,aY,cE,aH⟩:=hqq4 ae c6 aL ch;clear br c4 cl ae c6 aL c3;go_enter func192,ntmps192;go_wp2_with fail;rw [cE.out]
 try rw [aH.out]
 go_loopw [20] (fun k wr=>∃u:Nat,u<=a0/\k=.int .i64 u/\Below ai.heap.size ai wr) (fun k _=>a0 -(intOf k).toNat)
 case atStart=>exact ⟨0,by omega,rfl,Below.refl _ _⟩
 case round=>
  obtain ⟨u,aS,rfl,l⟩:=hrel;have bt:=l.size;have cs:=aY.out.size;by_cases cm:u < a0
  · have dv:u < w.length:=(by rw [aq.out];exact cm);obtain ⟨N,ab⟩:∃N,w[u]?=some N:=⟨w[u],zAa dv⟩;obtain ⟨a,dS,e1,rfl,dp,ah,bf⟩:=(((bW.out.mono bJ.out).below aY.out).below (l.mono cs)).get cm;rw [zAf,ab] at ah;simp at ah;subst ah;have aC:N < 257:=bL.out N (zAd ab);unfold sv at bf;clear ab;go_wp2_with fail;refine (fE N _ aC).mono ?_;rintro m w1 ⟨rfl,dk⟩;have a2:=l.trans (dk.mono bt);go_wp2_with fail;go_roundw
    case rel=>exact ⟨u+1,by omega,by go_num,a2⟩
    case measure=>simp [intOf];omega
  · have dw:u=a0:=oM;subst dw;have bK:=lhd l;clear l;go_wp2_with fail;go_loopw [28] (fun k wr=>∃e:Nat,e<=9/\k=.int .i64 e/\Below E.heap.size E wr/\ai.heap.size<=wr.heap.size/\∃S kM,Bk wr g 154 (wcells S (u:Int) 0)/\RowsE wr kM E.heap.size g S w e/\(∀J,e<=J->S J=.slice none 0 0)) (fun k _=>9 -(intOf k).toNat)
    case atStart=>exact ⟨0,by omega,rfl,aY.out.trans (bK.out.mono cs),bt,_,fun a=>if a=g then 2 else 0,b0.out.below bK.out b0.out.lt,⟨aJe ⟨by have:=aH.out;omega,zAl b0.out.lt bt⟩,zBx rfl,fun J cj=>absurd cj oM⟩,fun J _=>rfl⟩
    case round=>
        obtain ⟨e,el,rfl,ae,dh,S,kM,aN,am,bn⟩:=hrel;by_cases aT:e < 9
        · obtain ⟨z,dj⟩:∃z,z=wr:=⟨_,rfl⟩;subst dj;obtain ⟨D,al⟩:=eqx (2 ^ e);have eo:D<=512:=(by rw [<-al];exact zAk (zBp dC (by omega:e<=9)) dC);have ep:=aHw D oM;have em:(2:Int)^ e=(D:Int):=(by rw [<-al];push_cast;rfl);obtain ⟨M,cg⟩:=eqx z.heap.size;obtain ⟨ad,aM⟩:∃ad,z.alloc (.cells (rowC (fun _=>.slice none 0 0) D) 175)=ad:=⟨_,rfl⟩;have cb:Bk ad M 175 (rowC (fun _=>.slice none 0 0) D):=(by rw [<-aM,<-cg];exact Bk.new _ _ _);have c9:=Bits.start ad z.heap.size M D cb;have c7:Below z.heap.size z ad:=(by rw [<-aM];exact bR.alloc nL _);obtain ⟨cI,cH,aG,ar,bS,ap,cF,cO,b2⟩:=hqq9 c9 c7 aN am bn ae aM cg al;clear c9 c7 aN am bn ae aM cb al;go_wp2_with fail;rw [cF.out];obtain ⟨dQ,ds,dN,dO,dP⟩:=info_parts oJ;have dq:decide ((e:Int) < 9)=true:=zBz oM;rw [dq];go_loopw [37] (fun k bB=>∃(J:Nat) (b8:Nat->Value),J<=u/\k=.int .i64 J/\Bits bB z.heap.size M D b8 (fun d=>aK (w.take J) e d)/\Below z.heap.size z bB/\ad.heap.size<=bB.heap.size) (fun k _=>u -(intOf k).toNat)
          case atStart=>exact ⟨0,_,by omega,rfl,by rw [List.take_zero];exact cI.out,cH.out,zAs _⟩
          case round=>
           obtain ⟨J,b8,cj,rfl,ay,a2,eu⟩:=hrel;have ct:=a2.size;by_cases ck:J < u
           · have du:J < w.length:=(by rw [aq.out];exact ck);obtain ⟨N,ab⟩:∃N,w[J]?=some N:=⟨w[J],zAa du⟩;have bd:Below E.heap.size E wr:=ap.out.trans (a2.mono ap.out.size);obtain ⟨e5,dS,e1,rfl,dp,ah,bf⟩:=((bW.out.mono bJ.out).below bd).get ck;rw [zAf,ab] at ah;simp at ah;subst ah;have aC:N < 257:=bL.out N (zAd ab);have cv:w.take (J+1)=w.take J++ [N]:=(by rw [zAv,ab];rfl);have dJ:(w.take J).length<=128:=(by rw [zAj];omega);unfold sv at bf;obtain ⟨aZ,cD,ac⟩:=hqq3 ay cv a2;have ei:=bd;clear ab ay cv a2 bd;go_wp2_with fail;refine (kK N e _ aC oM).mono ?_;rintro m w1 ⟨rfl,W⟩;obtain ⟨d,a3⟩:=eqx (bE N e);rw [a3];have ag:d < D:=(by rw [<-b2.out,<-a3];exact lM N e aC oM);have dz:(d:Int) < (D:Int):=oM;have az:=aZ.out.below W;obtain ⟨Q,a4⟩:=eqx (aK (w.take J) e d);obtain ⟨r,aa⟩:=eqx Q.length;have co:r<=128:=(by rw [<-aa,<-a4,iU];exact zAk zBh dJ);have U:=az.own d ag;simp only [a4,aa] at U;obtain ⟨K,L,a8,cp,_⟩:=aQ U;have ba:=U.lt;rw [a8] at U ba;have cB:z.heap.size<=w1.heap.size:=zAk ct W.size;have bz:(Value.slice K r L).ownBlock≠some M:=fun m=>bF U az.blk dC m.symm;have aO:=az.blk;have bg:w1.cell? ⟨M,d,none⟩=some (.slice K r L):=(by rw [<-a8];exact (aO.cell d).trans (mU _ _ _ ag));have bi:=aO.lt;obtain ⟨a,c8⟩:=eqx (gG N e);obtain ⟨bO,b3,cL,cJ,cS,b4,cT,bM,bQ⟩:=hqq9 c8 U aO az a3 a4 aa a8 bg;have ao:=lhd W;clear c8 U aO az a3 a4 aa a8 bg W;go_wp2_with fail;refine wp_region_any kR ?_;refine cV 12 [44,45,46,47,48,49,50,51,52,53,54,55] (fun a=>(Value.slice K r L).ownBlock=some a) 10 [10] (fun t=>t.ownsRow z.heap.size 4 1 (.slice K r L) r (Q.map Value.bool)) (fun o t=>t.ownsRow z.heap.size 4 1 o (r+1) (Q.map Value.bool++ [.bool a])/\(o.ownBlock=(Value.slice K r L).ownBlock∨∃y,o.ownBlock=some y/\w1.heap.size<=y)) [is (.slice (some ⟨M,0,none⟩) D D),is (d:Int),is (.slice (some ⟨M,0,none⟩) D D),is (d:Int),is (.pointer (some ⟨M,d,none⟩)),is (.slice K r L),is (N:Int),is (e:Int),is (.bool a),qS (fun a=>(Value.slice K r L).ownBlock=some a) 4 #[.bool a] fun y=>.slice (some ⟨y,0,none⟩) 1 1,dA,is (.pointer (some ⟨M,d,none⟩))] _ _ rfl dC kR kR kR (b3.out) (fun t e3 T _ bh=>aR T bh) (fun _ _ _ ⟨a6,a7⟩ u=>⟨aR a6 u,a7⟩) tA3 ?_ ?_
             · refine bG ?_;refine pH3 8 (.slice (some ⟨M,0,none⟩) D D) ?_;refine pH3 11 (.int .i64 (d:Int)) ?_;refine pH3 8 (.slice (some ⟨M,0,none⟩) D D) ?_;refine pH3 11 (.int .i64 (d:Int)) ?_;refine pW3 2 46 3 47 ?_;refine pL3 4 48 (fun q j=>have j:Keep (fun a=>(Value.slice K r L).ownBlock=some a) w1 q:=kD j;((j.cell (p:=⟨M,d,none⟩) bi bz).trans bQ.out:q.cell? ⟨M,d,none⟩=some (.slice K r L))) ?_;refine pH3 10 (.int .i64 (N:Int)) ?_;refine pH3 7 (.int .i64 (e:Int)) ?_;refine sC3 (fun _ q _ _ _ _ _ x _ _ _ P=>?_) ?_
               · have e8:_=_:=x 6 50 kR rfl;have e9:_=_:=x 7 51 kR rfl;go_simp;refine (mB N e q aC aT).mono ?_;rintro m e4 ⟨rfl,be⟩;rw [bO.out];exact P _ _ (aJ be) rfl
               refine sC3 (fun _ q j _ _ _ _ x _ _ _ P=>?_) ?_
               · replace j:Keep (fun a=>(Value.slice K r L).ownBlock=some a) w1 q:=kD j;have ea:_=_:=x 8 52 kR rfl;go_simp;exact P _ _ (aJ (bR.alloc nL _)) ⟨_,rfl,Bk.new _ _ _,fun T=>by have:=(ba _ T).2;have:=j.size;omega⟩
               refine sC3 (fun R q j bb _ _ _ x _ _ bc P=>?_) ?_;replace j:Keep (fun a=>(Value.slice K r L).ownBlock=some a) w1 q:=kD j;have bp:=bb rfl;have cZ:_=_:=x 5 49 kR rfl;have dU:(qS (fun a=>(Value.slice K r L).ownBlock=some a) 4 #[.bool a] fun y=>.slice (some ⟨y,0,none⟩) 1 1) (R (.tmp 53)) q:=x 9 53 kR rfl;obtain ⟨d7,d0,dl,eq⟩:=dU;subst bc;have bv:z.heap.size<=q.heap.size:=zAk cB j.size;have dM:=j.size;refine eT q (.tmp 49) (.tmp 53) _ rfl z.heap.size 4 dQ (.bool false) 1 1 underlying175 ds dN dO dP rfl dC (.slice K r L) r (Q.map Value.bool) cZ bp q.heap.size (some ⟨d7,0,none⟩) 1 1 [.bool a] d0 (aD7 dl) (by simp [Value.oneCell']) (by unfold maxLen;omega) oM bv ?_;intro e2 s X Z a1;refine P _ _ (aU ⟨Z.os,Z.tape,Z.output,Z.size,fun u aS bm=>Z.block u aS (fun m=>bm m.symm)⟩) ⟨X,?_⟩;rcases a1 with b9 | b9;exact .inl b9;exact .inr ⟨_,b9,dM⟩;refine pW3 0 44 1 45 ?_;exact aD
             · intro R s C j x;replace j:Keep (fun a=>(Value.slice K r L).ownBlock=some a) w1 s:=kD j;have dV:(fun o t=>t.ownsRow z.heap.size 4 1 o (r+1) (Q.map Value.bool++ [.bool a])/\(o.ownBlock=(Value.slice K r L).ownBlock∨∃y,o.ownBlock=some y/\w1.heap.size<=y)) (R (.tmp 54)) s:=x 10 54 dC rfl;have d2:R (.tmp 55)=.pointer (some ⟨M,d,none⟩):=x 11 55 dC rfl;simp only [zqq];rw [d2];clear x;obtain ⟨X,a1⟩:=dV;have bq:=Bits.push (v:=R (.tmp 54)) (b:=a) cJ.out ag (by rw [bM.out];exact j) (by simp only [b4.out,cT.out];exact X) (by rw [bM.out];exact a1);obtain ⟨G,I,d1,_,_⟩:=aQ X;rw [d1] at bq⊢;have a9:=j.bk cL.out bz;have e6:s.cell? ⟨M,d,none⟩=some (.slice K r L):=(j.cell (p:=⟨M,d,none⟩) bi bz).trans bQ.out;have eg:=a9.frozen d;have bV:=lhd bq;have ej:=a9.lt;clear bq a9 X a1;change wpAny prog Region.Mode.any _ _ (1+C) (bX 12 13) _ s;rw [zCs 1 C];refine bC (f:=C) (i:=12) kR ?_;refine bN rfl rfl ?_;generalize P:wpAny prog _ _ _ C _=b7;go_simp;subst P;refine bT kR ?_
               have dm:Below z.heap.size z (s.setCell ⟨M,d,none⟩ (.slice G (r+1) I)):=
                  ((ac.out.trans (ao.out.mono ct)).trans (j.to_below cB (fun a l T=>by have:=(ba _ T).1;omega))).setCell (by rw [cO.out];exact zAs _) _
               have dD:ad.heap.size<=(s.setCell ⟨M,d,none⟩ (.slice G (r+1) I)).heap.size:=by have a6:=ao.out.size;have a7:=j.size;have aw:(s.setCell ⟨M,d,none⟩ (.slice G (r+1) I)).heap.size=s.heap.size:=(by simp [World.setCell]);omega
               have cc:=bV.out.congr (R':=fun bA=>aK (w.take (J+1)) e bA) (fun bA es=>by
                  rw [cD.out,aGE,cS.out,bO.out];by_cases m:bA=d
                  · subst m;simp
                  · simp [m])
               have cM:=lhd cc;clear cc bV;go_wp2_with fail;go_roundw
               case rel=>exact ⟨J+1,_,by omega,by go_num,cM.out,dm,dD⟩
               case measure=>simp [intOf];omega
           · have dt:J=u:=oM;subst dt;have de:w.take J=w:=zAg (by rw [aq.out];omega);rw [de] at ay;have aZ:=lhd ay;obtain ⟨V,dg⟩:∃V,V=wr:=⟨_,rfl⟩;subst dg;have dL:E.heap.size<=V.heap.size:=zAk ap.out.size a2.size;have ac:=lhd a2;clear ay a2;obtain ⟨dR,d9,da,db,dc⟩:=info_parts aDY;go_wp2_with fail;go_loopw [59] (fun k an=>∃(d:Nat) (o:Value),d<=D/\k=.int .i64 d/\Bits an z.heap.size M D b8 (fun d=>aK w e d)/\Keep (fun a=>a=g) z an/\V.heap.size<=an.heap.size/\Bk an g 154 (wcells (fun k=>if k=e then o else S k) (J:Int) 0)/\∃a5:Nat->Nat,(∀a,a < z.heap.size->a5 a=kM a)/\(∀a,a5 a≠0->E.heap.size<=a/\a < an.heap.size)/\ShelfE an a5 V.heap.size o w e d) (fun k _=>D -(intOf k).toNat)
             case atStart=>
              refine ⟨0,.slice none 0 0,by omega,rfl,aZ.out,(Keep.of_below ac.out),zAs _,?_,kM,fun _ _=>rfl,fun a l=>⟨(ar.out.bnd a l).1,zAl (ar.out.bnd a l).2 ac.out.size⟩,(fun _=>0),World.ownsRow_nil _ _ _ _,fun a l=>(by cases l),fun d a3=>absurd a3 oM⟩
              have df:(fun k=>if k=e then Value.slice none 0 0 else S k)=S:=by
                  funext k;by_cases m:k=e
                  · rw [zBx m,m,bS.out e nL]
                  · rw [zBw m]
              rw [df];exact aG.out.below ac.out aG.out.lt
             case round=>
              obtain ⟨d,o,a3,rfl,aj,ak,cr,W,a5,aB,aP,bs⟩:=hrel;by_cases ag:d < D
              · have U:=aj.own d ag;obtain ⟨Q,a4⟩:=eqx (aK w e d);obtain ⟨r,aa⟩:=eqx Q.length;have co:r<=128:=(by rw [<-aa,<-a4,iU];exact zAk zBh (by rw [aq.out];exact al));simp only [a4,aa] at U;obtain ⟨K,L,a8,cp,_⟩:=aQ U;rw [a8] at U;have bg:wr.cell? ⟨M,d,none⟩=some (.slice K r L):=(by rw [<-a8];exact (aj.blk.cell d).trans (mU _ _ _ ag));obtain ⟨aF,af,cx,cw⟩:=bs;obtain ⟨A,B,dK,et,_⟩:=aQ af;subst dK;have ax:=af.lt;have bj:(Value.slice A d B).ownBlock≠some g:=fun m=>bF af W dC m.symm;have cd:∀Y,157≠Y->∀a O,Bk wr a Y O->(Value.slice A d B).ownBlock≠some a:=fun Y bu a O l m=>bF af l bu m.symm;have cf:∀a,(Value.slice A d B).ownBlock=some a->∃Y O,Bk wr a Y O/\(Y=154∨Y=157):=fun a l=>by obtain ⟨O,T⟩:=eW af l;exact ⟨_,O,T,.inr rfl⟩
                have c1:wr.cell? ⟨g,e,none⟩=some (.slice A d B):=(W.cell e).trans (by rw [sL _ _ _ _ aT,zBx rfl]);have ci:=W.lt;have bi:=aj.blk.lt;have en:d+1<=512:=oM;have dz:(d:Int) < (D:Int):=oM;have ev:=ac.out.size;obtain ⟨b3,bU,cW,cX,cQ,bP,b1,cN,bI⟩:=hqq9 U af cw cx aB aP cd cf c1;obtain ⟨ao,cP,cK,b4⟩:=hqq4 W ak aj a4;clear U af cw cx aB aP cd cf c1 W ak aj a4 a8 aa;go_wp2_with fail;refine wp_region_any kR ?_;refine cV 18 [64,65,66,67,68,69,70,71,72,73,74,75,76,77,78,79,80,81] (fun a=>(Value.slice A d B).ownBlock=some a) 14 [14] (fun t=>t.ownsRow V.heap.size 157 3 (.slice A d B) d (eC aF e d)) (fun o t=>∃n,TreeB t wr.heap.size n Q/\t.ownsRow V.heap.size 157 3 o (d+1) (eC aF e d++ [.pointer (some ⟨n,0,none⟩),.int .i64 (e:Int),.int .i64 (d:Int)])/\(o.ownBlock=(Value.slice A d B).ownBlock∨∃y,o.ownBlock=some y/\wr.heap.size<=y)) [is (.pointer (some ⟨g,0,none⟩)),is (e:Int),is (.pointer (some ⟨g,0,none⟩)),is (e:Int),is (.pointer (some ⟨g,0,none⟩)),is (.pointer (some ⟨g,0,none⟩)),is (.pointer (some ⟨g,e,none⟩)),is (.slice A d B),is (.slice K r L),fun o t=>∃n,o=.pointer (some ⟨n,0,none⟩)/\TreeB t wr.heap.size n Q,is (e:Int),is (d:Int),fun o t=>∃n,o=.agg #[.pointer (some ⟨n,0,none⟩),(e:Int),(d:Int)]/\TreeB t wr.heap.size n Q,fun o t=>∃y n,o=.slice (some ⟨y,0,none⟩) 1 1/\Bk t y 157 #[.pointer (some ⟨n,0,none⟩),(e:Int),(d:Int)]/\(Value.slice A d B).ownBlock≠some y/\TreeB t wr.heap.size n Q,dA,is (.pointer (some ⟨g,0,none⟩)),is (.pointer (some ⟨g,0,none⟩)),is (.pointer (some ⟨g,e,none⟩))] _ _ rfl dC kR kR kR (bU.out) (fun t e3 T _ bh=>aR T bh) (fun _ _ _ ⟨n,a6,a7,aw⟩ u=>⟨n,a6.below u,aR a7 u,aw⟩) (by repeat' (first | exact jZ _ _ | exact iL _ | exact fun _ _ _ ⟨n,a6,a7⟩ u=>⟨n,a6,a7.keep u (fun a l=>(ax a l).2)⟩| exact fun _ _ _ ⟨y,n,a6,a7,aw,dd⟩ u=>⟨y,n,a6,u.bk a7 aw,aw,dd.keep u (fun a l=>(ax a l).2)⟩|(refine zAe.2 ⟨?_,?_⟩)|(intro d a3;cases a3))) ?_ ?_
                · refine bG ?_;refine pH3 4 (.pointer (some ⟨g,0,none⟩)) ?_;refine pH3 7 (.int .i64 (e:Int)) ?_;refine pH3 4 (.pointer (some ⟨g,0,none⟩)) ?_;refine pH3 7 (.int .i64 (e:Int)) ?_;refine pV3 2 66 ?_;refine pV3 4 68 ?_;refine pW3 5 69 3 67 ?_;refine pL3 6 70 (fun q j=>have j:Keep (fun a=>(Value.slice A d B).ownBlock=some a) wr q:=kD j;((j.cell (p:=⟨g,e,none⟩) ci bj).trans bI.out:q.cell? ⟨g,e,none⟩=some (.slice A d B))) ?_;refine pH3 13 (.slice K r L) ?_;refine sC3 (fun _ q j _ _ _ _ x _ _ _ P=>?_) ?_
                  · replace j:Keep (fun a=>(Value.slice A d B).ownBlock=some a) wr q:=kD j;have eb:_=_:=x 8 72 kR rfl;go_simp;have dT:=aA b3.out (fun a O l ca=>j.bk ca (b1.out _ dC a O ca));refine (aC1 K r L q.heap.size Q q (Rd.of_own dT) nL co cp).mono ?_;rintro m e4 ⟨n,rfl,dI,be⟩;exact P _ _ (aJ be) ⟨n,rfl,dI.mono j.size⟩
                  refine pH3 7 (.int .i64 (e:Int)) ?_;refine pH3 12 (.int .i64 (d:Int)) ?_;refine sC3 (fun R q _ _ _ _ _ x _ _ _ P=>?_) ?_
                  · have dW:(fun o t=>∃n,o=.pointer (some ⟨n,0,none⟩)/\TreeB t wr.heap.size n Q) (R (.tmp 73)) q:=x 9 73 kR rfl;have ed:_=_:=x 10 74 kR rfl;have ee:_=_:=x 11 75 kR rfl;obtain ⟨n,ec,dF⟩:=dW;go_simp;exact P _ _ (aJ bR) ⟨n,rfl,dF⟩
                  refine sC3 (fun R q j _ _ _ _ x _ _ _ P=>?_) ?_
                  · replace j:Keep (fun a=>(Value.slice A d B).ownBlock=some a) wr q:=kD j;have dX:(fun o t=>∃n,o=.agg #[.pointer (some ⟨n,0,none⟩),(e:Int),(d:Int)]/\TreeB t wr.heap.size n Q) (R (.tmp 76)) q:=x 12 76 kR rfl;obtain ⟨n,ef,dG⟩:=dX;go_simp;exact P _ _ (aJ (bR.alloc nL _)) ⟨_,n,rfl,Bk.new _ _ _,fun T=>by have:=(ax _ T).2;have:=j.size;omega,dG.below (bR.alloc nL _)⟩
                  refine sC3 (fun R q j bb _ _ _ x _ _ bc P=>?_) ?_;replace j:Keep (fun a=>(Value.slice A d B).ownBlock=some a) wr q:=kD j;have bp:=bb rfl;have d3:_=_:=x 7 71 kR rfl;have dY:(fun o t=>∃y n,o=.slice (some ⟨y,0,none⟩) 1 1/\Bk t y 157 #[.pointer (some ⟨n,0,none⟩),(e:Int),(d:Int)]/\(Value.slice A d B).ownBlock≠some y/\TreeB t wr.heap.size n Q) (R (.tmp 77)) q:=x 13 77 kR rfl;obtain ⟨d8,n,d4,dn,er,dH⟩:=dY;subst bc;have bv:V.heap.size<=q.heap.size:=zAk cr j.size;refine eT q (.tmp 71) (.tmp 77) _ rfl V.heap.size 157 dR _ 3 24 underlying151 d9 da db dc rfl dC (.slice A d B) d (eC aF e d) d3 bp q.heap.size (some ⟨d8,0,none⟩) 1 1 _ d4 (vW dn rfl) (by simp [Value.oneCell']) (by unfold maxLen;omega) oM bv ?_;intro e2 s X Z a1;have cy:Keep (fun a=>(Value.slice A d B).ownBlock=some a) q s:=⟨Z.os,Z.tape,Z.output,Z.size,fun u aS bm=>Z.block u aS (fun m=>bm m.symm)⟩;exact P _ _ (aU cy) ⟨n,dH.keep cy (fun a l=>(ax a l).2),X,a1.elim .inl fun m=>.inr ⟨_,m,j.size⟩⟩;refine pV3 0 64 ?_;refine pV3 15 79 ?_;refine pW3 16 80 1 65 ?_;exact aD
                · intro R s C j x;replace j:Keep (fun a=>(Value.slice A d B).ownBlock=some a) wr s:=kD j;have dZ:(fun o t=>∃n,TreeB t wr.heap.size n Q/\t.ownsRow V.heap.size 157 3 o (d+1) (eC aF e d++ [.pointer (some ⟨n,0,none⟩),.int .i64 (e:Int),.int .i64 (d:Int)])/\(o.ownBlock=(Value.slice A d B).ownBlock∨∃y,o.ownBlock=some y/\wr.heap.size<=y)) (R (.tmp 78)) s:=x 14 78 dC rfl;have d6:R (.tmp 81)=.pointer (some ⟨g,e,none⟩):=x 17 81 dC rfl;simp only [zqq];rw [d6];clear x;obtain ⟨n,cu,X,a1⟩:=dZ;obtain ⟨G,I,d5,_,_⟩:=aQ X;rw [d5] at X a1⊢;have cG:=lhd a1;clear a1;have a9:=j.bk ao.out bj;have e7:s.cell? ⟨g,e,none⟩=some (.slice A d B):=(j.cell (p:=⟨g,e,none⟩) ci bj).trans bI.out;have eh:=a9.frozen e;obtain ⟨aX,cR,cU⟩:=hqq3 a9 X cu;have ek:=a9.lt;clear a9 X cu;change wpAny prog Region.Mode.any _ _ (1+C) (bX 18 19) _ s;rw [zCs 1 C];refine bC (f:=C) (i:=18) kR ?_;refine bN rfl rfl ?_;generalize P:wpAny prog _ _ _ C _=b7;go_simp;subst P;refine bT kR ?_;have aE:Keep (fun a=>a=g) s (s.setCell ⟨g,e,none⟩ (.slice G (d+1) I)):=Keep.setCell (F:=fun a=>a=g) (Keep.refl _ _) (p:=⟨g,e,none⟩) (.inl rfl) _;have aV:∀Y,154≠Y->∀a O,Bk s a Y O->Bk (s.setCell ⟨g,e,none⟩ (.slice G (d+1) I)) a Y O:=fun Y bu a O l=>l.far (fun m=>Bk.ne aX.out l bu m.symm) _;have cz:Keep (fun a=>a=g) z (s.setCell ⟨g,e,none⟩ (.slice G (d+1) I)):=(cP.out.trans' j (fun a l C=>by have:=(ax a C).1;omega)).trans aE;have bY:=cK.out.same (w':=s.setCell ⟨g,e,none⟩ (.slice G (d+1) I)) (fun a O l=>aV _ dC _ _ (j.bk l (b1.out _ dC a O l))) (fun a O l=>aV _ dC _ _ (j.bk l (b1.out _ dC a O l)));have aI:=aX.out.set e (.slice G (d+1) I);rw [aDK _ _ _ e aT] at aI
                  have c2:(fun bw=>if bw=e then Value.slice G (d+1) I else if bw=e then Value.slice A d B else S bw)=(fun k=>if k=e then Value.slice G (d+1) I else S k):=by
                     funext k;by_cases m:k=e
                     · rw [zBx m,zBx m]
                     · rw [zBw m,zBw m,zBw m]
                  rw [c2] at aI;have bx:Keep (fun a=>(Value.slice A d B).ownBlock=some a∨a=g) wr (s.setCell ⟨g,e,none⟩ (.slice G (d+1) I)):=(j.mono fun a _ C=>.inl C).trans (aE.mono fun a _ C=>.inr C);have dE:s.heap.size=(s.setCell ⟨g,e,none⟩ (.slice G (d+1) I)).heap.size:=(by simp [World.setCell]);have bo:=aA (w':=s.setCell ⟨g,e,none⟩ (.slice G (d+1) I)) cR.out fun a O _ l=>aV _ dC _ _ l;have cC:ShelfE (s.setCell ⟨g,e,none⟩ (.slice G (d+1) I)) (yQ a5 wr.heap.size (Value.slice G (d+1) I).ownBlock (s.setCell ⟨g,e,none⟩ (.slice G (d+1) I)).heap.size (TC e d)) V.heap.size (.slice G (d+1) I) w e (d+1):=(by refine ShelfE.next (H:=fun a=>(Value.slice A d B).ownBlock=some a∨a=g) aT (by rw [b2.out];exact ag) bU.out cX.out cW.out (fun a l=>(bP.out a l).2) bx (fun a C=>?_) ?_ bo cG.out;rcases C with C | C;exact cN.out a C;subst C;exact ⟨_,_,ao.out,.inl rfl⟩;rw [b4.out];exact cU.out.own.keepT aE fun a m=>⟨_,_,(show a=g from m)▸ aX.out,.inl rfl⟩);have cA:∀a,a < z.heap.size->yQ a5 wr.heap.size (Value.slice G (d+1) I).ownBlock (s.setCell ⟨g,e,none⟩ (.slice G (d+1) I)).heap.size (TC e d) a=kM a:=fun a l=>by unfold yQ;rw [zBx (by have:=ac.out.size;omega)];exact cQ.out a l
                  have bZ:=aHP (v:=(Value.slice G (d+1) I).ownBlock) (c:=TC e d) bP.out bx.size oM (fun a l=>(bo.lt a l).2);obtain ⟨b7,cY⟩:=hqq2 cA bZ;clear cA bZ bo bx dE;have e0:V.heap.size<=(s.setCell ⟨g,e,none⟩ (.slice G (d+1) I)).heap.size:=zAk cr (zAk j.size aE.size);obtain ⟨au,av,b5,b6⟩:=hqq4 cz bY aI cC;clear aE aV cz bY aI cC c2;go_wp2_with fail;go_roundw
                  case rel=>exact ⟨d+1,_,by omega,by go_num,av.out,au.out,e0,b5.out,_,b7.out,cY.out,b6.out⟩
                  case measure=>simp [intOf];omega
              · have dB:d=D:=oM;subst dB;have c5:Below E.heap.size E wr:=ap.out.trans (ak.to_below ap.out.size (fun a l m=>by have:=aH.out;omega));have di:ai.heap.size<=wr.heap.size:=zAk dh ak.size;have cq:RowsE wr a5 E.heap.size g (fun k=>if k=e then o else S k) w (e+1):=(by have dr:g < z.heap.size:=aG.out.lt;refine ⟨aP,by rw [aB g dr];exact ar.out.gv2,fun k bl=>?_⟩;show ShelfE wr a5 E.heap.size (if k=e then o else S k) w k (2 ^ k);by_cases m:k=e;subst m;rw [zBx rfl,b2.out];exact bs.mono dL fun _ _ _=>rfl;rw [zBw m];exact ((ar.out.rows k oM).keepW ak aG.out).mono nL fun a _ dy=>aB a (ar.out.bnd a dy).2);have cn:∀k,e+1<=k->(if k=e then o else S k)=.slice none 0 0:=(by intro k bl;rw [zBw oM];exact bS.out k oM);obtain ⟨au,av,b5,b6⟩:=hqq4 c5 cq cn W;clear c5 cq cn W aj ak bs aB aP;go_wp2_with fail;go_roundw
                case rel=>exact ⟨e+1,by omega,by go_num,au.out,di,_,a5,b6.out,av.out,b5.out⟩
                case measure=>simp [intOf];omega
        · have dx:e=9:=oM;subst dx;have ce:WaveE wr E.heap.size kM g w:=⟨S,0,by rw [aq.out];exact aN,⟨by have:=aH.out;omega,am.gv2⟩,fun k bl=>am.rows k bl,am.bnd⟩;obtain ⟨au,av⟩:=hqq2 ce ae;clear ce ae aN am bn;go_wp2_with fail;go_ret2;exact ⟨g,kM,rfl,au.out,av.out⟩
def lW (a b:Nat) (e:a < 4294967296) (f:b < 4294967296):bits .xor .u32 (a:Int) (b:Int)=((a ^^^ b:Nat):Int):=by
 have g:a ^^^ b < 2 ^ 32:=Nat.xor_lt_two_pow oM oM;have c:(BitVec.ofInt 32 (a:Int)).toNat=a:=by rw [BitVec.ofInt_natCast,BitVec.toNat_ofNat];exact zBu oM
 have d:(BitVec.ofInt 32 (b:Int)).toNat=b:=by rw [BitVec.ofInt_natCast,BitVec.toNat_ofNat];exact zBu oM
 show IntKind.u32.wrap ((BitVec.ofInt 32 (a:Int)^^^ BitVec.ofInt 32 (b:Int)).toNat:Int)=_;rw [BitVec.toNat_xor,c,d,IntKind.wrap_u32];omega
def aCP (a b:Nat) (e:a < 256) (f:b < 256):bits .xor .u8 (a:Int) (b:Int)=((a ^^^ b:Nat):Int):=by
 have g:a ^^^ b < 2 ^ 8:=Nat.xor_lt_two_pow oM oM;have c:(BitVec.ofInt 8 (a:Int)).toNat=a:=by rw [BitVec.ofInt_natCast,BitVec.toNat_ofNat];exact zBu oM
 have d:(BitVec.ofInt 8 (b:Int)).toNat=b:=by rw [BitVec.ofInt_natCast,BitVec.toNat_ofNat];exact zBu oM
 show IntKind.u8.wrap ((BitVec.ofInt 8 (a:Int)^^^ BitVec.ofInt 8 (b:Int)).toNat:Int)=_;rw [BitVec.toNat_xor,c,d,IntKind.wrap_u8];omega
def aBm (a:Nat) (d:a < 4294967296):bits .and .u32 (a:Int) 1=((a % 2:Nat):Int):=by
 have b:(BitVec.ofInt 32 (a:Int)).toNat=a:=by rw [BitVec.ofInt_natCast,BitVec.toNat_ofNat];exact zBu oM
 show IntKind.u32.wrap ((BitVec.ofInt 32 (a:Int)&&& BitVec.ofInt 32 (1:Int)).toNat:Int)=_;rw [BitVec.toNat_and,b];have c:(BitVec.ofInt 32 (1:Int)).toNat=1:=dC;rw [c,IntKind.wrap_u32,Nat.and_one_is_mod];omega
def aDE (a:Nat) (i:a < 4294967296) (d:World):
 Calls prog 207 #[.int .u32 (a:Int),.bool false] d fun e j=>e=.returned (.int .u32 ((lV a:Nat):Int))/\Below d.heap.size d j:=by
 have k:=aBm a i;go_enter func207,ntmps207;go_wp2_with fail
 · go_ret;refine ⟨?_,Below.refl _ _⟩
   rename_i b
   have c:a % 2=1:=(by have:=eq_of_beq b;omega);have f:((a:Int)/ 2)=((a / 2:Nat):Int):=oM;have g:(3988292384:Int)=((3988292384:Nat):Int):=rfl;show Ending.returned (Value.int .u32 (bits .xor .u32 ((a:Int)/ 2) 3988292384))=_;rw [f,g,lW _ _ oM oM,lV,zBx c]
 · go_ret;refine ⟨?_,Below.refl _ _⟩
   rename_i b
   have c:¬a % 2=1:=(by intro l;have:((a:Int)% 2==1)=true:=zCq.2 oM;rw [this] at b;cases b);show Ending.returned (Value.int .u32 ((a:Int)/ 2))=_;rw [lV,zBw c];rfl
def yN (b c:Nat):Nat->Nat:=fun a=>if a < b then jR a else if a=b then c else 0
def aHb (b f e:Nat):(fun c=>if c=b then e else yN b f c)=yN b e:=by
 funext c;unfold yN;by_cases a:c=b
 · rw [zBx a,zBw oM,zBx a]
 · rw [zBw a];by_cases d:c < b
   · rw [zBx d,zBx d]
   · rw [zBw d,zBw d,zBw a,zBw a]
def aFO (a:Nat):yN a (jR a)=yN (a+1) 0:=by
 funext p;unfold yN;by_cases b:p < a
 · rw [zBx b,zBx oM]
 · rw [zBw b];by_cases c:p=a
   · subst c;rw [zBx rfl,zBx oM]
   · rw [zBw c,zBw oM];split <;> rfl
@[irreducible] def crcC:Array Value:=jX .u32 256 jR
@[irreducible] def tabC (a d:Nat):Array Value:=jX .u32 256 (yN a d)
def aB2 {a d b:Nat} (c:a < 256):(tabC a d).setIfInBounds a (.int .u32 (b:Int))=tabC a b:=by
 unfold tabC;rw [lB c,aHb]
def vI {a b:Nat} (c:a < 256):(tabC a b)[a]?=some (.int .u32 (b:Int)):=by
 unfold tabC;rw [fY c];unfold yN;rw [zBw oM,zBx rfl]
def aFQ (a:Nat):tabC a (rJ 8 a)=tabC (a+1) 0:=by
 unfold tabC;rw [<-aFO];rfl
def zY:Array.replicate 256 (Value.int .u32 0)=tabC 0 0:=by
 unfold tabC;rw [oK];exact dJ fun b a=>by unfold yN;rw [zBw oM];split <;> rfl
def aHc (b:Nat):tabC 256 b=crcC:=by
 unfold tabC crcC;exact dJ fun c a=>by unfold yN;rw [zBx a]
def aIr {a:Nat} (b:a < 256):crcC[a]?=some (.int .u32 ((jR a:Nat):Int)):=by
 unfold crcC;exact fY b
def oI:crcC.size=256:=by unfold crcC;exact lA _ _ _
def aFP (a b:Nat):(tabC a b).size=256:=by unfold tabC;exact lA _ _ _
def aFM {b a:World} {d:Array Value} {c:Nat} (j:d.getD 0 undef=.pointer (some c)) (g:Bk a c 196 crcC) (k:(prog.info? 196).map (·.size)=some crcC.size) (i:Below b.heap.size b a):
 bodyPost prog f162 (fun e a=>e=.returned (.agg crcC)/\Below b.heap.size b a) .ret ⟨d, []⟩ a:=
 bodyPost_ret (results_cell_row (P:=prog) (fn:=f162) (p:=0) (ty:=196) rfl d a c 196 crcC (0,0) _ j g underlying196 rfl k) rfl ⟨rfl,i⟩
def aJJ (a:Nat) (d:a < 4294967296):bits .xor .u32 IntKind.u32.max (a:Int)=((4294967295 - a:Nat):Int):=by
 have b:IntKind.u32.max=((4294967295:Nat):Int):=dC;rw [b,lW _ _ oM d];congr 1;have c:(4294967295:Nat)^^^ a=(BitVec.allOnes 32 ^^^ BitVec.ofNat 32 a).toNat:=by rw [BitVec.toNat_xor,BitVec.toNat_ofNat,zBu (by omega:a < 2 ^ 32)];rfl
 rw [c,BitVec.allOnes_xor,BitVec.toNat_not,BitVec.toNat_ofNat,zBu (by omega:a < 2 ^ 32)]
def aBS (b:World):
 Calls prog 162 #[] b fun t C=>t=.returned (.agg crcC)/\Below b.heap.size b C:=by
 go_enter func162,ntmps162;go_wp2_with fail;go_loopw [3] (fun d wr=>∃(a:Nat) (j:Nat),a<=256/\d=.int .i64 (a:Int)/\Bk wr b.heap.size 196 (tabC 0 0)/\Bk wr (b.heap.size+1) 196 (tabC a j)/\(a < 256->j=0)/\Below b.heap.size b wr) (fun d _=>256 -(intOf d).toNat)
 case atStart=>refine ⟨0,0,by omega,rfl,?_,?_,fun _=>rfl,?_⟩;rw [<-zY];exact (Bk.new _ _ _).alloc _;rw [<-zY];have u:=Bk.new (b.alloc (.cells Tryz.zeroCells196 196)) 196 Tryz.zeroCells196;rw [show (b.alloc (.cells Tryz.zeroCells196 196)).heap.size=b.heap.size+1 by simp] at u;exact u;exact (bR.alloc nL _).alloc (by simp) _
 case round=>
  obtain ⟨a,j,M,rfl,l,e,i,v⟩:=hrel;by_cases f:a < 256
  · have B:=i f;subst B;have J:((a:Int) < 256):=oM;have E:wr.cell? ⟨b.heap.size+1,a,none⟩=some (.int .u32 0):=(e.cell a).trans (vI f);have H:=e.frozen a;go_wp2_with fail;go_loopw [10] (fun d r=>∃c:Nat,c<=8/\d=.int .i64 (c:Int)/\Bk r b.heap.size 196 (tabC 0 0)/\Bk r (b.heap.size+1) 196 (tabC a (rJ c a))/\Below b.heap.size b r) (fun d _=>8 -(intOf d).toNat)
    case atStart=>refine ⟨0,by omega,rfl,l.far (by simp) _,?_,v.setCell (by simp) _⟩;have:=e.set a (.int .u32 (a:Int));rw [aB2 f] at this;exact this
    case round=>
        obtain ⟨c,K,rfl,o,g,n⟩:=hrel;by_cases N:c < 8
        · have L:((c:Int) < 8):=oM;have F:wr.cell? ⟨b.heap.size+1,a,none⟩=some (.int .u32 ((rJ c a:Nat):Int)):=(g.cell a).trans (vI f);go_wp2_with fail;refine (aDE (rJ c a) (xB oM c) _).mono ?_;rintro t D ⟨rfl,m⟩;have p:=g.below m g.lt;have A:=o.below m o.lt;have G:D.cell? ⟨b.heap.size+1,a,none⟩=some (.int .u32 ((rJ c a:Nat):Int)):=(p.cell a).trans (vI f);have I:=p.frozen a;go_wp2_with fail;go_roundw
          case rel=>refine ⟨c+1,by omega,by go_num,A.far (by simp) _,?_,(n.trans (m.mono n.size)).setCell (by simp) _⟩;have:=p.set a (.int .u32 ((lV (rJ c a):Nat):Int));rw [aB2 f] at this;exact this
          case measure=>simp [intOf];omega
        · have q:c=8:=oM;subst q;go_wp2_with fail;go_roundw
          case rel=>rw [aFQ] at g;exact ⟨a+1,0,by omega,by go_num,o,g,fun _=>rfl,n⟩
          case measure=>simp [intOf];omega
  · have q:a=256:=oM;subst q;rw [aHc] at e;obtain ⟨s,y⟩:=hqq2 l e;clear l e;have x:(prog.info? 196).map (·.size)=some crcC.size:=(by rw [oI];kernel_rfl);have w:crcC.all (·.oneCell')=true:=(by unfold crcC jX;rw [Array.all_eq_true_iff_forall_mem];intro j i;rw [List.mem_toArray,zAy] at i;obtain ⟨O,_,rfl⟩:=i;rfl);obtain ⟨k,z⟩:=hqq2 x w;clear x w;go_wp2_with (first |(refine wpList_load_row (P:=prog) rfl 196 (.tmp 1) rfl (b.heap.size+1) rfl 196 crcC (0,0) _ y.out underlying196 rfl k.out ?_)|(refine wpList_store_row (P:=prog) rfl 196 (.tmp 0) (.tmp 20) rfl b.heap.size crcC rfl rfl 196 (tabC 0 0) s.out k.out (by rw [aFP,oI]) z.out ?_));exact aFM rfl (setRow_heap wr b.heap.size _ crcC _ _ s.out) k.out (below_setRow v nL _)
def aDF (d:Nat) (H:d < 4294967296) (q:Option Addr) (f C:Nat) (b:List UInt8) (g:World) (o:Rd g g.heap.size 1 q f (b.map bv)) (T:f<=1099511627776):
 Calls prog 103 #[.int .u32 (d:Int),.slice q f C] g fun r L=>r=.returned (.int .u32 ((aBe d b:Nat):Int))/\Below g.heap.size g L:=by
 have R:b.length=f:=by have:=o.1;simpa using this
 have z:=lhd o;clear o;have w:(prog.info? 196).map (·.size)=some crcC.size:=by rw [oI];kernel_rfl
 have v:crcC.all (·.oneCell')=true:=by unfold crcC jX;rw [Array.all_eq_true_iff_forall_mem];intro c j;rw [List.mem_toArray,zAy] at j;obtain ⟨V,_,rfl⟩:=j;rfl
 obtain ⟨B,A⟩:=hqq2 w v;clear w v;go_enter func103,ntmps103;go_wp2_with fail;refine (aBS _).mono ?_;rintro r w1 ⟨rfl,t⟩;go_wp2_with (refine wpList_store_row (P:=prog) rfl 196 (.tmp 5) (.tmp 8) rfl w1.heap.size crcC rfl rfl 196 Tryz.zeroCells196 (heap_alloc_new _ _) B.out (by rw [oI];kernel_rfl) A.out ?_;rw [World.setRow_alloc_new]);rw [aJJ d H];have F:=t.size;go_loopw [0,13] (fun c p wr=>∃a:Nat,a<=f/\p=.int .i64 (a:Int)/\c=.int .u32 ((tS (b.take a) (4294967295 - d):Nat):Int)/\Bk wr w1.heap.size 196 crcC/\Below g.heap.size g wr) (fun _ p _=>f -(intOf p).toNat)
 case atStart=>exact ⟨0,by omega,rfl,by rw [List.take_zero];rfl,Bk.new _ _ _,t.alloc F _⟩
 case round=>
  obtain ⟨a,S,rfl,rfl,u,m⟩:=hrel;by_cases G:a < f
  · obtain ⟨M,U,W,rfl,Q,i,D⟩:=(z.out.below m).get G;rw [zAf] at i;obtain ⟨e,y⟩:∃e,b[a]?=some e:=⟨_,zAa oM⟩;rw [y] at i;injection i with i;subst i;have I:b.take (a+1)=b.take a++ [e]:=(by rw [zAv,y];rfl);have l:=xC (b.take a) e (4294967295 - d);rw [<-I] at l;have x:=rK (b.take a) (4294967295 - d) oM;obtain ⟨c,j⟩:=eqx (tS (b.take a) (4294967295 - d));rw [j] at l x;rw [j];have n:=aIq x e;have J:=e.toNat_lt;have s:bits .xor .u8 ((c:Int)% 256) (e.toNat:Int)=(((c % 256)^^^ e.toNat:Nat):Int):=(by have:((c:Int)% 256)=((c % 256:Nat):Int):=oM;rw [this,aCP _ _ oM J]);obtain ⟨k,K⟩:=eqx ((c % 256)^^^ e.toNat);rw [K] at l n s;have N:wr.cell? ⟨w1.heap.size,k,none⟩=some (.int .u32 ((jR k:Nat):Int)):=(u.cell k).trans (aIr n);have O:bits .xor .u32 ((jR k:Nat):Int) ((c:Int)/ 256)=((jR k ^^^(c / 256):Nat):Int):=(by have:((c:Int)/ 256)=((c / 256:Nat):Int):=oM;rw [this,lW _ _ (aAq n) oM]);unfold bv at D;go_wp2_with fail;go_roundw
    case rel=>exact ⟨a+1,by omega,by go_num,by rw [l],u,m⟩
    case measure=>simp [intOf];omega
  · have E:a=f:=oM;subst E;rw [zAg (by omega:b.length<=a)];have s:=aJJ _ (rK b (4294967295 - d) oM);go_wp2_with fail;go_ret;exact ⟨rfl,m⟩
def tF (e m:Option Addr) (d g q:Nat) (f:List UInt8) (a:World) (v:Rd a a.heap.size 1 e d (f.map bv)) (t:d<=1099511627776) (u:Rd a a.heap.size 1 m 1 [.slice e d g]):
 Calls prog 44 #[.slice m 1 q] a fun n y=>n=.returned (.int .u32 ((nE f:Nat):Int))/\Below a.heap.size a y:=by
 obtain ⟨p,w,B,rfl,s,j,o⟩:=u.get (k:=0) oM;injection j with j;subst j;go_enter func44,ntmps44;go_wp2_with fail;go_loopw [3,8] (fun x l wr=>∃b:Nat,b<=1/\l=.int .i64 (b:Int)/\x=.int .u32 (((if b=0 then 0 else nE f):Nat):Int)/\Below a.heap.size a wr) (fun _ l _=>1 -(intOf l).toNat)
 case atStart=>exact ⟨0,by omega,rfl,rfl,Below.refl _ _⟩
 case round=>
  obtain ⟨b,z,rfl,rfl,c⟩:=hrel;by_cases A:b < 1
  · have i:b=0:=oM;subst i;have o:wr.cell? ⟨p,w,none⟩=some (.slice e d g):=(c.cell s).trans o;rw [zBx rfl];go_wp2_with fail;refine (aDF 0 oM e d g f wr ((v.below c).mono c.size) t).mono ?_;rintro n w1 ⟨rfl,r⟩;go_wp2_with fail;go_roundw
    case rel=>exact ⟨1,by omega,rfl,rfl,c.trans (r.mono c.size)⟩
    case measure=>simp [intOf]
  · have i:b=1:=oM;subst i;rw [zBw oM];go_wp2_with fail;go_ret;exact ⟨rfl,c⟩
def rS (e:Option Addr) (a j v:Nat) (b:List UInt8) (c:World) (q:Rd c v 1 e a (b.map bv)) (Z:v<=c.heap.size) (a5:a<=1000000):
 Calls prog 42 #[.slice e a j] c fun f P=>∃s C,f=.returned (.slice s (dX b).length C)/\Made P c.heap.size 5 1 s (dX b).length C ((dX b).map bv)/\Below c.heap.size c P:=by
 have p:b.length=a:=by have:=q.1;simpa using this
 obtain ⟨k0,m⟩:=eqx ((cE a).length);have a4:k0<=11:=by rw [<-m];exact dL a
 obtain ⟨B,k⟩:=eqx ((dX b).length);have a2:B<=2000000:=by rw [<-k,jF,p,m];omega
 obtain ⟨Q,W,S,U⟩:=hqq4 (q.mono Z) m k p;have a3:=aFA b;rw [k];clear q m k p;go_enter func42,ntmps42;go_wp2_with fail;refine (yD _ _ _ _ [a] _ (cE a) k0 (pQ a) W.out (Rd.made _ _ 1 1 _ rfl) nL (by simp;omega) oM).mono ?_;rintro f w1 ⟨t,D,rfl,J,F⟩;have l:=((Below.refl c.heap.size c).alloc nL _).trans (F.mono (by simp));have M:=J.rd;obtain ⟨n,z,x⟩:=hqq3 (Q.out.below l) M l;have r:=l.size;clear J F l M;go_wp2_with fail;refine (tF e _ a j _ b _ (((n.out.alloc r _).mono (by simp;omega))) oM (Rd.made _ _ 1 1 _ rfl)).mono ?_;rintro f a9 ⟨rfl,G⟩;have g:=((Below.refl w1.heap.size w1).alloc nL _).trans (G.mono (by simp));obtain ⟨w,A,y⟩:=hqq3 (n.out.below (g.mono r)) (z.out.below g) (x.out.trans (g.mono r));have a6:=g.size;clear g G n z x;go_wp2_with fail;refine (aAE (nE b) _).mono ?_;rintro f d ⟨u,E,rfl,K,i⟩;have N:=K.rd;obtain ⟨R,Y,V,o⟩:=hqq4 (w.out.below (i.mono oM)) (A.out.below (i.mono oM)) N (y.out.trans (i.mono oM));have a7:=i.size;clear i K N w A y;go_wp2_with fail
 have I:=mI (some ⟨d.heap.size,0,none⟩) 3 3 (d.heap.size+1) [⟨t,k0,D,cE a⟩,⟨e,a,j,b⟩,⟨u,4,E,rG (nE b)⟩] (dX b) B (by unfold dX;rw [U.out];simp [gX]) S.out (d.alloc (.cells #[.slice t k0 D,.slice e a j,.slice u 4 E] 26)) ((Rd.made d _ 1 3 _ rfl).mono (by simp)) (by
  intro a8 O;simp at O;rcases O with rfl | rfl | rfl;exact (Y.out.mono oM).alloc oM _ |>.mono oM;exact (R.out.mono oM).alloc oM _ |>.mono oM
  · exact (V.out.alloc oM _).mono oM) (by simp) oM oM
 refine I.mono ?_;clear I;rintro f aa ⟨a0,a1,rfl,L,H⟩;have X:=lhd (L.mono (B':=c.heap.size) (by simp;have:=o.out.size;omega));have T:=lhd (o.out.trans ((((Below.refl d.heap.size d).alloc nL _).trans (H.mono (by simp))).mono o.out.size));clear L H;go_wp2_with fail;go_ret;exact ⟨_,_,rfl,X.out,T.out⟩
end
section
def aGj {a:List UInt8} {b:List Nat} (i:IsSuf (aG a) b) {c:Nat} (f:b[c]?=some 0):(aE (aG a) b)[c]?=some 0:=by
 unfold aE;rw [zAf,f];obtain ⟨d,e,g⟩:=eH a;show some (bK (aG a) 0)=some 0;rw [bV oM,d];have:a.length+1 - 1=a.length:=oM;rw [this,e]
def aEF {a:List UInt8} {e:List Nat} (i:IsSuf (aG a) e):(aE (aG a) e).count 0=1:=by
 obtain ⟨c,f,g⟩:=eH a;unfold aE;rw [List.count_eq_countP,List.countP_map,i.count,c,gF (m:=a.length) _ (fun b=>(aG a).getD b 0==0)]
 · rw [List.range_succ,List.countP_append];have j:(List.range a.length).countP (fun b=>(aG a).getD b 0==0)=0:=List.countP_eq_zero.2 fun b d k=>by have:=g b (zCj.1 d);rw [zCq] at k;omega
   rw [j];simp only [List.countP_singleton,f];rfl
 · simp only [Function.comp];rw [bV oM,c];congr 2
 · intro b d;simp only [Function.comp];rw [aX oM]
def aGf {b:List Nat} {c d:Nat} (g:b[c]?=some d) (a:Nat):cL b a (c+1)=if a=d then cL b a c+1 else cL b a c:=by
 unfold cL;rw [zAv,g,zCc];by_cases e:a=d;subst e;rw [zBx rfl];simp;omega
 · rw [zBw e];have:([d]:List Nat).count a=0:=(by rw [List.count_eq_zero];intro f;simp at f;exact e f);show _+((b.take c).count a+ [d].count a)=_;rw [this,zBq]
end
section
open Go.RowKit Go.Shelf
attribute [local go_sem] Oper.semAt_some
def aBU (b:Option Addr) (d c:Nat) (a:World):
 Calls prog 181 #[.slice b d c] a fun e f=>e=.returned (.func (.func 216) #[] #[a.heap.size])/\f=a.alloc (.cells #[.slice b d c] 26):=by
 go_enter func181,ntmps181;go_wp2_with fail;go_ret;exact ⟨rfl,rfl⟩
def mS (a:List Nat) (c:Nat×Nat) (b:UInt8):Nat×Nat:=(cL a (b.toNat+1) c.1,cL a (b.toNat+1) c.2)
def gP (a:List Nat) (b:List UInt8):Nat×Nat:=b.reverse.foldl (mS a) (0,a.length)
def aFv (b:List Nat) (c:List UInt8):∀a:Nat×Nat,a.1<=a.2->a.2<=b.length->(c.foldl (mS b) a).1<=(c.foldl (mS b) a).2/\(c.foldl (mS b) a).2<=b.length:=by
 induction c with
 | nil=>intro a d e;exact ⟨d,e⟩
 | cons g c f=>intro a d e;exact f _ (aGg b _ d) (uY b _ _)
def aJz (a:List UInt8):(bkL a a.length).map (·.2)=a.reverse:=by
 apply List.ext_getElem
 · simp [bkL]
 · intro b c e;have d:b < a.length:=(by simpa [bkL] using c);simp [bkL,List.getElem_reverse,d,show a.length - 1 - b < a.length by omega]
def aFm (a:Oper):Bool:=match a.op with
 | .defer _=>false
 | _=>true
def aHX {d:Array Oper} (e:d.toList.all aFm=true):∀(c:Nat) (a:Oper),d[c]?=some a->∀b,a.op≠.defer b:=by
 intro c a g b f;have:=zBf.1 e a (Array.mem_toList_iff.2 (Array.mem_of_getElem? g));unfold aFm at this;rw [f] at this;cases this
structure FInv (w0:World) (Bw gl gb glo gs b3:Nat) (sl:Value) (L:List Nat) (pre:List (Nat×UInt8)) (W:World):Prop where
 lo:Bk W glo 3 #[.int .i64 ((((pre.map (·.2)).foldl (mS L) (0,L.length)).1:Nat):Int)]
 hi:Bk W (glo+1) 3 #[.int .i64 ((((pre.map (·.2)).foldl (mS L) (0,L.length)).2:Nat):Int)]
 lv:LvW W Bw gl L
 box:Bk W gb 23 #[gl]
 bs:Bk W gs 26 #[sl]
 dat:∃t cs,Bk W b3 t cs/\t∈ [5,26]
 vis:VB Bw w0 W
def FInv.own {w0:World} {q v u w x t p:Nat} {C:Value} {r:List Nat} (D:w0.heap.size<=p):OwnFrom p (fun B k=>FInv w0 q v u w x t C r B k):=by
 intro F k s row a d n;have g:∀b i f,Bk k b i f->Bk s b i f:=by intro b i f e;refine (d.block b e.lt fun c=>?_).trans e;obtain ⟨_,E,j,A⟩:=n b c.symm;unfold Bk at e;rw [e] at j;injection j with j;subst j;cases A
 obtain ⟨i,f,y,z⟩:=a.dat;refine ⟨g _ _ _ a.lo,g _ _ _ a.hi,a.lv.same g,g _ _ _ a.box,g _ _ _ a.bs,⟨i,f,g _ _ _ y,z⟩,⟨d.os.trans a.vis.1.os,d.tape.trans a.vis.1.tape,d.output.trans a.vis.1.output,zAk a.vis.1.size d.size,fun b e m=>?_⟩,⟨d.os.trans a.vis.1.os,d.tape.trans a.vis.1.tape,d.output.trans a.vis.1.output,zAk a.vis.1.size d.size,fun b e m=>(d.block b (zAl e a.vis.1.size) fun c=>?_).trans (a.vis.2.block b e m)⟩⟩;rcases a.vis.1.block b e m with c |⟨f,o,c,l⟩|⟨f,o,c,l⟩;refine .inl ((d.block b (zAl e a.vis.1.size) fun c=>?_).trans c);have:=(n b c.symm).1;omega;exact .inr (.inl ⟨f,o,c,g _ _ _ l⟩);exact .inr (.inr ⟨f,o,c,g _ _ _ l⟩);have:=(n b c.symm).1;omega
def yR {g:Nat->Prop} {f k:World} (j:VisF g f k) (m:∀b e,g b->f.heap[b]?=some e->e.isCells=true):KeepsOthers f k:=by
 refine ⟨j.size,fun b e c d=>?_⟩;by_cases i:g b
 · rw [m b e i c] at d;cases d
 · have n:b < f.heap.size:=(zAh.1 c).1;rcases j.block b n i with a |⟨l,o,a,_⟩|⟨l,o,a,_⟩;exact a.trans c
   · unfold Bk at a;rw [c] at a;injection a with a;subst a;cases d
   · unfold Bk at a;rw [c] at a;injection a with a;subst a;cases d
def sB (r y:Nat) (c:List Nat) (G:Nat) (ab:Option Addr) (a8 au al:Nat) (aM:List Sl) (s:List UInt8) (B:Nat) (ck:gX aM=s) (bm:s.length=B) (l:World) (o:LvW l r y c) (Y:c.length=G+1) (cr:G<=900) (bl:∀I∈c,I < 257) (bJ:Rd l al 1 ab a8 (aM.map slV)) (bO:∀aj∈aM,Rd l al 1 aj.A aj.n (aj.l.map bv)) (cW:al<=l.heap.size) (d5:a8<=1000000) (d6:B<=1000000):
 Calls prog 133 #[y,.slice ab a8 au] l fun d bZ=>d=.returned (.tuple #[.int .i64 (((gP c s).1:Nat):Int),.int .i64 (((gP c s).2:Nat):Int)])/\VB r l bZ:=by
 refine (callsIn_wide (n:=6)).1 ?_;refine callsIn_of_wp_marks func133 rfl trivial ?_ rfl;simp only [ntmps133,List.size_toArray,zCg,List.length_nil,Nat.reduceAdd,Nat.reduceSub,Array.replicate_succ,Array.replicate_zero,List.push_toArray,List.append_toArray,List.nil_append,List.cons_append];refine wpIn_wide.2 ?_;have d2:=o.lt;obtain ⟨ba,c4,c8,c9⟩:=hqq4 o bl bJ bO;clear o bl bJ bO;go_wp2_with fail;have aF:Below l.heap.size l (l.alloc (.cells #[y] 23)):=bR.alloc nL _;refine (cF r y c G _ (ba.out.vis (Vis.of_below aF)) Y oM).mono ?_;rintro d bZ ⟨rfl,rfl⟩;have O:IntKind.i64.wrap ((G:Int)+1)=((G+1:Nat):Int):=by rw [IntKind.wrap_i64];omega
 obtain ⟨a9,bI⟩:=eqx (G+1);have av:(G:Int)+1=(a9:Int):=oM;have az:=Bk.new l 23 #[y];obtain ⟨a4,aZ⟩:=eqx l.heap.size;rw [aZ] at az;rw [aZ];generalize l.alloc (.cells #[y] 23)=w1 at aF az⊢;obtain ⟨aS,aO,c7,bg⟩:=hqq4 aF az bI Y;clear aF az bI Y aZ;go_wp2_with fail;have P:=(Bk.new w1 3 #[.int .i64 0]).alloc (.cells #[(a9:Int)] 3);have L:=Bk.new (w1.alloc (.cells #[.int .i64 0] 3)) 3 #[(a9:Int)];rw [World.size_alloc] at L;have ax:Below w1.heap.size w1 ((w1.alloc (.cells #[.int .i64 0] 3)).alloc (.cells #[(a9:Int)] 3)):=(bR.alloc nL _).alloc (by simp) _;obtain ⟨j,ag⟩:=eqx w1.heap.size;rw [ag] at P L;rw [ag];generalize (w1.alloc (.cells #[.int .i64 0] 3)).alloc (.cells #[(a9:Int)] 3)=a0 at P L ax⊢;have ah:=aS.out.trans (ax.mono aS.out.size);have bq:=aO.out.below ax aO.out.lt;have cq:l.heap.size<=j:=by rw [<-ag];exact aS.out.size
 have d1:a4 < j:=by rw [<-ag];exact aO.out.lt
 have bt:=mI ab a8 au al aM s B ck bm a0 (c8.out.keep fun b8 E=>ah.cell oM) (fun aj b5=>(c9.out aj b5).keep fun b8 E=>ah.cell oM) (by have:=ah.size;omega) oM oM;obtain ⟨J,N,aq,ao⟩:=hqq4 P L ah bq;clear P L ax ah bq ag O av;refine bt.mono ?_;clear bt;rintro d aa ⟨M,X,rfl,bF,T⟩;obtain ⟨bf,S⟩:=hqq2 bF T;clear bF T;go_wp2_with fail;refine (aBU M B X aa).mono ?_;rintro d a1 ⟨rfl,aG⟩;have aA:=Bk.new aa 26 #[.slice M B X];rw [<-aG] at aA;have U:Below aa.heap.size aa a1:=aG ▸bR.alloc nL _;have d7:a1.heap.size=aa.heap.size+1:=by rw [aG];simp
 obtain ⟨K,aC⟩:=eqx aa.heap.size;rw [aC] at aA;rw [aC];have cA:=lhd aC;clear aG aC;have bE:=(J.out.below S.out J.out.lt).below U (zAl J.out.lt S.out.size);have bA:=(N.out.below S.out N.out.lt).below U (zAl N.out.lt S.out.size);have br:=(ao.out.below S.out ao.out.lt).below U (zAl ao.out.lt S.out.size);have bP:Below l.heap.size l a1:=(aq.out.trans (S.out.mono aq.out.size)).trans (U.mono (by have:=aq.out.size;have:=S.out.size;omega));have bH:=bf.out.below U;obtain ⟨be,aP,bc,ar,ap,a2⟩:=hqq6 bE bA br bP bH aA;clear bE bA br bP bH aA U J N aq ao bf;go_wp2_with fail;obtain ⟨C,T⟩:∃C,(∀b aK,M=some ⟨b,aK,none⟩->0 < B->b=C)/\∃w z,Bk a1 C w z/\w∈ [5,26]:=by rcases ap.out.own.2 with ⟨d,ch⟩|⟨aW,cf,cg,d,_,bz,_⟩;exact ⟨K,fun b aK _ aw=>by omega,_,_,a2.out,by simp⟩;injection d with d;exact ⟨aW,fun b aK o _=>by rw [d] at o;injection o with o;injection o with o _;exact o.symm,_,_,bz,by simp⟩
 have aX:0 < B->M=some ⟨C,0,none⟩:=by
  intro aw;rcases ap.out.own.2 with ⟨d,ch⟩|⟨aW,cf,cg,d,_,bz,_⟩;omega
  · injection d with d;rw [d,T.1 aW 0 d aw]
 have bu:∀V,V < s.length->a1.cell? ⟨C,0+V,none⟩=some (.int .u8 ((s.getD V 0).toNat:Int)):=by intro V aE;have cu:=ap.out.rd;obtain ⟨b,aK,d,_,cn⟩:=cu.2 oM;rw [aX oM] at d;injection d with d;injection d with O av;subst O av;refine cn V _ ?_;rw [zAf,zAa aE];simp [bv,zAb,zAa aE]
 have bK:SeqStopsK Fence.wide (6 - 1) prog 216 #[K] (fun I:Nat×UInt8=>#[(I.1:Int),.int .u8 (I.2.toNat:Int)]) (KpB K C) (fun c0=>c0=bkL s s.length) (fun _=>True) B a1:=by intro aJ cc cd g bn cY cZ cl aw;have co:=T.2;obtain ⟨w,z,af,aB⟩:=co;exact aBV Fence.wide (6 - 1) trivial rfl oM aJ K C 0 X M s (fun o=>aX oM) oM cc cd (fun H I ce ac bh=>cl H I ce ac oM) g (by rw [bm];exact (a2.out.below bn a2.out.lt).cell 0) (fun V aE=>(bn.cell (p:=⟨C,0+V,none⟩) af.lt).trans (bu V aE)) aw
 have bj:FInv l r y a4 j K C (.slice M B X) c [] a1:=⟨be.out,by
  have:=aP.out;rw [show (([]:List (Nat×UInt8)).map (·.2)).foldl (mS c) (0,c.length)=(0,c.length) from rfl,bg.out,c7.out];exact this,ba.out.vis (Vis.of_below ar.out),bc.out,a2.out,T.2,VisK.of_below ar.out⟩
 have d4:=a2.out.lt;have U:=T.2;obtain ⟨aN,aR⟩:=hqq2 bj bK;have d3:=aP.out.lt;obtain ⟨da,cE,bw,cp⟩:=U;have d0:=bw.lt;clear bK bj bu aX T bw cp be aP bc ap a2;refine (wpIn_wide (n:=6)).1 ?_
 refine wpIn_rangeFunc_ownF (F:=Fence.wide) (n:=6) rfl oM (gf:=216) (lb:=#[.pointer (some K)]) rfl trivial (enters_of func216 kR rfl) aR.out (fun o ai=>o.trans ai)
  (fun g aJ cx d8 cr b2 _ _ b8 E=>World.cell?_of_block (World.putObj_heap_other (fun d=>by rcases E with E | E <;> omega))) bR (fun _=>rfl)
  (fun H g=>FInv l r y a4 j K C (.slice M B X) c H g) (fun _ _ _=>False) (FInv.own ar.out.size) (fun _ _ _ _ _ b5 _ _=>b5) aN.out
  (fun I=> { tmps:=#[.pointer (some y),.slice ab a8 au,.pointer (some a4),undef,.int .i64 0,.int .i64 0,.pointer (some j),.pointer (some ⟨j+1,0,none⟩),undef,.int .u8 (I.2.toNat:Int),.pointer (some y),.bool false,.pointer (some y),.int .i64 (G:Int),.int .i64 (a9:Int),.slice ab a8 au,.slice M B X,.func (.func 216) #[] #[K],.int .i64 (I.1:Int),.int .u8 (I.2.toNat:Int),undef,undef,undef,undef,undef,undef,undef,undef,undef,undef,undef,undef,undef,undef],defers:= [] }) ?assign ?body ?done ?stop
 case assign=>
  intro aJ I g cB e
  gi_wp2
  exact e
 case body=>
  rintro aJ H ⟨bS,x⟩ g t _;obtain ⟨gk,bW,bY,d9,bB,bQ⟩:=t.lv;obtain ⟨a7,P⟩:=eqx (((H.map (·.2)).foldl (mS c) (0,c.length)).1);obtain ⟨a6,L⟩:=eqx (((H.map (·.2)).foldl (mS c) (0,c.length)).2);have aY:=aFv c (H.map (·.2)) (0,c.length) (zAp _) nL;rw [P,L] at aY;obtain ⟨Z,bo⟩:=eqx (cL c (x.toNat+1) a7);obtain ⟨W,u⟩:=eqx (cL c (x.toNat+1) a6);have b1:=t.lo;have b0:=t.hi;rw [P] at b1;rw [L] at b0;obtain ⟨aQ,cb,J,N,c5,bd⟩:=hqq6 bB bQ b1 b0 t.box aY;have an:Hid (cL c (x.toNat+1) a7=Z/\cL c (x.toNat+1) a6=W):=lhd ⟨bo,u⟩;have c1:=lhd t;have c6:Hid (((H.map (·.2)).foldl (mS c) (0,c.length))=(a7,a6)):=lhd (by rw [<-P,<-L]);clear bB bQ b1 b0 aY bo u t P L aN aR
  gi_wp2
  refine wpIn_region_any kR ?_;refine aDJ (fun ⟨_,_,o⟩=>o) (aHX kR) _ _ _ _ ?_;refine cD r 13 [21,22,23,24,25,26,27,28,29,20,30,31] (fun b=>b=j) 12 [0,1,2,3,4,5,6,7,8,9,10,12] (fun a0=>VB r g a0) (fun _ a0=>Bk a0 j 3 #[(Z:Int)]) [is y,is y,is y,is gk,is (a7:Int),is (a6:Int),is (.int .u8 (x.toNat:Int)),is (.int .i64 ((x.toNat+1:Nat):Int)),is (.tuple #[(Z:Int),(W:Int)]),is (.tuple #[(Z:Int),(W:Int)]),is (Z:Int),is (W:Int),dA] _ _ rfl dC kR kR kR (VisK.of_below bR.drew) (fun _ _ o _ ai=>o.trans ai) (fun _ _ _ o ai=>ai.1.bk o dC dC) tA1 ?_ ?_
  · refine bG ?_;refine sC3 (fun D v _ k _ _ Q _ _ _ _ e=>?_) ?_
    · have a:=k rfl;have av:D (.tmp 2)=.pointer (some a4):=Q 2 kR;replace a:VB r g v:=(by first|exact a|exact bD a);have a3:=(a.1.bk c5.out dC dC).cell 0;go_simp;exact e _ _ (aH vR) rfl
    refine sC3 (fun _ v _ k _ _ _ q _ _ _ e=>?_) ?_
    · have a:=k rfl;have cH:_=_:=q 0 21 kR rfl;replace a:VB r g v:=(by first|exact a|exact bD a);have a3:=(a.1.bk aQ.out dC dC).cell 0;go_simp;exact e _ _ (aH vR) rfl
    refine sC3 (fun _ v _ k _ _ _ q _ _ _ e=>?_) ?_
    · have a:=k rfl;have cI:_=_:=q 1 22 kR rfl;replace a:VB r g v:=(by first|exact a|exact bD a);have a3:=(a.1.bk aQ.out dC dC).cell 0;go_simp;exact e _ _ (aH vR) rfl
    refine sC3 (fun _ v _ k _ _ _ q _ _ _ e=>?_) ?_
    · have a:=k rfl;have cJ:_=_:=q 2 23 kR rfl;replace a:VB r g v:=(by first|exact a|exact bD a);have a3:=(a.1.bk aQ.out dC dC).cell 0;go_simp;exact e _ _ (aH vR) rfl
    refine sC3 (fun D v _ k _ _ Q _ _ _ _ e=>?_) ?_
    · have a:=k rfl;have cj:D (.tmp 6)=.pointer (some j):=Q 6 kR;replace a:VB r g v:=(by first|exact a|exact bD a);have a3:=(a.1.bk J.out dC dC).cell 0;go_simp;exact e _ _ (aH vR) rfl
    refine sC3 (fun D v _ k _ _ Q _ _ _ _ e=>?_) ?_
    · have a:=k rfl;have cS:D (.tmp 7)=.pointer (some ⟨j+1,0,none⟩):=Q 7 kR;replace a:VB r g v:=(by first|exact a|exact bD a);have a3:=(a.1.bk N.out dC dC).cell 0;go_simp;exact e _ _ (aH vR) rfl
    refine sC3 (fun D _ _ k _ _ Q _ _ _ _ e=>?_) ?_
    · have a:=k rfl;have cT:D (.tmp 9)=.int .u8 (x.toNat:Int):=Q 9 kR;go_simp;exact e _ _ (aH vR) rfl
    refine sC3 (fun _ v _ k _ _ _ q _ _ _ e=>?_) ?_
    · have a:=k rfl;have cO:_=_:=q 6 27 kR rfl;go_simp;refine (oN x v).mono ?_;rintro d cz ⟨rfl,cm⟩;exact e _ _ (aH (VisK.of_below cm)) rfl
    refine sC3 (fun _ v _ k _ _ _ q _ _ _ e=>?_) ?_
    · have a:=k rfl;have cK:_=_:=q 3 24 kR rfl;have cM:_=_:=q 4 25 kR rfl;have cN:_=_:=q 5 26 kR rfl;have cP:_=_:=q 7 28 kR rfl;replace a:VB r g v:=(by first|exact a|exact bD a);go_simp;refine (xM r gk c a7 a6 (x.toNat+1) v (cb.out.vis a.1) (by have:=x.toNat_lt;omega) bd.out.1 bd.out.2 c4.out (by rw [bg.out];omega)).mono ?_;rintro d cz ⟨rfl,cw⟩;rw [an.out.1,an.out.2];exact e _ _ (aH cw) rfl
    refine sC3 (fun _ _ _ k _ _ _ q _ _ _ e=>?_) ?_
    · have a:=k rfl;have cQ:_=_:=q 8 29 kR rfl;go_simp;exact e _ _ (aH vR) rfl
    refine sC3 (fun _ _ _ k _ _ _ q _ _ _ e=>?_) ?_
    · have a:=k rfl;have cG:_=_:=q 9 20 kR rfl;go_simp;exact e _ _ (aH vR) rfl
    refine pV3 9 20 ?_;refine sC3 (fun D v _ k _ _ Q q _ _ _ e=>?_) ?_
    · have a:=k rfl;have cj:D (.tmp 6)=.pointer (some j):=Q 6 kR;have cR:_=_:=q 10 30 kR rfl;replace a:VB r g v:=(by first|exact a|exact bD a);have b7:=a.1.bk J.out dC dC;have a3:=b7.cell 0;have cV:=b7.frozen 0;go_simp;exact e (.bool true) _ (jK (VFB.put (F:=fun b=>b=j) (VFB.of_vb vR) (p:=j) (.inl rfl) _)) (b7.set 0 _)
    exact aD
  · intro D ak m ad q bp;replace ad:VFB r (fun b=>b=j) g ak:=fD ad;have ci:D (.tmp 31)=.int .i64 (W:Int):=q 11 31 dC rfl;obtain ⟨cy,bV⟩:=bp 12 dC;have bU:(fun _ a0=>Bk a0 j 3 #[(Z:Int)]) cy ak:=bV;clear bV bp;simp only [zqq];rw [ci];clear q;have aI:=ad.1.bk N.out dC dC (fun d=>by omega);have cC:=aI.cell 0;have cU:=aI.frozen 0;change wpAny prog Region.Mode.any _ _ (1+m) (bX 13 14) _ ak;rw [zCs 1 m];refine bC (f:=m) (i:=13) kR ?_;refine bN rfl rfl ?_;generalize e:wpAny prog _ _ _ m _=K5;go_simp;subst e;refine bT kR ?_;have bx:((H++ [(bS,x)]).map (·.2)).foldl (mS c) (0,c.length)=(Z,W):=(by rw [zAz,List.foldl_append,c6.out];show (cL c (x.toNat+1) a7,cL c (x.toNat+1) a6)=_;rw [an.out.1,an.out.2]);have b6:l.heap.size<=j:=cq;have ct:j≠j+1:=oM;have bM:VFB r (fun b=>b=j∨b=j+1) g (ak.setCell ⟨j+1,0,none⟩ (.int .i64 (W:Int))):=(by exact VFB.put (ad.wider fun b d=>.inl d) (.inl (.inr rfl)) _);have bL:=bM.1;have t:=c1.out;obtain ⟨w,z,af,aB⟩:=t.dat;have a5:w≠202/\w≠154/\w≠3:=by simp at aB;rcases aB with rfl | rfl <;> decide
    have ae:∀b w z,Bk g b w z->w≠202->w≠154->w≠3->Bk (ak.setCell ⟨j+1,0,none⟩ (.int .i64 (W:Int))) b w z:=fun b w z u ac bh bi=>bL.bk u ac bh (fun m=>by
        rcases m with m | m;subst m;exact bi (aL u J.out).1
        · subst m;exact bi (aL u N.out).1)
    have cs:=t.lv.visI ad.1 J.out bU;change KeepsOthers g _/\KpB K C g _/\FInv l r y a4 j K C (.slice M B X) c (H++ [(bS,x)]) _;refine ⟨yR bL (fun b cx m b2=>?_),?_,?_,?_,?_,ae _ _ _ t.box dC dC dC,ae _ _ _ t.bs dC dC dC,⟨w,z,ae _ _ _ af a5.1 a5.2.1 a5.2.2,aB⟩,?_⟩;rcases m with m | m;subst m;have:=J.out;unfold Bk at this;rw [b2] at this;injection this with this;subst this;rfl;subst m;have:=N.out;unfold Bk at this;rw [b2] at this;injection this with this;subst this;rfl
    · intro b8 E;rcases E with E | E
      · have O:=(ae _ _ _ t.bs dC dC dC).trans t.bs.symm;rw [<-E] at O;exact World.cell?_of_block O
      · have O:=(ae _ _ _ af a5.1 a5.2.1 a5.2.2).trans af.symm;rw [<-E] at O;exact World.cell?_of_block O
    rw [bx];exact bU.far (p:=⟨j+1,0,none⟩) ct _;rw [bx];exact aI.set 0 _;exact cs.sameT fun b w z cv u=>u.far (p:=⟨j+1,0,none⟩) (fun d=>by subst d;exact cv (aL u aI).1) _;have ac:VFB r (fun b=>b=j∨b=j+1) l g:=VFB.of_vb t.vis;exact (ac.trans bM).to_vb (fun b u m=>by rcases m with m | m <;> omega)
 case done=>
  rintro am c0 g cX rfl t e;have aT:=t.lo.cell 0;have aU:=t.hi.cell 0;rw [aJz] at aT aU;change g.cell? j=some (.int .i64 (((gP c s).1:Nat):Int)) at aT;change g.cell? ⟨j+1,0,none⟩=some (.int .i64 (((gP c s).2:Nat):Int)) at aU;obtain ⟨bW,b3⟩:=eqx ((gP c s).1);obtain ⟨bY,b4⟩:=eqx ((gP c s).2);rw [b3] at aT;rw [b4] at aU;obtain ⟨ca,c2⟩:=hqq2 t.vis e;have bb:Hid ((gP c s).1=bW/\(gP c s).2=bY):=lhd ⟨b3,b4⟩;clear t aN aR b3 b4 e;go_wp2_with fail;go_quiet (fail);go_wp2_with fail;have c3:(g.drewN nq).heap[am]?=some (.deferred (some [])):=c2.out;refine ⟨by simp,.inl ⟨_,_,rfl,run_takeDeferred c3,?_⟩⟩;refine ⟨_,results_tmp2 rfl _ _ _,by rw [bb.out.1,bb.out.2];rfl,?_⟩;have R:=ca.out;have ay:∀b,b < l.heap.size->((g.drewN nq).putObj am (.deferred none)).heap[b]?=g.heap[b]?:=fun b u=>World.putObj_heap_other (by have:=ar.out.size;omega);have b6:l.heap.size<=((g.drewN nq).putObj am (.deferred none)).heap.size:=by have:=R.1.size;simpa using this
  refine ⟨⟨R.1.os,R.1.tape,R.1.output,b6,fun b u Y=>?_⟩,⟨R.1.os,R.1.tape,R.1.output,b6,fun b u Y=>(ay b u).trans (R.2.block b u Y)⟩⟩;rcases R.1.block b u Y with d |⟨z,b9,d,aV⟩|⟨z,b9,d,aV⟩;exact .inl ((ay b u).trans d);exact .inr (.inl ⟨z,b9,d,(ay b u).trans aV⟩);exact .inr (.inr ⟨z,b9,d,(ay b u).trans aV⟩)
 case stop=>intro am x H g _ _ o _;exact o.elim
end
end Go.Proofs.YthldmddkfbijhaaGreatDoor
