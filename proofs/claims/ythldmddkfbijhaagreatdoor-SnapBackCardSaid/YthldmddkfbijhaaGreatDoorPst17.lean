/- Lemmas of the walk. Conditions: each its own. -/
import Derived.Test.YthldmddkfbijhaaGreatDoorPst11
import Derived.Test.YthldmddkfbijhaaGreatDoorPst12
import Derived.Test.YthldmddkfbijhaaGreatDoorProg
import Derived.Test.YthldmddkfbijhaaGreatDoorShl
import Derived.Test.YthldmddkfbijhaaGreatDoorSht
set_option linter.all false
set_option maxRecDepth 100000
set_option maxHeartbeats 4000000
open Go.Proofs.Tryz
namespace Go.Proofs.YthldmddkfbijhaaGreatDoor
section
open Go.RowKit
theorem TreeE.keepT {c k:World} {d e:Nat->Prop} {i:Nat} {f:List Bool} (m:TreeE c e i f) (r:Keep d c k) (q:∀a,d a->∃b g,Bk c a b g/\(b=154∨b=157)):TreeE k e i f:=
 m.keep r fun a b g j o _ l=>by obtain ⟨t,s,p,n⟩:=q a l;rw [(aM o p).1] at j;rcases n with rfl | rfl <;>(revert j;decide)
theorem TreeE.typed {l:World} {q:Nat->Prop} {v:Nat} {t:List Bool} (D:TreeE l q v t):TreeE l (fun a=>q a/\∃p c,Bk l a p c/\p∈ [202,221,205,230,4,3]) v t:=by
 have w:∀ {k:Nat} {x:List Bool} {u:List Nat},ArenaE l q k x u->ArenaE l (fun a=>q a/\∃p c,Bk l a p c/\p∈ [202,221,205,230,4,3]) k x u:=fun ⟨n,z,B,y,A,f,g,d,e,i⟩=>
  ⟨⟨n,_,_,f,by decide⟩,z,B,y,A,f,g,d,fun a o=>⟨e a o,by obtain ⟨c,j⟩:=eT g o;exact ⟨_,c,j,by decide⟩⟩,fun a o=>⟨i a o,by obtain ⟨c,j⟩:=eT d o;exact ⟨_,c,j,by decide⟩⟩⟩
 obtain ⟨n,k,s,⟨f,g,d,e⟩|⟨f,m,r,F,g,d,e,i⟩|⟨f,g,m,r,C,d,e,i,E⟩⟩:=D;exact ⟨⟨n,_,_,d,by decide⟩,k,s,.inl ⟨f,⟨g,_,_,e,by decide⟩,d,e⟩⟩;exact ⟨⟨n,_,_,d,by decide⟩,k,s,.inr (.inl ⟨f,m,r,F,⟨g,by obtain ⟨c,j⟩:=eT e (b:=m) rfl;exact ⟨_,c,j,by decide⟩⟩,d,e,w i⟩)⟩;exact ⟨⟨n,_,_,i.tree,by decide⟩,k,s,.inr (.inr ⟨f,g,m,r,C,⟨d,by obtain ⟨c,j⟩:=eT i.row (b:=m) rfl;exact ⟨_,c,j,by decide⟩⟩,⟨e,_,_,i.blk,by decide⟩,i,w E⟩)⟩
def ShelfE (g:World) (own:Nat->Nat) (i:Nat) (f:Value) (j:List Nat) (c d:Nat):Prop:=
 ∃e:Nat->Nat,g.ownsRow i 157 3 f d (dY e c d)/\(∀a,f.ownBlock=some a->own a=2)/\∀b,b < d->TreeE g (fun a=>own a=TC c b) (e b) (aK j c b)
theorem ShelfE.keepW {e p:World} {b f:Nat} {own:Nat->Nat} {i:Array Value} {o:Value} {g:List Nat} {m n:Nat} (r:ShelfE e own f o g m n) (l:Keep (fun a=>a=b) e p) (k:Bk e b 154 i):ShelfE p own f o g m n:=by
 obtain ⟨q,s,t,u⟩:=r;refine ⟨q,aA s fun a x _ j=>l.bk j fun c=>?_,t,fun w v=>(u w v).keepT l fun a c=>?_⟩;have d:a=b:=c;subst d;exact absurd (aM j k).1 dC;have d:a=b:=c;subst d;exact ⟨_,i,k,.inl rfl⟩
theorem ShelfE.mono {c:World} {own k:Nat->Nat} {B B':Nat} {m:Value} {d:List Nat} {b j:Nat} (p:ShelfE c own B m d b j) (s:B'<=B) (i:∀a,a < c.heap.size->own a≠0->k a=own a):ShelfE c k B' m d b j:=by
 obtain ⟨n,f,q,r⟩:=p;refine ⟨n,bZ f s,fun a g=>?_,fun l u=>(r l u).mono fun a t o=>?_⟩;have:=q a g;rw [i a (f.lt a g).2 oM];exact this;have e:own a=TC b l:=o;rw [i a t (by rw [e];unfold TC;omega)];exact e
structure RowsE (w:World) (own:Nat->Nat) (B gv:Nat) (S:Nat->Value) (L:List Nat) (lv:Nat):Prop where
 bnd:∀b,own b≠0->B<=b/\b < w.heap.size
 gv2:own gv=2
 rows:∀j,j < lv->ShelfE w own B (S j) L j (2 ^ j)
theorem aJF {b c f:Nat} (g:c<=b/\b < f):∀a,(if a=b then 2 else 0)≠0->c<=a/\a < f:=fun a e=>by
 by_cases d:a=b;subst d;exact g;rw [zBw d] at e;exact absurd rfl e
def zF (own:Nat->Nat) (d:Nat) (e:Option Nat) (c b a:Nat):Nat:=if a < d then own a else if e=some a then 2 else if a < c then b else 0
theorem ShelfE.next {f i:World} {own:Nat->Nat} {o m d b:Nat} {s l:Value} {p:List Nat} {g:Nat->Nat} {H:Nat->Prop} (O:d < 9) (P:b < 2 ^ d) (F:f.ownsRow o 157 3 s b (dY g d b)) (A:∀a,s.ownBlock=some a->own a=2) (B:∀e,e < b->TreeE f (fun a=>own a=TC d e) (g e) (aK p d e))
 (D:∀a,own a≠0->a < f.heap.size) (J:Keep H f i) (C:∀a,H a->∃n u,Bk f a n u/\(n=154∨n=157)) (G:TreeE i (fun a=>f.heap.size<=a) m (aK p d b)) (y:i.ownsRow o 157 3 l (b+1) (dY g d b++ [.pointer (some ⟨m,0,none⟩),.int .i64 (d:Int),.int .i64 (b:Int)]))
 (I:l.ownBlock=s.ownBlock∨∃r,l.ownBlock=some r/\f.heap.size<=r):ShelfE i (zF own f.heap.size l.ownBlock i.heap.size (TC d b)) o l p d (b+1):=by
 have x:∀a,a < f.heap.size->zF own f.heap.size l.ownBlock i.heap.size (TC d b) a=own a:=fun a c=>by unfold zF;rw [zBx c]
 refine ⟨fun k=>if k=b then m else g k,?_,fun a c=>?_,fun e Q=>?_⟩;rw [iO,aA0 (fun k=>if k=b then m else g k) g d b (fun k N=>zBw oM),zBx rfl];exact y
 · rcases I with j |⟨r,j,M⟩;rw [j] at c;rw [x a (F.lt a c).2];exact A a c
   · rw [j] at c;injection c with c;subst c;unfold zF;rw [zBw oM,zBx j]
 show TreeE i _ (if e=b then m else g e) _;by_cases t:e=b;subst t;rw [zBx rfl];refine G.typed.mono fun a w q=>?_;obtain ⟨L,n,u,c,z⟩:=q;unfold zF;rw [zBw oM,zBw (fun j=>?_),zBx w];obtain ⟨K,E⟩:=eT y j;rw [(aM c E).1] at z;revert z;decide;rw [zBw t];refine ((B e oM).keepT J C).mono fun a w q=>?_;have v:own a=TC d e:=q;have c:=D a (by rw [v];unfold TC;omega);rw [x a c];exact v
theorem aH7 {own:Nat->Nat} {e d c f:Nat} {v:Option Nat} (k:∀a,own a≠0->f<=a/\a < e) (n:e<=d) (m:f<=e) (l:∀a,v=some a->a < d):∀a,zF own e v d c a≠0->f<=a/\a < d:=fun a b=>by
 unfold zF at b;by_cases g:a < e;rw [zBx g] at b;have:=k a b;exact ⟨this.1,by omega⟩;rw [zBw g] at b;by_cases i:v=some a;have:=l a i;exact ⟨by omega,this⟩;rw [zBw i] at b;by_cases j:a < d;exact ⟨by omega,j⟩;rw [zBw j] at b;exact absurd rfl b
theorem aBB (bD:Option Addr) (a0 c0 bF:Nat) (w:List Nat) (E:World) (br:Rd E bF 1 bD a0 (w.map sv)) (c3:bF<=E.heap.size) (al:a0<=128) (c4:∀N∈w,N < 257):
 Calls prog 192 #[.slice bD a0 c0] E fun m aW=>∃g own,m=.returned (.tuple #[.pointer (some ⟨g,0,none⟩),.int .i64 0])/\WaveE aW E.heap.size own g w/\Below E.heap.size E aW:=by
 have cl:w.length=a0:=by simpa using br.1
 obtain ⟨bU,bL,aq,bI⟩:=hqq4 br c4 cl c3;obtain ⟨g,ch⟩:=eqx E.heap.size;obtain ⟨ai,aL⟩:=eqx (E.alloc (.cells #[.slice none 0 0,.slice none 0 0,.slice none 0 0,.slice none 0 0,.slice none 0 0,.slice none 0 0,.slice none 0 0,.slice none 0 0,.slice none 0 0,(a0:Int),.int .i64 0] 154));have ae:Bk ai g 154 (wcells (fun _=>.slice none 0 0) (a0:Int) 0):=by rw [<-aL,<-ch];have T:=Bk.new E 154 #[.slice none 0 0,.slice none 0 0,.slice none 0 0,.slice none 0 0,.slice none 0 0,.slice none 0 0,.slice none 0 0,.slice none 0 0,.slice none 0 0,(a0:Int),.int .i64 0];unfold wcells;exact T
 have c6:Below E.heap.size E ai:=by rw [<-aL];exact bR.alloc nL _
 obtain ⟨b0,aY,cE,aH⟩:=hqq4 ae c6 aL ch;clear br c4 cl ae c6 aL c3;go_enter func192,ntmps192;go_wp2_with fail;rw [cE.out]
 try rw [aH.out]
 go_loopw [20] (fun k wr=>∃u:Nat,u<=a0/\k=.int .i64 u/\Below ai.heap.size ai wr) (fun k _=>a0 -(intOf k).toNat)
 case atStart=>exact ⟨0,by omega,rfl,Below.refl _ _⟩
 case round=>
  obtain ⟨u,aQ,rfl,l⟩:=hrel;have bt:=l.size;have cs:=aY.out.size;by_cases cm:u < a0
  · have dw:u < w.length:=(by rw [aq.out];exact cm);obtain ⟨N,ab⟩:∃N,w[u]?=some N:=⟨w[u],zAa dw⟩;obtain ⟨a,dS,e2,rfl,dq,ah,bf⟩:=(((bU.out.mono bI.out).below aY.out).below (l.mono cs)).get cm;rw [zAf,ab] at ah;simp at ah;subst ah;have aC:N < 257:=bL.out N (zAd ab);unfold sv at bf;clear ab;go_wp2_with fail;refine (eY N _ aC).mono ?_;rintro m w1 ⟨rfl,dl⟩;have a2:=l.trans (dl.mono bt);go_wp2_with fail;go_roundw
    case rel=>exact ⟨u+1,by omega,by go_num,a2⟩
    case measure=>simp [intOf];omega
  · have dx:u=a0:=oM;subst dx;have bK:=lhd l;clear l;go_wp2_with fail;go_loopw [28] (fun k wr=>∃e:Nat,e<=9/\k=.int .i64 e/\Below E.heap.size E wr/\ai.heap.size<=wr.heap.size/\∃S jT,Bk wr g 154 (wcells S (u:Int) 0)/\RowsE wr jT E.heap.size g S w e/\(∀J,e<=J->S J=.slice none 0 0)) (fun k _=>9 -(intOf k).toNat)
    case atStart=>exact ⟨0,by omega,rfl,aY.out.trans (bK.out.mono cs),bt,_,fun a=>if a=g then 2 else 0,b0.out.below bK.out b0.out.lt,⟨aJF ⟨by have:=aH.out;omega,zAl b0.out.lt bt⟩,zBx rfl,fun J cj=>absurd cj oM⟩,fun J _=>rfl⟩
    case round=>
        obtain ⟨e,em,rfl,ae,di,S,jT,aN,am,bn⟩:=hrel;by_cases aT:e < 9
        · obtain ⟨z,dk⟩:∃z,z=wr:=⟨_,rfl⟩;subst dk;obtain ⟨D,al⟩:=eqx (2 ^ e);have ep:D<=512:=(by rw [<-al];exact zAk (zBp dC (by omega:e<=9)) dC);have eq:=aHN D oM;have en:(2:Int)^ e=(D:Int):=(by rw [<-al];push_cast;rfl);obtain ⟨M,cg⟩:=eqx z.heap.size;obtain ⟨ad,aM⟩:∃ad,z.alloc (.cells (rowC (fun _=>.slice none 0 0) D) 175)=ad:=⟨_,rfl⟩;have cb:Bk ad M 175 (rowC (fun _=>.slice none 0 0) D):=(by rw [<-aM,<-cg];exact Bk.new _ _ _);have c9:=Bits.start ad z.heap.size M D cb;have c7:Below z.heap.size z ad:=(by rw [<-aM];exact bR.alloc nL _);obtain ⟨cI,cH,aG,ar,bQ,ap,cF,cO,b2⟩:=hqq9 c9 c7 aN am bn ae aM cg al;clear c9 c7 aN am bn ae aM cb al;go_wp2_with fail;rw [cF.out];obtain ⟨dQ,dt,dN,dO,dP⟩:=info_parts oZ;have dr:decide ((e:Int) < 9)=true:=zBz oM;rw [dr];go_loopw [37] (fun k bB=>∃(J:Nat) (b8:Nat->Value),J<=u/\k=.int .i64 J/\Bits bB z.heap.size M D b8 (fun d=>aK (w.take J) e d)/\Below z.heap.size z bB/\ad.heap.size<=bB.heap.size) (fun k _=>u -(intOf k).toNat)
          case atStart=>exact ⟨0,_,by omega,rfl,by rw [List.take_zero];exact cI.out,cH.out,zAs _⟩
          case round=>
           obtain ⟨J,b8,cj,rfl,ay,a2,ev⟩:=hrel;have ct:=a2.size;by_cases ck:J < u
           · have dv:J < w.length:=(by rw [aq.out];exact ck);obtain ⟨N,ab⟩:∃N,w[J]?=some N:=⟨w[J],zAa dv⟩;have bd:Below E.heap.size E wr:=ap.out.trans (a2.mono ap.out.size);obtain ⟨e6,dS,e2,rfl,dq,ah,bf⟩:=((bU.out.mono bI.out).below bd).get ck;rw [zAf,ab] at ah;simp at ah;subst ah;have aC:N < 257:=bL.out N (zAd ab);have cv:w.take (J+1)=w.take J++ [N]:=(by rw [zAv,ab];rfl);have dJ:(w.take J).length<=128:=(by rw [zAj];omega);unfold sv at bf;obtain ⟨aZ,cD,ac⟩:=hqq3 ay cv a2;have ej:=bd;clear ab ay cv a2 bd;go_wp2_with fail;refine (kS N e _ aC oM).mono ?_;rintro m w1 ⟨rfl,W⟩;obtain ⟨d,a3⟩:=eqx (bC N e);rw [a3];have ag:d < D:=(by rw [<-b2.out,<-a3];exact lY N e aC oM);have dA:(d:Int) < (D:Int):=oM;have az:=aZ.out.below W;obtain ⟨Q,a4⟩:=eqx (aK (w.take J) e d);obtain ⟨r,aa⟩:=eqx Q.length;have co:r<=128:=(by rw [<-aa,<-a4,iW];exact zAk zBh dJ);have U:=az.own d ag;simp only [a4,aa] at U;obtain ⟨K,L,a8,cp,_⟩:=aR U;have ba:=U.lt;rw [a8] at U ba;have cB:z.heap.size<=w1.heap.size:=zAk ct W.size;have bz:(Value.slice K r L).ownBlock≠some M:=fun m=>bE U az.blk dC m.symm;have aO:=az.blk;have bg:w1.cell? ⟨M,d,none⟩=some (.slice K r L):=(by rw [<-a8];exact (aO.cell d).trans (nI _ _ _ ag));have bi:=aO.lt;obtain ⟨a,c8⟩:=eqx (fY N e);obtain ⟨bN,b3,cL,cJ,cT,b4,cU,bM,bP⟩:=hqq9 c8 U aO az a3 a4 aa a8 bg;have ao:=lhd W;clear c8 U aO az a3 a4 aa a8 bg W;go_wp2_with fail;refine wp_region_any kR ?_;refine cS 12 [44,45,46,47,48,49,50,51,52,53,54,55] (fun a=>(Value.slice K r L).ownBlock=some a) 10 [10] (fun t=>t.ownsRow z.heap.size 4 1 (.slice K r L) r (Q.map Value.bool)) (fun o t=>t.ownsRow z.heap.size 4 1 o (r+1) (Q.map Value.bool++ [.bool a])/\(o.ownBlock=(Value.slice K r L).ownBlock∨∃y,o.ownBlock=some y/\w1.heap.size<=y)) [is (.slice (some ⟨M,0,none⟩) D D),is (d:Int),is (.slice (some ⟨M,0,none⟩) D D),is (d:Int),is (.pointer (some ⟨M,d,none⟩)),is (.slice K r L),is (N:Int),is (e:Int),is (.bool a),rK (fun a=>(Value.slice K r L).ownBlock=some a) 4 #[.bool a] fun y=>.slice (some ⟨y,0,none⟩) 1 1,cX,is (.pointer (some ⟨M,d,none⟩))] _ _ rfl dC kR kR kR (b3.out) (fun t e4 T _ bh=>aS T bh) (fun _ _ _ ⟨a6,a7⟩ u=>⟨aS a6 u,a7⟩) tA3 ?_ ?_
             · refine bJ ?_;refine pH3 8 (.slice (some ⟨M,0,none⟩) D D) ?_;refine pH3 11 (.int .i64 (d:Int)) ?_;refine pH3 8 (.slice (some ⟨M,0,none⟩) D D) ?_;refine pH3 11 (.int .i64 (d:Int)) ?_;refine pW3 2 46 3 47 ?_;refine pL3 4 48 (fun q j=>have j:Keep (fun a=>(Value.slice K r L).ownBlock=some a) w1 q:=kD j;((j.cell (p:=⟨M,d,none⟩) bi bz).trans bP.out:q.cell? ⟨M,d,none⟩=some (.slice K r L))) ?_;refine pH3 10 (.int .i64 (N:Int)) ?_;refine pH3 7 (.int .i64 (e:Int)) ?_;refine sC3 (fun _ q _ _ _ _ _ x _ _ _ P=>?_) ?_
               · have e9:_=_:=x 6 50 kR rfl;have ea:_=_:=x 7 51 kR rfl;go_simp;refine (mO N e q aC aT).mono ?_;rintro m e5 ⟨rfl,be⟩;rw [bN.out];exact P _ _ (aJ be) rfl
               refine sC3 (fun _ q j _ _ _ _ x _ _ _ P=>?_) ?_
               · replace j:Keep (fun a=>(Value.slice K r L).ownBlock=some a) w1 q:=kD j;have eb:_=_:=x 8 52 kR rfl;go_simp;exact P _ _ (aJ (bR.alloc nL _)) ⟨_,rfl,Bk.new _ _ _,fun T=>by have:=(ba _ T).2;have:=j.size;omega⟩
               refine sC3 (fun R q j bb _ _ _ x _ _ bc P=>?_) ?_;replace j:Keep (fun a=>(Value.slice K r L).ownBlock=some a) w1 q:=kD j;have bp:=bb rfl;have d0:_=_:=x 5 49 kR rfl;have dU:(rK (fun a=>(Value.slice K r L).ownBlock=some a) 4 #[.bool a] fun y=>.slice (some ⟨y,0,none⟩) 1 1) (R (.tmp 53)) q:=x 9 53 kR rfl;obtain ⟨d8,d1,dm,er⟩:=dU;subst bc;have bv:z.heap.size<=q.heap.size:=zAk cB j.size;have dM:=j.size;refine eR q (.tmp 49) (.tmp 53) _ rfl z.heap.size 4 dQ (.bool false) 1 1 underlying175 dt dN dO dP rfl dC (.slice K r L) r (Q.map Value.bool) d0 bp q.heap.size (some ⟨d8,0,none⟩) 1 1 [.bool a] d1 (aEh dm) (by simp [Value.oneCell']) (by unfold maxLen;omega) oM bv ?_;intro e3 s X Z a1;refine P _ _ (aV ⟨Z.os,Z.tape,Z.output,Z.size,fun u aQ bm=>Z.block u aQ (fun m=>bm m.symm)⟩) ⟨X,?_⟩;rcases a1 with b9 | b9;exact .inl b9;exact .inr ⟨_,b9,dM⟩;refine pW3 0 44 1 45 ?_;exact aD
             · intro R s C j x;replace j:Keep (fun a=>(Value.slice K r L).ownBlock=some a) w1 s:=kD j;have dV:(fun o t=>t.ownsRow z.heap.size 4 1 o (r+1) (Q.map Value.bool++ [.bool a])/\(o.ownBlock=(Value.slice K r L).ownBlock∨∃y,o.ownBlock=some y/\w1.heap.size<=y)) (R (.tmp 54)) s:=x 10 54 dC rfl;have d3:R (.tmp 55)=.pointer (some ⟨M,d,none⟩):=x 11 55 dC rfl;simp only [zqq];rw [d3];clear x;obtain ⟨X,a1⟩:=dV;have bq:=Bits.push (v:=R (.tmp 54)) (b:=a) cJ.out ag (by rw [bM.out];exact j) (by simp only [b4.out,cU.out];exact X) (by rw [bM.out];exact a1);obtain ⟨G,I,d2,_,_⟩:=aR X;rw [d2] at bq⊢;have a9:=j.bk cL.out bz;have e7:s.cell? ⟨M,d,none⟩=some (.slice K r L):=(j.cell (p:=⟨M,d,none⟩) bi bz).trans bP.out;have eh:=a9.frozen d;have bT:=lhd bq;have ek:=a9.lt;clear bq a9 X a1;change wpAny prog Region.Mode.any _ _ (1+C) (bX 12 13) _ s;rw [zCs 1 C];refine bG (f:=C) (i:=12) kR ?_;refine bV rfl rfl ?_;generalize P:wpAny prog _ _ _ C _=b7;go_simp;subst P;refine bW kR ?_
               have dn:Below z.heap.size z (s.setCell ⟨M,d,none⟩ (.slice G (r+1) I)):=
                  ((ac.out.trans (ao.out.mono ct)).trans (j.to_below cB (fun a l T=>by have:=(ba _ T).1;omega))).setCell (by rw [cO.out];exact zAs _) _
               have dD:ad.heap.size<=(s.setCell ⟨M,d,none⟩ (.slice G (r+1) I)).heap.size:=by have a6:=ao.out.size;have a7:=j.size;have aw:(s.setCell ⟨M,d,none⟩ (.slice G (r+1) I)).heap.size=s.heap.size:=(by simp [World.setCell]);omega
               have cc:=bT.out.congr (R':=fun bA=>aK (w.take (J+1)) e bA) (fun bA et=>by
                  rw [cD.out,aGU,cT.out,bN.out];by_cases m:bA=d
                  · subst m;simp
                  · simp [m])
               have cM:=lhd cc;clear cc bT;go_wp2_with fail;go_roundw
               case rel=>exact ⟨J+1,_,by omega,by go_num,cM.out,dn,dD⟩
               case measure=>simp [intOf];omega
           · have du:J=u:=oM;subst du;have df:w.take J=w:=zAg (by rw [aq.out];omega);rw [df] at ay;have aZ:=lhd ay;obtain ⟨V,dh⟩:∃V,V=wr:=⟨_,rfl⟩;subst dh;have dL:E.heap.size<=V.heap.size:=zAk ap.out.size a2.size;have ac:=lhd a2;clear ay a2;obtain ⟨dR,da,db,dc,dd⟩:=info_parts aD8;go_wp2_with fail;go_loopw [59] (fun k an=>∃(d:Nat) (o:Value),d<=D/\k=.int .i64 d/\Bits an z.heap.size M D b8 (fun d=>aK w e d)/\Keep (fun a=>a=g) z an/\V.heap.size<=an.heap.size/\Bk an g 154 (wcells (fun k=>if k=e then o else S k) (J:Int) 0)/\∃a5:Nat->Nat,(∀a,a < z.heap.size->a5 a=jT a)/\(∀a,a5 a≠0->E.heap.size<=a/\a < an.heap.size)/\ShelfE an a5 V.heap.size o w e d) (fun k _=>D -(intOf k).toNat)
             case atStart=>
              refine ⟨0,.slice none 0 0,by omega,rfl,aZ.out,(Keep.of_below ac.out),zAs _,?_,jT,fun _ _=>rfl,fun a l=>⟨(ar.out.bnd a l).1,zAl (ar.out.bnd a l).2 ac.out.size⟩,(fun _=>0),World.ownsRow_nil _ _ _ _,fun a l=>(by cases l),fun d a3=>absurd a3 oM⟩
              have dg:(fun k=>if k=e then Value.slice none 0 0 else S k)=S:=by
                  funext k;by_cases m:k=e
                  · rw [zBx m,m,bQ.out e nL]
                  · rw [zBw m]
              rw [dg];exact aG.out.below ac.out aG.out.lt
             case round=>
              obtain ⟨d,o,a3,rfl,aj,ak,cr,W,a5,aB,aP,bs⟩:=hrel;by_cases ag:d < D
              · have U:=aj.own d ag;obtain ⟨Q,a4⟩:=eqx (aK w e d);obtain ⟨r,aa⟩:=eqx Q.length;have co:r<=128:=(by rw [<-aa,<-a4,iW];exact zAk zBh (by rw [aq.out];exact al));simp only [a4,aa] at U;obtain ⟨K,L,a8,cp,_⟩:=aR U;rw [a8] at U;have bg:wr.cell? ⟨M,d,none⟩=some (.slice K r L):=(by rw [<-a8];exact (aj.blk.cell d).trans (nI _ _ _ ag));obtain ⟨aF,af,cx,cw⟩:=bs;obtain ⟨A,B,dK,eu,_⟩:=aR af;subst dK;have ax:=af.lt;have bj:(Value.slice A d B).ownBlock≠some g:=fun m=>bE af W dC m.symm;have cd:∀Y,157≠Y->∀a O,Bk wr a Y O->(Value.slice A d B).ownBlock≠some a:=fun Y bu a O l m=>bE af l bu m.symm;have cf:∀a,(Value.slice A d B).ownBlock=some a->∃Y O,Bk wr a Y O/\(Y=154∨Y=157):=fun a l=>by obtain ⟨O,T⟩:=eT af l;exact ⟨_,O,T,.inr rfl⟩
                have c1:wr.cell? ⟨g,e,none⟩=some (.slice A d B):=(W.cell e).trans (by rw [sY _ _ _ _ aT,zBx rfl]);have ci:=W.lt;have bi:=aj.blk.lt;have eo:d+1<=512:=oM;have dA:(d:Int) < (D:Int):=oM;have ew:=ac.out.size;obtain ⟨b3,bS,cW,cY,cQ,bO,b1,cN,bH⟩:=hqq9 U af cw cx aB aP cd cf c1;obtain ⟨ao,cP,cK,b4⟩:=hqq4 W ak aj a4;clear U af cw cx aB aP cd cf c1 W ak aj a4 a8 aa;go_wp2_with fail;refine wp_region_any kR ?_;refine cS 18 [64,65,66,67,68,69,70,71,72,73,74,75,76,77,78,79,80,81] (fun a=>(Value.slice A d B).ownBlock=some a) 14 [14] (fun t=>t.ownsRow V.heap.size 157 3 (.slice A d B) d (dY aF e d)) (fun o t=>∃n,TreeB t wr.heap.size n Q/\t.ownsRow V.heap.size 157 3 o (d+1) (dY aF e d++ [.pointer (some ⟨n,0,none⟩),.int .i64 (e:Int),.int .i64 (d:Int)])/\(o.ownBlock=(Value.slice A d B).ownBlock∨∃y,o.ownBlock=some y/\wr.heap.size<=y)) [is (.pointer (some ⟨g,0,none⟩)),is (e:Int),is (.pointer (some ⟨g,0,none⟩)),is (e:Int),is (.pointer (some ⟨g,0,none⟩)),is (.pointer (some ⟨g,0,none⟩)),is (.pointer (some ⟨g,e,none⟩)),is (.slice A d B),is (.slice K r L),fun o t=>∃n,o=.pointer (some ⟨n,0,none⟩)/\TreeB t wr.heap.size n Q,is (e:Int),is (d:Int),fun o t=>∃n,o=.agg #[.pointer (some ⟨n,0,none⟩),(e:Int),(d:Int)]/\TreeB t wr.heap.size n Q,fun o t=>∃y n,o=.slice (some ⟨y,0,none⟩) 1 1/\Bk t y 157 #[.pointer (some ⟨n,0,none⟩),(e:Int),(d:Int)]/\(Value.slice A d B).ownBlock≠some y/\TreeB t wr.heap.size n Q,cX,is (.pointer (some ⟨g,0,none⟩)),is (.pointer (some ⟨g,0,none⟩)),is (.pointer (some ⟨g,e,none⟩))] _ _ rfl dC kR kR kR (bS.out) (fun t e4 T _ bh=>aS T bh) (fun _ _ _ ⟨n,a6,a7,aw⟩ u=>⟨n,a6.below u,aS a7 u,aw⟩) (by repeat' (first | exact kG _ _ | exact iN _ | exact fun _ _ _ ⟨n,a6,a7⟩ u=>⟨n,a6,a7.keep u (fun a l=>(ax a l).2)⟩| exact fun _ _ _ ⟨y,n,a6,a7,aw,de⟩ u=>⟨y,n,a6,u.bk a7 aw,aw,de.keep u (fun a l=>(ax a l).2)⟩|(refine zAe.2 ⟨?_,?_⟩)|(intro d a3;cases a3))) ?_ ?_
                · refine bJ ?_;refine pH3 4 (.pointer (some ⟨g,0,none⟩)) ?_;refine pH3 7 (.int .i64 (e:Int)) ?_;refine pH3 4 (.pointer (some ⟨g,0,none⟩)) ?_;refine pH3 7 (.int .i64 (e:Int)) ?_;refine pV3 2 66 ?_;refine pV3 4 68 ?_;refine pW3 5 69 3 67 ?_;refine pL3 6 70 (fun q j=>have j:Keep (fun a=>(Value.slice A d B).ownBlock=some a) wr q:=kD j;((j.cell (p:=⟨g,e,none⟩) ci bj).trans bH.out:q.cell? ⟨g,e,none⟩=some (.slice A d B))) ?_;refine pH3 13 (.slice K r L) ?_;refine sC3 (fun _ q j _ _ _ _ x _ _ _ P=>?_) ?_
                  · replace j:Keep (fun a=>(Value.slice A d B).ownBlock=some a) wr q:=kD j;have ec:_=_:=x 8 72 kR rfl;go_simp;have dT:=aA b3.out (fun a O l ca=>j.bk ca (b1.out _ dC a O ca));refine (aDg K r L q.heap.size Q q (Rd.of_own dT) nL co cp).mono ?_;rintro m e5 ⟨n,rfl,dI,be⟩;exact P _ _ (aJ be) ⟨n,rfl,dI.mono j.size⟩
                  refine pH3 7 (.int .i64 (e:Int)) ?_;refine pH3 12 (.int .i64 (d:Int)) ?_;refine sC3 (fun R q _ _ _ _ _ x _ _ _ P=>?_) ?_
                  · have dW:(fun o t=>∃n,o=.pointer (some ⟨n,0,none⟩)/\TreeB t wr.heap.size n Q) (R (.tmp 73)) q:=x 9 73 kR rfl;have ee:_=_:=x 10 74 kR rfl;have ef:_=_:=x 11 75 kR rfl;obtain ⟨n,ed,dF⟩:=dW;go_simp;exact P _ _ (aJ bR) ⟨n,rfl,dF⟩
                  refine sC3 (fun R q j _ _ _ _ x _ _ _ P=>?_) ?_
                  · replace j:Keep (fun a=>(Value.slice A d B).ownBlock=some a) wr q:=kD j;have dX:(fun o t=>∃n,o=.agg #[.pointer (some ⟨n,0,none⟩),(e:Int),(d:Int)]/\TreeB t wr.heap.size n Q) (R (.tmp 76)) q:=x 12 76 kR rfl;obtain ⟨n,eg,dG⟩:=dX;go_simp;exact P _ _ (aJ (bR.alloc nL _)) ⟨_,n,rfl,Bk.new _ _ _,fun T=>by have:=(ax _ T).2;have:=j.size;omega,dG.below (bR.alloc nL _)⟩
                  refine sC3 (fun R q j bb _ _ _ x _ _ bc P=>?_) ?_;replace j:Keep (fun a=>(Value.slice A d B).ownBlock=some a) wr q:=kD j;have bp:=bb rfl;have d4:_=_:=x 7 71 kR rfl;have dZ:(fun o t=>∃y n,o=.slice (some ⟨y,0,none⟩) 1 1/\Bk t y 157 #[.pointer (some ⟨n,0,none⟩),(e:Int),(d:Int)]/\(Value.slice A d B).ownBlock≠some y/\TreeB t wr.heap.size n Q) (R (.tmp 77)) q:=x 13 77 kR rfl;obtain ⟨d9,n,d5,dp,es,dH⟩:=dZ;subst bc;have bv:V.heap.size<=q.heap.size:=zAk cr j.size;refine eR q (.tmp 71) (.tmp 77) _ rfl V.heap.size 157 dR _ 3 24 underlying151 da db dc dd rfl dC (.slice A d B) d (dY aF e d) d4 bp q.heap.size (some ⟨d9,0,none⟩) 1 1 _ d5 (wM dp rfl) (by simp [Value.oneCell']) (by unfold maxLen;omega) oM bv ?_;intro e3 s X Z a1;have cy:Keep (fun a=>(Value.slice A d B).ownBlock=some a) q s:=⟨Z.os,Z.tape,Z.output,Z.size,fun u aQ bm=>Z.block u aQ (fun m=>bm m.symm)⟩;exact P _ _ (aV cy) ⟨n,dH.keep cy (fun a l=>(ax a l).2),X,a1.elim .inl fun m=>.inr ⟨_,m,j.size⟩⟩;refine pV3 0 64 ?_;refine pV3 15 79 ?_;refine pW3 16 80 1 65 ?_;exact aD
                · intro R s C j x;replace j:Keep (fun a=>(Value.slice A d B).ownBlock=some a) wr s:=kD j;have e0:(fun o t=>∃n,TreeB t wr.heap.size n Q/\t.ownsRow V.heap.size 157 3 o (d+1) (dY aF e d++ [.pointer (some ⟨n,0,none⟩),.int .i64 (e:Int),.int .i64 (d:Int)])/\(o.ownBlock=(Value.slice A d B).ownBlock∨∃y,o.ownBlock=some y/\wr.heap.size<=y)) (R (.tmp 78)) s:=x 14 78 dC rfl;have d7:R (.tmp 81)=.pointer (some ⟨g,e,none⟩):=x 17 81 dC rfl;simp only [zqq];rw [d7];clear x;obtain ⟨n,cu,X,a1⟩:=e0;obtain ⟨G,I,d6,_,_⟩:=aR X;rw [d6] at X a1⊢;have cG:=lhd a1;clear a1;have a9:=j.bk ao.out bj;have e8:s.cell? ⟨g,e,none⟩=some (.slice A d B):=(j.cell (p:=⟨g,e,none⟩) ci bj).trans bH.out;have ei:=a9.frozen e;obtain ⟨aX,cR,cV⟩:=hqq3 a9 X cu;have el:=a9.lt;clear a9 X cu;change wpAny prog Region.Mode.any _ _ (1+C) (bX 18 19) _ s;rw [zCs 1 C];refine bG (f:=C) (i:=18) kR ?_;refine bV rfl rfl ?_;generalize P:wpAny prog _ _ _ C _=b7;go_simp;subst P;refine bW kR ?_;have aE:Keep (fun a=>a=g) s (s.setCell ⟨g,e,none⟩ (.slice G (d+1) I)):=Keep.setCell (F:=fun a=>a=g) (Keep.refl _ _) (p:=⟨g,e,none⟩) (.inl rfl) _;have aU:∀Y,154≠Y->∀a O,Bk s a Y O->Bk (s.setCell ⟨g,e,none⟩ (.slice G (d+1) I)) a Y O:=fun Y bu a O l=>l.far (fun m=>Bk.ne aX.out l bu m.symm) _;have cz:Keep (fun a=>a=g) z (s.setCell ⟨g,e,none⟩ (.slice G (d+1) I)):=(cP.out.trans' j (fun a l C=>by have:=(ax a C).1;omega)).trans aE;have bY:=cK.out.same (w':=s.setCell ⟨g,e,none⟩ (.slice G (d+1) I)) (fun a O l=>aU _ dC _ _ (j.bk l (b1.out _ dC a O l))) (fun a O l=>aU _ dC _ _ (j.bk l (b1.out _ dC a O l)));have aI:=aX.out.set e (.slice G (d+1) I);rw [aDW _ _ _ e aT] at aI
                  have c2:(fun bw=>if bw=e then Value.slice G (d+1) I else if bw=e then Value.slice A d B else S bw)=(fun k=>if k=e then Value.slice G (d+1) I else S k):=by
                     funext k;by_cases m:k=e
                     · rw [zBx m,zBx m]
                     · rw [zBw m,zBw m,zBw m]
                  rw [c2] at aI;have bx:Keep (fun a=>(Value.slice A d B).ownBlock=some a∨a=g) wr (s.setCell ⟨g,e,none⟩ (.slice G (d+1) I)):=(j.mono fun a _ C=>.inl C).trans (aE.mono fun a _ C=>.inr C);have dE:s.heap.size=(s.setCell ⟨g,e,none⟩ (.slice G (d+1) I)).heap.size:=(by simp [World.setCell]);have bo:=aA (w':=s.setCell ⟨g,e,none⟩ (.slice G (d+1) I)) cR.out fun a O _ l=>aU _ dC _ _ l;have cC:ShelfE (s.setCell ⟨g,e,none⟩ (.slice G (d+1) I)) (zF a5 wr.heap.size (Value.slice G (d+1) I).ownBlock (s.setCell ⟨g,e,none⟩ (.slice G (d+1) I)).heap.size (TC e d)) V.heap.size (.slice G (d+1) I) w e (d+1):=(by refine ShelfE.next (H:=fun a=>(Value.slice A d B).ownBlock=some a∨a=g) aT (by rw [b2.out];exact ag) bS.out cY.out cW.out (fun a l=>(bO.out a l).2) bx (fun a C=>?_) ?_ bo cG.out;rcases C with C | C;exact cN.out a C;subst C;exact ⟨_,_,ao.out,.inl rfl⟩;rw [b4.out];exact cV.out.own.keepT aE fun a m=>⟨_,_,(show a=g from m)▸ aX.out,.inl rfl⟩);have cA:∀a,a < z.heap.size->zF a5 wr.heap.size (Value.slice G (d+1) I).ownBlock (s.setCell ⟨g,e,none⟩ (.slice G (d+1) I)).heap.size (TC e d) a=jT a:=fun a l=>by unfold zF;rw [zBx (by have:=ac.out.size;omega)];exact cQ.out a l
                  have bZ:=aH7 (v:=(Value.slice G (d+1) I).ownBlock) (c:=TC e d) bO.out bx.size oM (fun a l=>(bo.lt a l).2);obtain ⟨b7,cZ⟩:=hqq2 cA bZ;clear cA bZ bo bx dE;have e1:V.heap.size<=(s.setCell ⟨g,e,none⟩ (.slice G (d+1) I)).heap.size:=zAk cr (zAk j.size aE.size);obtain ⟨au,av,b5,b6⟩:=hqq4 cz bY aI cC;clear aE aU cz bY aI cC c2;go_wp2_with fail;go_roundw
                  case rel=>exact ⟨d+1,_,by omega,by go_num,av.out,au.out,e1,b5.out,_,b7.out,cZ.out,b6.out⟩
                  case measure=>simp [intOf];omega
              · have dB:d=D:=oM;subst dB;have c5:Below E.heap.size E wr:=ap.out.trans (ak.to_below ap.out.size (fun a l m=>by have:=aH.out;omega));have dj:ai.heap.size<=wr.heap.size:=zAk di ak.size;have cq:RowsE wr a5 E.heap.size g (fun k=>if k=e then o else S k) w (e+1):=(by have ds:g < z.heap.size:=aG.out.lt;refine ⟨aP,by rw [aB g ds];exact ar.out.gv2,fun k bl=>?_⟩;show ShelfE wr a5 E.heap.size (if k=e then o else S k) w k (2 ^ k);by_cases m:k=e;subst m;rw [zBx rfl,b2.out];exact bs.mono dL fun _ _ _=>rfl;rw [zBw m];exact ((ar.out.rows k oM).keepW ak aG.out).mono nL fun a _ dz=>aB a (ar.out.bnd a dz).2);have cn:∀k,e+1<=k->(if k=e then o else S k)=.slice none 0 0:=(by intro k bl;rw [zBw oM];exact bQ.out k oM);obtain ⟨au,av,b5,b6⟩:=hqq4 c5 cq cn W;clear c5 cq cn W aj ak bs aB aP;go_wp2_with fail;go_roundw
                case rel=>exact ⟨e+1,by omega,by go_num,au.out,dj,_,a5,b6.out,av.out,b5.out⟩
                case measure=>simp [intOf];omega
        · have dy:e=9:=oM;subst dy;have ce:WaveE wr E.heap.size jT g w:=⟨S,0,by rw [aq.out];exact aN,⟨by have:=aH.out;omega,am.gv2⟩,fun k bl=>am.rows k bl,am.bnd⟩;obtain ⟨au,av⟩:=hqq2 ce ae;clear ce ae aN am bn;go_wp2_with fail;go_ret2;exact ⟨g,jT,rfl,au.out,av.out⟩
theorem mJ (a b:Nat) (e:a < 4294967296) (f:b < 4294967296):bits .xor .u32 (a:Int) (b:Int)=((a ^^^ b:Nat):Int):=by
 have g:a ^^^ b < 2 ^ 32:=Nat.xor_lt_two_pow oM oM;have c:(BitVec.ofInt 32 (a:Int)).toNat=a:=by rw [BitVec.ofInt_natCast,BitVec.toNat_ofNat];exact zBu oM
 have d:(BitVec.ofInt 32 (b:Int)).toNat=b:=by rw [BitVec.ofInt_natCast,BitVec.toNat_ofNat];exact zBu oM
 show IntKind.u32.wrap ((BitVec.ofInt 32 (a:Int)^^^ BitVec.ofInt 32 (b:Int)).toNat:Int)=_;rw [BitVec.toNat_xor,c,d,IntKind.wrap_u32];omega
theorem aC4 (a b:Nat) (e:a < 256) (f:b < 256):bits .xor .u8 (a:Int) (b:Int)=((a ^^^ b:Nat):Int):=by
 have g:a ^^^ b < 2 ^ 8:=Nat.xor_lt_two_pow oM oM;have c:(BitVec.ofInt 8 (a:Int)).toNat=a:=by rw [BitVec.ofInt_natCast,BitVec.toNat_ofNat];exact zBu oM
 have d:(BitVec.ofInt 8 (b:Int)).toNat=b:=by rw [BitVec.ofInt_natCast,BitVec.toNat_ofNat];exact zBu oM
 show IntKind.u8.wrap ((BitVec.ofInt 8 (a:Int)^^^ BitVec.ofInt 8 (b:Int)).toNat:Int)=_;rw [BitVec.toNat_xor,c,d,IntKind.wrap_u8];omega
theorem aBA (a:Nat) (d:a < 4294967296):bits .and .u32 (a:Int) 1=((a % 2:Nat):Int):=by
 have b:(BitVec.ofInt 32 (a:Int)).toNat=a:=by rw [BitVec.ofInt_natCast,BitVec.toNat_ofNat];exact zBu oM
 show IntKind.u32.wrap ((BitVec.ofInt 32 (a:Int)&&& BitVec.ofInt 32 (1:Int)).toNat:Int)=_;rw [BitVec.toNat_and,b];have c:(BitVec.ofInt 32 (1:Int)).toNat=1:=dC;rw [c,IntKind.wrap_u32,Nat.and_one_is_mod];omega
theorem aDQ (a:Nat) (i:a < 4294967296) (d:World):
 Calls prog 207 #[.int .u32 (a:Int),.bool false] d fun e j=>e=.returned (.int .u32 ((mH a:Nat):Int))/\Below d.heap.size d j:=by
 have k:=aBA a i;go_enter func207,ntmps207;go_wp2_with fail
 · go_ret;refine ⟨?_,Below.refl _ _⟩
   rename_i b
   have c:a % 2=1:=(by have:=eq_of_beq b;omega);have f:((a:Int)/ 2)=((a / 2:Nat):Int):=oM;have g:(3988292384:Int)=((3988292384:Nat):Int):=rfl;show Ending.returned (Value.int .u32 (bits .xor .u32 ((a:Int)/ 2) 3988292384))=_;rw [f,g,mJ _ _ oM oM,mH,zBx c]
 · go_ret;refine ⟨?_,Below.refl _ _⟩
   rename_i b
   have c:¬a % 2=1:=(by intro l;have:((a:Int)% 2==1)=true:=zCq.2 oM;rw [this] at b;cases b);show Ending.returned (Value.int .u32 ((a:Int)/ 2))=_;rw [mH,zBw c];rfl
def zC (b c:Nat):Nat->Nat:=fun a=>if a < b then jX a else if a=b then c else 0
theorem aHr (b f e:Nat):(fun c=>if c=b then e else zC b f c)=zC b e:=by
 funext c;unfold zC;by_cases a:c=b
 · rw [zBx a,zBw oM,zBx a]
 · rw [zBw a];by_cases d:c < b
   · rw [zBx d,zBx d]
   · rw [zBw d,zBw d,zBw a,zBw a]
theorem aFZ (a:Nat):zC a (jX a)=zC (a+1) 0:=by
 funext p;unfold zC;by_cases b:p < a
 · rw [zBx b,zBx oM]
 · rw [zBw b];by_cases c:p=a
   · subst c;rw [zBx rfl,zBx oM]
   · rw [zBw c,zBw oM];split <;> rfl
@[irreducible] def crcC:Array Value:=kC .u32 256 jX
@[irreducible] def tabC (a d:Nat):Array Value:=kC .u32 256 (zC a d)
theorem aCg {a d b:Nat} (c:a < 256):(tabC a d).setIfInBounds a (.int .u32 (b:Int))=tabC a b:=by
 unfold tabC;rw [lK c,aHr]
theorem vQ {a b:Nat} (c:a < 256):(tabC a b)[a]?=some (.int .u32 (b:Int)):=by
 unfold tabC;rw [fS c];unfold zC;rw [zBw oM,zBx rfl]
theorem aF1 (a:Nat):tabC a (rZ 8 a)=tabC (a+1) 0:=by
 unfold tabC;rw [<-aFZ];rfl
theorem aAp:Array.replicate 256 (Value.int .u32 0)=tabC 0 0:=by
 unfold tabC;rw [pA];exact dE fun b a=>by unfold zC;rw [zBw oM];split <;> rfl
theorem aHs (b:Nat):tabC 256 b=crcC:=by
 unfold tabC crcC;exact dE fun c a=>by unfold zC;rw [zBx a]
theorem aIL {a:Nat} (b:a < 256):crcC[a]?=some (.int .u32 ((jX a:Nat):Int)):=by
 unfold crcC;exact fS b
theorem oY:crcC.size=256:=by unfold crcC;exact lJ _ _ _
theorem aF0 (a b:Nat):(tabC a b).size=256:=by unfold tabC;exact lJ _ _ _
theorem aFX {b a:World} {d:Array Value} {c:Nat} (j:d.getD 0 undef=.pointer (some ⟨c,0,none⟩)) (g:Bk a c 196 crcC) (k:(prog.info? 196).map (·.size)=some crcC.size) (i:Below b.heap.size b a):
 bodyPost prog f162 (fun e a=>e=.returned (.agg crcC)/\Below b.heap.size b a) .ret ⟨d, []⟩ a:=
 bodyPost_ret (results_cell_row (P:=prog) (fn:=f162) (p:=0) (ty:=196) rfl d a c 196 crcC (0,0) _ j g underlying196 rfl k) rfl ⟨rfl,i⟩
theorem aKb (a:Nat) (d:a < 4294967296):bits .xor .u32 IntKind.u32.max (a:Int)=((4294967295 - a:Nat):Int):=by
 have b:IntKind.u32.max=((4294967295:Nat):Int):=dC;rw [b,mJ _ _ oM d];congr 1;have c:(4294967295:Nat)^^^ a=(BitVec.allOnes 32 ^^^ BitVec.ofNat 32 a).toNat:=by rw [BitVec.toNat_xor,BitVec.toNat_ofNat,zBu (by omega:a < 2 ^ 32)];rfl
 rw [c,BitVec.allOnes_xor,BitVec.toNat_not,BitVec.toNat_ofNat,zBu (by omega:a < 2 ^ 32)]
theorem aB6 (b:World):
 Calls prog 162 #[] b fun t C=>t=.returned (.agg crcC)/\Below b.heap.size b C:=by
 go_enter func162,ntmps162;go_wp2_with fail;go_loopw [3] (fun d wr=>∃(a:Nat) (j:Nat),a<=256/\d=.int .i64 (a:Int)/\Bk wr b.heap.size 196 (tabC 0 0)/\Bk wr (b.heap.size+1) 196 (tabC a j)/\(a < 256->j=0)/\Below b.heap.size b wr) (fun d _=>256 -(intOf d).toNat)
 case atStart=>refine ⟨0,0,by omega,rfl,?_,?_,fun _=>rfl,?_⟩;rw [<-aAp];exact (Bk.new _ _ _).alloc _;rw [<-aAp];have u:=Bk.new (b.alloc (.cells Tryz.zeroCells196 196)) 196 Tryz.zeroCells196;rw [show (b.alloc (.cells Tryz.zeroCells196 196)).heap.size=b.heap.size+1 by simp] at u;exact u;exact (bR.alloc nL _).alloc (by simp) _
 case round=>
  obtain ⟨a,j,M,rfl,l,e,i,v⟩:=hrel;by_cases f:a < 256
  · have B:=i f;subst B;have J:((a:Int) < 256):=oM;have E:wr.cell? ⟨b.heap.size+1,a,none⟩=some (.int .u32 0):=(e.cell a).trans (vQ f);have H:=e.frozen a;go_wp2_with fail;go_loopw [10] (fun d r=>∃c:Nat,c<=8/\d=.int .i64 (c:Int)/\Bk r b.heap.size 196 (tabC 0 0)/\Bk r (b.heap.size+1) 196 (tabC a (rZ c a))/\Below b.heap.size b r) (fun d _=>8 -(intOf d).toNat)
    case atStart=>refine ⟨0,by omega,rfl,l.far (by simp) _,?_,v.setCell (by simp) _⟩;have:=e.set a (.int .u32 (a:Int));rw [aCg f] at this;exact this
    case round=>
        obtain ⟨c,K,rfl,o,g,n⟩:=hrel;by_cases N:c < 8
        · have L:((c:Int) < 8):=oM;have F:wr.cell? ⟨b.heap.size+1,a,none⟩=some (.int .u32 ((rZ c a:Nat):Int)):=(g.cell a).trans (vQ f);go_wp2_with fail;refine (aDQ (rZ c a) (xL oM c) _).mono ?_;rintro t D ⟨rfl,m⟩;have p:=g.below m g.lt;have A:=o.below m o.lt;have G:D.cell? ⟨b.heap.size+1,a,none⟩=some (.int .u32 ((rZ c a:Nat):Int)):=(p.cell a).trans (vQ f);have I:=p.frozen a;go_wp2_with fail;go_roundw
          case rel=>refine ⟨c+1,by omega,by go_num,A.far (by simp) _,?_,(n.trans (m.mono n.size)).setCell (by simp) _⟩;have:=p.set a (.int .u32 ((mH (rZ c a):Nat):Int));rw [aCg f] at this;exact this
          case measure=>simp [intOf];omega
        · have q:c=8:=oM;subst q;go_wp2_with fail;go_roundw
          case rel=>rw [aF1] at g;exact ⟨a+1,0,by omega,by go_num,o,g,fun _=>rfl,n⟩
          case measure=>simp [intOf];omega
  · have q:a=256:=oM;subst q;rw [aHs] at e;obtain ⟨s,y⟩:=hqq2 l e;clear l e;have x:(prog.info? 196).map (·.size)=some crcC.size:=(by rw [oY];kernel_rfl);have w:crcC.all (·.oneCell')=true:=(by unfold crcC kC;rw [Array.all_eq_true_iff_forall_mem];intro j i;rw [List.mem_toArray,zAy] at i;obtain ⟨O,_,rfl⟩:=i;rfl);obtain ⟨k,z⟩:=hqq2 x w;clear x w;go_wp2_with (first |(refine wpList_load_row (P:=prog) rfl 196 (.tmp 1) rfl (b.heap.size+1) rfl 196 crcC (0,0) _ y.out underlying196 rfl k.out ?_)|(refine wpList_store_row (P:=prog) rfl 196 (.tmp 0) (.tmp 20) rfl b.heap.size crcC rfl rfl 196 (tabC 0 0) s.out k.out (by rw [aF0,oY]) z.out ?_));exact aFX rfl (setRow_heap wr b.heap.size _ crcC _ _ s.out) k.out (below_setRow v nL _)
theorem aDR (d:Nat) (H:d < 4294967296) (q:Option Addr) (f C:Nat) (b:List UInt8) (g:World) (o:Rd g g.heap.size 1 q f (b.map bv)) (T:f<=1099511627776):
 Calls prog 103 #[.int .u32 (d:Int),.slice q f C] g fun r L=>r=.returned (.int .u32 ((aBs d b:Nat):Int))/\Below g.heap.size g L:=by
 have R:b.length=f:=by have:=o.1;simpa using this
 have z:=lhd o;clear o;have w:(prog.info? 196).map (·.size)=some crcC.size:=by rw [oY];kernel_rfl
 have v:crcC.all (·.oneCell')=true:=by unfold crcC kC;rw [Array.all_eq_true_iff_forall_mem];intro c j;rw [List.mem_toArray,zAy] at j;obtain ⟨V,_,rfl⟩:=j;rfl
 obtain ⟨B,A⟩:=hqq2 w v;clear w v;go_enter func103,ntmps103;go_wp2_with fail;refine (aB6 _).mono ?_;rintro r w1 ⟨rfl,t⟩;go_wp2_with (refine wpList_store_row (P:=prog) rfl 196 (.tmp 5) (.tmp 8) rfl w1.heap.size crcC rfl rfl 196 Tryz.zeroCells196 (heap_alloc_new _ _) B.out (by rw [oY];kernel_rfl) A.out ?_;rw [World.setRow_alloc_new]);rw [aKb d H];have F:=t.size;go_loopw [0,13] (fun c p wr=>∃a:Nat,a<=f/\p=.int .i64 (a:Int)/\c=.int .u32 ((tZ (b.take a) (4294967295 - d):Nat):Int)/\Bk wr w1.heap.size 196 crcC/\Below g.heap.size g wr) (fun _ p _=>f -(intOf p).toNat)
 case atStart=>exact ⟨0,by omega,rfl,by rw [List.take_zero];rfl,Bk.new _ _ _,t.alloc F _⟩
 case round=>
  obtain ⟨a,S,rfl,rfl,u,m⟩:=hrel;by_cases G:a < f
  · obtain ⟨M,U,W,rfl,Q,i,D⟩:=(z.out.below m).get G;rw [zAf] at i;obtain ⟨e,y⟩:∃e,b[a]?=some e:=⟨_,zAa oM⟩;rw [y] at i;injection i with i;subst i;have I:b.take (a+1)=b.take a++ [e]:=(by rw [zAv,y];rfl);have l:=xM (b.take a) e (4294967295 - d);rw [<-I] at l;have x:=sA (b.take a) (4294967295 - d) oM;obtain ⟨c,j⟩:=eqx (tZ (b.take a) (4294967295 - d));rw [j] at l x;rw [j];have n:=aIK x e;have J:=e.toNat_lt;have s:bits .xor .u8 ((c:Int)% 256) (e.toNat:Int)=(((c % 256)^^^ e.toNat:Nat):Int):=(by have:((c:Int)% 256)=((c % 256:Nat):Int):=oM;rw [this,aC4 _ _ oM J]);obtain ⟨k,K⟩:=eqx ((c % 256)^^^ e.toNat);rw [K] at l n s;have N:wr.cell? ⟨w1.heap.size,k,none⟩=some (.int .u32 ((jX k:Nat):Int)):=(u.cell k).trans (aIL n);have O:bits .xor .u32 ((jX k:Nat):Int) ((c:Int)/ 256)=((jX k ^^^(c / 256):Nat):Int):=(by have:((c:Int)/ 256)=((c / 256:Nat):Int):=oM;rw [this,mJ _ _ (aAD n) oM]);unfold bv at D;go_wp2_with fail;go_roundw
    case rel=>exact ⟨a+1,by omega,by go_num,by rw [l],u,m⟩
    case measure=>simp [intOf];omega
  · have E:a=f:=oM;subst E;rw [zAg (by omega:b.length<=a)];have s:=aKb _ (sA b (4294967295 - d) oM);go_wp2_with fail;go_ret;exact ⟨rfl,m⟩
theorem pE (e m:Option Addr) (d g q:Nat) (f:List UInt8) (a:World) (v:Rd a a.heap.size 1 e d (f.map bv)) (t:d<=1099511627776) (u:Rd a a.heap.size 1 m 1 [.slice e d g]):
 Calls prog 44 #[.slice m 1 q] a fun n y=>n=.returned (.int .u32 ((mI f:Nat):Int))/\Below a.heap.size a y:=by
 obtain ⟨p,w,B,rfl,s,j,o⟩:=u.get (k:=0) oM;injection j with j;subst j;go_enter func44,ntmps44;go_wp2_with fail;go_loopw [3,8] (fun x l wr=>∃b:Nat,b<=1/\l=.int .i64 (b:Int)/\x=.int .u32 (((if b=0 then 0 else mI f):Nat):Int)/\Below a.heap.size a wr) (fun _ l _=>1 -(intOf l).toNat)
 case atStart=>exact ⟨0,by omega,rfl,rfl,Below.refl _ _⟩
 case round=>
  obtain ⟨b,z,rfl,rfl,c⟩:=hrel;by_cases A:b < 1
  · have i:b=0:=oM;subst i;have o:wr.cell? ⟨p,w,none⟩=some (.slice e d g):=(c.cell s).trans o;rw [zBx rfl];go_wp2_with fail;refine (aDR 0 oM e d g f wr ((v.below c).mono c.size) t).mono ?_;rintro n w1 ⟨rfl,r⟩;go_wp2_with fail;go_roundw
    case rel=>exact ⟨1,by omega,rfl,rfl,c.trans (r.mono c.size)⟩
    case measure=>simp [intOf]
  · have i:b=1:=oM;subst i;rw [zBw oM];go_wp2_with fail;go_ret;exact ⟨rfl,c⟩
theorem sJ (e:Option Addr) (a j v:Nat) (b:List UInt8) (c:World) (q:Rd c v 1 e a (b.map bv)) (Z:v<=c.heap.size) (a5:a<=1000000):
 Calls prog 42 #[.slice e a j] c fun f P=>∃s C,f=.returned (.slice s (dU b).length C)/\Made P c.heap.size 5 1 s (dU b).length C ((dU b).map bv)/\Below c.heap.size c P:=by
 have p:b.length=a:=by have:=q.1;simpa using this
 obtain ⟨k0,m⟩:=eqx ((cB a).length);have a4:k0<=11:=by rw [<-m];exact dH a
 obtain ⟨B,k⟩:=eqx ((dU b).length);have a2:B<=2000000:=by rw [<-k,jL,p,m];omega
 obtain ⟨Q,W,S,U⟩:=hqq4 (q.mono Z) m k p;have a3:=aFM b;rw [k];clear q m k p;go_enter func42,ntmps42;go_wp2_with fail;refine (yR _ _ _ _ [a] _ (cB a) k0 (qG a) W.out (Rd.made _ _ 1 1 _ rfl) nL (by simp;omega) oM).mono ?_;rintro f w1 ⟨t,D,rfl,J,F⟩;have l:=((Below.refl c.heap.size c).alloc nL _).trans (F.mono (by simp));have M:=J.rd;obtain ⟨n,z,x⟩:=hqq3 (Q.out.below l) M l;have r:=l.size;clear J F l M;go_wp2_with fail;refine (pE e _ a j _ b _ (((n.out.alloc r _).mono (by simp;omega))) oM (Rd.made _ _ 1 1 _ rfl)).mono ?_;rintro f a9 ⟨rfl,G⟩;have g:=((Below.refl w1.heap.size w1).alloc nL _).trans (G.mono (by simp));obtain ⟨w,A,y⟩:=hqq3 (n.out.below (g.mono r)) (z.out.below g) (x.out.trans (g.mono r));have a6:=g.size;clear g G n z x;go_wp2_with fail;refine (aAS (mI b) _).mono ?_;rintro f d ⟨u,E,rfl,K,i⟩;have N:=K.rd;obtain ⟨R,Y,V,o⟩:=hqq4 (w.out.below (i.mono oM)) (A.out.below (i.mono oM)) N (y.out.trans (i.mono oM));have a7:=i.size;clear i K N w A y;go_wp2_with fail
 have I:=mU (some ⟨d.heap.size,0,none⟩) 3 3 (d.heap.size+1) [⟨t,k0,D,cB a⟩,⟨e,a,j,b⟩,⟨u,4,E,rW (mI b)⟩] (dU b) B (by unfold dU;rw [U.out];simp [gG]) S.out (d.alloc (.cells #[.slice t k0 D,.slice e a j,.slice u 4 E] 26)) ((Rd.made d _ 1 3 _ rfl).mono (by simp)) (by
  intro a8 O;simp at O;rcases O with rfl | rfl | rfl;exact (Y.out.mono oM).alloc oM _ |>.mono oM;exact (R.out.mono oM).alloc oM _ |>.mono oM
  · exact (V.out.alloc oM _).mono oM) (by simp) oM oM
 refine I.mono ?_;clear I;rintro f aa ⟨a0,a1,rfl,L,H⟩;have X:=lhd (L.mono (B':=c.heap.size) (by simp;have:=o.out.size;omega));have T:=lhd (o.out.trans ((((Below.refl d.heap.size d).alloc nL _).trans (H.mono (by simp))).mono o.out.size));clear L H;go_wp2_with fail;go_ret;exact ⟨_,_,rfl,X.out,T.out⟩
end
section
theorem aGy {a:List UInt8} {b:List Nat} (i:IsSuf (aF a) b) {c:Nat} (f:b[c]?=some 0):(aE (aF a) b)[c]?=some 0:=by
 unfold aE;rw [zAf,f];obtain ⟨d,e,g⟩:=eE a;show some (bM (aF a) 0)=some 0;rw [bT oM,d];have:a.length+1 - 1=a.length:=oM;rw [this,e]
theorem aEQ {a:List UInt8} {e:List Nat} (i:IsSuf (aF a) e):(aE (aF a) e).count 0=1:=by
 obtain ⟨c,f,g⟩:=eE a;unfold aE;rw [List.count_eq_countP,List.countP_map,i.count,c,fX (m:=a.length) _ (fun b=>(aF a).getD b 0==0)]
 · rw [List.range_succ,List.countP_append];have j:(List.range a.length).countP (fun b=>(aF a).getD b 0==0)=0:=List.countP_eq_zero.2 fun b d k=>by have:=g b (zCj.1 d);rw [zCq] at k;omega
   rw [j];simp only [List.countP_singleton,f];rfl
 · simp only [Function.comp];rw [bT oM,c];congr 2
 · intro b d;simp only [Function.comp];rw [aY oM]
theorem aGu {b:List Nat} {c d:Nat} (g:b[c]?=some d) (a:Nat):cH b a (c+1)=if a=d then cH b a c+1 else cH b a c:=by
 unfold cH;rw [zAv,g,zCc];by_cases e:a=d;subst e;rw [zBx rfl];simp;omega
 · rw [zBw e];have:([d]:List Nat).count a=0:=(by rw [List.count_eq_zero];intro f;simp at f;exact e f);show _+((b.take c).count a+ [d].count a)=_;rw [this,zBq]
end
section
open Go.RowKit Go.Shelf
attribute [local go_sem] Oper.semAt_some
def nG (a:List Nat) (c:Nat×Nat) (b:UInt8):Nat×Nat:=(cH a (b.toNat+1) c.1,cH a (b.toNat+1) c.2)
structure FInv (w0:World) (Bw gl gb glo gs b3:Nat) (sl:Value) (L:List Nat) (pre:List (Nat×UInt8)) (W:World):Prop where
 lo:Bk W glo 3 #[.int .i64 ((((pre.map (·.2)).foldl (nG L) (0,L.length)).1:Nat):Int)]
 hi:Bk W (glo+1) 3 #[.int .i64 ((((pre.map (·.2)).foldl (nG L) (0,L.length)).2:Nat):Int)]
 lv:LvW W Bw gl L
 box:Bk W gb 23 #[gl]
 bs:Bk W gs 26 #[sl]
 dat:∃t cs,Bk W b3 t cs/\t∈ [5,26]
 vis:VB Bw w0 W
theorem FInv.own {w0:World} {q v u w x t p:Nat} {C:Value} {r:List Nat} (D:w0.heap.size<=p):OwnFrom p (fun B k=>FInv w0 q v u w x t C r B k):=by
 intro F k s row a d n;have g:∀b i f,Bk k b i f->Bk s b i f:=by intro b i f e;refine (d.block b e.lt fun c=>?_).trans e;obtain ⟨_,E,j,A⟩:=n b c.symm;unfold Bk at e;rw [e] at j;injection j with j;subst j;cases A
 obtain ⟨i,f,y,z⟩:=a.dat;refine ⟨g _ _ _ a.lo,g _ _ _ a.hi,a.lv.same g,g _ _ _ a.box,g _ _ _ a.bs,⟨i,f,g _ _ _ y,z⟩,⟨d.os.trans a.vis.1.os,d.tape.trans a.vis.1.tape,d.output.trans a.vis.1.output,zAk a.vis.1.size d.size,fun b e m=>?_⟩,⟨d.os.trans a.vis.1.os,d.tape.trans a.vis.1.tape,d.output.trans a.vis.1.output,zAk a.vis.1.size d.size,fun b e m=>(d.block b (zAl e a.vis.1.size) fun c=>?_).trans (a.vis.2.block b e m)⟩⟩;rcases a.vis.1.block b e m with c |⟨f,o,c,l⟩|⟨f,o,c,l⟩;refine .inl ((d.block b (zAl e a.vis.1.size) fun c=>?_).trans c);have:=(n b c.symm).1;omega;exact .inr (.inl ⟨f,o,c,g _ _ _ l⟩);exact .inr (.inr ⟨f,o,c,g _ _ _ l⟩);have:=(n b c.symm).1;omega
end
section
open Go.RowKit
theorem mK (a:List UInt8):(⟨a.toArray⟩:ByteArray).size=a.length:=by simp [ByteArray.size]
theorem aD6 {c:List UInt8} {b:Nat} {d:UInt8} (e:c[b]?=some d):∀a,(Instr.index 9 (.string ⟨c.toArray⟩) (.int .i64 (b:Int))).run prog a=.ok (.int .u8 (d.toNat:Int)) a:=fun a=>by
 obtain ⟨f,g⟩:=zAc.1 e;rw [aCp (P:=prog) 9 underlying9 ⟨c.toArray⟩ b (by rw [mK];exact f) a];congr 4
theorem aCj {a:List UInt8} {b c:Nat} {d e:UInt8} (j:a[b]?=some d) (k:a[c]?=some e):sufLt (aF a) b c↔d.toNat < e.toNat∨(d.toNat=e.toNat/\sufLt (aF a) (b+1) (c+1)):=by
 rw [iD,pB a j,pB a k];constructor;rintro (g |⟨i,f⟩);exact .inl oM;exact .inr ⟨by omega,f⟩;rintro (g |⟨i,f⟩);exact .inl oM;exact .inr ⟨by omega,f⟩
theorem aD5 {t:List UInt8} {b:Nat} (a:b < t.length):sufLt (aF t) t.length b:=by
 rw [iD,aI0,pB t (zAa a)];exact .inl oM
theorem aD4 {t:List UInt8} {a:Nat} (c:a < t.length):¬sufLt (aF t) a t.length:=by
 rw [iD,aI0,pB t (zAa c)];rintro (b |⟨b,_⟩);omega;omega
def aI9 (f:List UInt8) (b c:Nat) (g:World) (d:Ending) (i:World):Prop:=∃a:Bool,d=.returned (.bool a)/\(a=true↔sufLt (aF f) b c)/\∃e,i=g.drewN e
theorem aIt (g:List UInt8) (k l f:Nat) (A:World) (z:g.length=f) (R:f<=1000) (K:k<=f) (M:l<=f) (L:k≠l):
 Calls prog 125 #[.string ⟨g.toArray⟩,(k:Int),(l:Int)] A (aI9 g k l A):=by
 have U:(⟨g.toArray⟩:ByteArray).size=f:=(mK g).trans z;have m:=lhd z;clear z;go_enter func125,ntmps125;go_wp2_with fail;go_loopw [1,2] (fun B O wr=>∃e i w:Nat,e<=f/\i<=f/\e≠i/\B=.int .i64 (e:Int)/\O=.int .i64 (i:Int)/\(sufLt (aF g) k l↔sufLt (aF g) e i)/\wr=A.drewN w) (fun B _ _=>f -(intOf B).toNat)
 case atStart=>exact ⟨k,l,0,K,M,L,rfl,rfl,Iff.rfl,rfl⟩
 case round=>
  obtain ⟨e,i,w,P,Q,S,rfl,rfl,G,rfl⟩:=hrel;have x:=lhd G;clear G;by_cases p:e < f/\i < f
  · obtain ⟨n,E⟩:=p;have s:g[e]?=some (g[e]'(by rw [m.out];exact n)):=zAa _;have u:g[i]?=some (g[i]'(by rw [m.out];exact E)):=zAa _;generalize g[e]'(by rw [m.out];exact n)=c at s;generalize g[i]'(by rw [m.out];exact E)=d at u;have H:=aCj s u;have N:=aD6 s;have T:=aD6 u;have C:=lhd H;have D:(e:Int) < (f:Int):=oM;have J:(i:Int) < (f:Int):=oM;clear H s u;by_cases v:c.toNat=d.toNat
    · have y:(c.toNat:Int)=(d.toNat:Int):=oM;rw [y] at N;have F:sufLt (aF g) k l↔sufLt (aF g) (e+1) (i+1):=(by rw [x.out,C.out];constructor;rintro (j | j);omega;exact j.2;exact fun j=>.inr ⟨v,j⟩);have I:=lhd F;clear y F v;go_wp2_with fail;go_quiet (fail);go_wp2_with fail;go_roundw
      case rel=>exact ⟨e+1,i+1,_,by omega,by omega,by omega,by go_num,by go_num,I.out,rfl⟩
      case measure=>simp [intOf];omega
    · have y:¬(c.toNat:Int)=(d.toNat:Int):=oM;have q:decide (c.toNat < d.toNat)=true↔sufLt (aF g) k l:=(by rw [x.out,C.out,zCa];constructor;exact fun j=>.inl j;rintro (j | j);exact j;exact absurd j.1 v);have r:=lhd q;clear q v;go_wp2_with fail;go_quiet (fail);go_wp2_with fail;go_quiet (fail);go_wp2_with fail;go_ret;exact ⟨decide (c.toNat < d.toNat),cK (by simp),r.out,_,by rw [World.drewN_drewN,World.drewN_drewN]⟩
  · have q:decide ((i:Int) < (e:Int))=true↔sufLt (aF g) k l:=(by rw [x.out,zCa];by_cases n:e < f;obtain rfl:i=f:=(by have:¬i < f:=fun j=>p ⟨n,j⟩;omega);constructor;intro j;omega;intro j;have o:=aD4 (t:=g) (a:=e) (by rw [m.out];exact n);rw [m.out] at o;exact absurd j o;obtain rfl:e=f:=oM;have o:=aD5 (t:=g) (b:=i) (by rw [m.out];omega);rw [m.out] at o;exact ⟨fun _=>o,fun _=>by omega⟩);have r:=lhd q;clear q;by_cases n:e < f
    · have D:(e:Int) < (f:Int):=oM;have J:¬(i:Int) < (f:Int):=(by have:¬i < f:=fun j=>p ⟨n,j⟩;omega);clear p;go_wp2_with fail;go_ret;exact ⟨decide ((i:Int) < (e:Int)),cK (by simp),r.out,w,rfl⟩
    · have D:¬(e:Int) < (f:Int):=oM;clear p;go_wp2_with fail;go_ret;exact ⟨decide ((i:Int) < (e:Int)),cK (by simp),r.out,w,rfl⟩
end
end Go.Proofs.YthldmddkfbijhaaGreatDoor
