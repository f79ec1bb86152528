/- Lemmas of the walk. Conditions: each its own. -/
import Derived.Test.YtcfpmjbojoidoaaGreatDoorPd8
import Derived.Test.YtcfpmjbojoidoaaGreatDoorPd9
import Derived.Test.YtcfpmjbojoidoaaGreatDoorProg
import Derived.Test.YtcfpmjbojoidoaaGreatDoorShl
set_option linter.all false
set_option maxRecDepth 100000
set_option maxHeartbeats 4000000
open Go.Proofs.Tryz
namespace Go.Proofs.YtcfpmjbojoidoaaGreatDoor
open Go.RowKit
def dQ (c d:List Nat) (a b:Nat):aJ (c++d) a b=aJ c a b++aJ d a b:=by
 unfold aJ;rw [List.filter_append,zAz]
def jQ (c:Nat) (d:List Nat) (a b:Nat):aJ (c::d) a b=if aW c a=b then fO c a::aJ d a b else aJ d a b:=by
 unfold aJ;rw [List.filter_cons];by_cases e:aW c a=b
 · simp [e]
 · simp [e]
def qI (a:List Nat) (d b c:Nat):aJ a b c=aJ (a.take d) b c++aJ (a.drop d) b c:=by
 rw [<-dQ,zAu]
def zF (b:List Nat) (c d a:Nat):(aJ (b.take c) a (aW d a)).length=eY b c d a:=by
 rw [kJ];rfl
def aDK (c:List Nat) (d b a:Nat):aJ (aM c d b) a (aW b a)=aM (aJ c a (aW b a)) (eY c d b a) (fO b a):=by
 have e:=zF c d b a;unfold aM;rw [dQ,jQ,zBx rfl]
 conv=>rhs;rw [qI c d a (aW b a)]
 rw [<-e,List.take_left,List.drop_left]
def xK (c:List Nat) (f d a b:Nat) (e:aW d a≠b):aJ (aM c f d) a b=aJ c a b:=by
 unfold aM;rw [dQ,jQ,zBw e,<-qI]
def aHp {a:List Nat} {b c:Nat} (d:a[b]?=some c):a=a.take b++c::a.drop (b+1):=by
 obtain ⟨e,f⟩:=zAc.1 d;rw [<-f,<-zAx e,zAu]
def aDL {c:List Nat} {d b:Nat} (a:Nat) (g:c[d]?=some b):aJ (aD c d) a (aW b a)=aD (aJ c a (aW b a)) (eY c d b a):=by
 have e:=zF c d b a;have f:aJ c a (aW b a)=aJ (c.take d) a (aW b a)++fO b a::aJ (c.drop (d+1)) a (aW b a):=by
  conv=>lhs;rw [aHp g]
  rw [dQ,jQ,zBx rfl]
 unfold aD;rw [dQ,f];generalize aJ (c.take d) a (aW b a)=A at e⊢;generalize aJ (c.drop (d+1)) a (aW b a)=C;rw [<-e,List.take_left,List.drop_append,List.drop_eq_nil_of_le oM,show A.length+1 - A.length=1 by omega];rfl
def xL {a:List Nat} {d e:Nat} (b c:Nat) (f:a[d]?=some e) (g:aW e b≠c):aJ (aD a d) b c=aJ a b c:=by
 conv=>rhs;rw [aHp f]
 unfold aD;rw [dQ,dQ,jQ,zBw g]
def aEI {α:Type} (b:List α) (a:Nat) (d:α) (e:a<=b.length):(aM b a d).take a=b.take a:=by
 unfold aM;have c:(b.take a).length=a:=by rw [zAj];omega
 rw [List.take_append,c,Nat.sub_self,List.take_zero,List.append_nil,List.take_take,Nat.min_self]
def aIk {b:List Nat} {e d c:Nat} (f:∀a∈b,a < c) (i:d < c):∀a∈aM b e d,a < c:=fun a j=>by
 rcases List.mem_cons.1 ((eM b e d).mem_iff.1 j) with rfl | g;exact i;exact f a g
def nI {c:List Nat} {g d:Nat} (e:∀a∈c,a < d):∀a∈aD c g,a < d:=fun a f=>by
 unfold aD at f;rcases zCo.1 f with b | b;exact e a (List.mem_of_mem_take b);exact e a (List.mem_of_mem_drop b)
def TC (a b:Nat):Nat:=16+512*a+b
def aJk {c a d b:Nat} (f:a < 512) (g:b < 512) (e:TC c a=TC d b):c=d/\a=b:=by
 unfold TC at e;omega
def aIW {a b:Nat} (d:a < 9) (e:b < 2 ^ a):b < 512:=by
 have:2 ^ a<=2 ^ 9:=zBp dC oM;have c:(2:Nat)^ 9=512:=dC;omega
def cO (own:Nat->Nat) (d c b a:Nat):Nat:=if a < d then own a else if a < c then b else 0
structure WaveS (w:World) (B:Nat) (own:Nat->Nat) (gv:Nat) (S:Nat->Value) (Ls:Nat->List Nat) (n v:Int):Prop where
 blk:Bk w gv 201 (wcells S n v)
 base:B<=gv/\own gv=2
 rows:∀lv,lv < 9->∃G:Nat->Nat,w.ownsRow B 206 3 (S lv) (2 ^ lv) (dO G lv (2 ^ lv))/\(∀b,(S lv).ownBlock=some b->own b=2)/\∀p,p < 2 ^ lv->TreeE w (fun b=>own b=TC lv p) (G p) (aJ (Ls lv) lv p)
 bnd:∀b,own b≠0->B<=b/\b < w.heap.size
def WaveE (f:World) (b:Nat) (own:Nat->Nat) (d:Nat) (a:List Nat):Prop:=∃c e,WaveS f b own d c (fun _=>a) (a.length:Int) e
def WaveS.vis {l w':World} {d:Nat} {own:Nat->Nat} {i:Nat} {f:Nat->Value} {e:Nat->List Nat} {k v:Int} (a:WaveS l d own i f e k v) (b:Vis l w'):∃c,WaveS w' d own i f e k c:=by
 obtain ⟨c,q⟩:=b.waveC a.blk;refine ⟨c,q,a.base,fun t r=>?_,fun g j=>⟨(a.bnd g j).1,zAl (a.bnd g j).2 b.size⟩⟩;obtain ⟨m,n,o,p⟩:=a.rows t r;exact ⟨m,b.own n dC dC,o,fun u s=>(p u s).vis b⟩
def WaveE.vis {e w':World} {b:Nat} {own:Nat->Nat} {d:Nat} {c:List Nat} (a:WaveE e b own d c) (i:Vis e w'):WaveE w' b own d c:=by
 obtain ⟨f,k,a⟩:=a;obtain ⟨j,g⟩:=a.vis i;exact ⟨f,j,g⟩
def WaveE.at {j:World} {c:Nat} {own:Nat->Nat} {g:Nat} {e:List Nat} (a:WaveE j c own g e):WaveAt j c g e:=by
 obtain ⟨k,p,a⟩:=a;refine ⟨a.base.1,k,p,a.blk,fun o n=>?_⟩;obtain ⟨d,l,q,f⟩:=a.rows o n;refine ⟨d,l,fun b i=>⟨?_,(f b i).at⟩⟩;have m:=(f b i).1;exact (a.bnd (d b) (by rw [m];unfold TC;omega)).1
def WaveS.edit {f l:World} {t:Nat} {own:Nat->Nat} {y:Nat} {u:Nat->Value} {q:Nat->List Nat} {F a7 P:Int} (g:WaveS f t own y u q F a7) {lv p gx:Nat} (a2:lv < 9) (a4:p < 2 ^ lv) {o:Nat->Nat} (W:f.ownsRow t 206 3 (u lv) (2 ^ lv) (dO o lv (2 ^ lv)))
 (L:own gx < 16) (a0:∀w,¬Bk f gx 206 w) {I:List Bool} (a5:TreeE l (Gw (fun a=>own a=TC lv p) f.heap.size) (o p) I) (E:Keep (fun G=>own G=TC lv p∨G=y∨G=gx) f l) (D:Bk l y 201 (wcells u F P))
 {L':List Nat} (Y:aJ L' lv p=I) (Z:∀c,c≠p->aJ L' lv c=aJ (q lv) lv c):
 WaveS l t (cO own f.heap.size l.heap.size (TC lv p)) y u (fun b=>if b=lv then L' else q b) F P:=by
 have ak:t<=f.heap.size:=zAk g.base.1 (zCl g.blk.lt);have B:∀a,a < f.heap.size->cO own f.heap.size l.heap.size (TC lv p) a=own a:=fun a D=>by unfold cO;rw [zBx D]
 refine ⟨D,⟨g.base.1,by rw [B _ g.blk.lt];exact g.base.2⟩,fun b O=>?_,fun a k=>?_⟩
 · obtain ⟨n,x,J,K⟩:=g.rows b O;refine ⟨n,aA x fun a w A r=>E.bk r fun d=>?_,fun a A=>?_,fun c s=>?_⟩;rcases d with d | d | d;rw [J a A] at d;unfold TC at d;omega;subst d;exact absurd (aK r g.blk).1 dC;subst d;exact a0 w r;rw [B _ (x.lt a A).2];exact J a A
   · have N:(b≠lv∨c≠p)->TreeE l (fun a=>cO own f.heap.size l.heap.size (TC lv p) a=TC b c) (n c) (aJ (q b) b c):=fun a3=>by
        have a6:=(K c s).keep E fun a am w M r i d=>by rcases d with d | d | d;rw [i] at d;obtain ⟨e,m⟩:=aJk (aIW O s) (aIW a2 a4) d;rcases a3 with z | z;exact z e;exact z m;subst d;rw [(aK r g.blk).1] at M;exact absurd M dC;subst d;rw [i] at L;unfold TC at L;omega
        have al:TreeE f (fun a=>own a=TC b c) (n c) (aJ (q b) b c):=K c s;refine a6.mono fun a k i=>?_;have a1:a < f.heap.size:=(g.bnd a (by rw [i];unfold TC;omega)).2;rw [B a a1];exact i
     by_cases e:b=lv
     · subst e;rw [zBx rfl];by_cases m:c=p
       · subst m;rw [Y]
         have X:n c=o c:=by
           have z:=x.1;have e:=(fL n b (2 ^ b) c s).1;have m:=(fL o b (2 ^ b) c s).1
           have V:dO n b (2 ^ b)=dO o b (2 ^ b):=by
             rcases x.2 with ⟨H,Q⟩|⟨ai,ae,ag,H,Q,R,a8,a9,aa,S⟩;have:=Nat.two_pow_pos b;omega
             · rcases W.2 with ⟨j,v⟩|⟨aj,af,ah,j,v,T,ab,ac,ad,U⟩;have:=Nat.two_pow_pos b;omega
               · rw [H] at j;injection j with j _ _;injection j with j;injection j with j _;subst j;obtain ⟨_,rfl⟩:=aK R T;rw [<-S,<-U]
           rw [V,m] at e;injection e with e;injection e with e;injection e with e;injection e with e _;exact e.symm
         rw [X];refine a5.mono fun a k i=>?_;rcases i with i | i;rw [B a (g.bnd a (by rw [i];unfold TC;omega)).2];exact i
         · unfold cO;rw [zBw oM,zBx k]
       rw [Z c m];exact N (.inr m)
     rw [zBw e];exact N (.inl e)
 unfold cO at k;by_cases C:a < f.heap.size;rw [zBx C] at k;exact ⟨(g.bnd a k).1,zAl C E.size⟩;rw [zBw C] at k;by_cases v:a < l.heap.size;exact ⟨by omega,v⟩;rw [zBw v] at k;exact absurd rfl k
def aF1 (a:Nat->Value) (d b c:Int):(wcells a d c).setIfInBounds 9 (.int .i64 b)=wcells a b c:=by
 unfold wcells;rfl
def WaveS.set_n {f:World} {i:Nat} {own:Nat->Nat} {b:Nat} {k:Nat->Value} {j:Nat->List Nat} {A o:Int} (c:WaveS f i own b k j A o) (e:Int):WaveS (f.setCell ⟨b,9,none⟩ (.int .i64 e)) i own b k j e o:=by
 have g:Keep (fun a=>a=b) f (f.setCell ⟨b,9,none⟩ (.int .i64 e)):=Keep.setCell (F:=fun a=>a=b) (Keep.refl _ _) (p:=⟨b,9,none⟩) (.inl rfl) _;refine ⟨by have:=c.blk.set 9 (.int .i64 e);rw [aF1] at this;exact this,c.base,fun z x=>?_,fun a l=>⟨(c.bnd a l).1,zAl (c.bnd a l).2 g.size⟩⟩;obtain ⟨q,u,v,w⟩:=c.rows z x;exact ⟨q,aA u fun a r _ d=>g.bk d (Bk.ne d c.blk dC),v,fun n y=>(w n y).keep g fun a B r m d _ s=>by
  have t:a=b:=s;subst t;rw [(aK d c.blk).1] at m;exact absurd m dC⟩
def WaveS.far {p w':World} {f:Nat} {own:Nat->Nat} {k:Nat} {i:Nat->Value} {g:Nat->List Nat} {n o:Int} (b:WaveS p f own k i g n o) {H:Nat->Prop} (d:Keep H p w') (e:∀a,H a->own a≠2/\own a < 16):WaveS w' f own k i g n o:=by
 refine ⟨d.bk b.blk (fun c=>by have:=e _ c;have:=b.base.2;omega),b.base,fun y w=>?_,fun a l=>⟨(b.bnd a l).1,zAl (b.bnd a l).2 d.size⟩⟩;obtain ⟨q,s,j,t⟩:=b.rows y w;exact ⟨q,aA s fun a r u m=>d.bk m (fun c=>by have:=e _ c;have:=j a u;omega),j,fun z x=>(t z x).keep d fun a B r A m v c=>by
  have:=e a c;rw [v] at this;unfold TC at this;omega⟩
def WaveE.far {f w':World} {c:Nat} {own:Nat->Nat} {e:Nat} {d:List Nat} (b:WaveE f c own e d) {H:Nat->Prop} (j:Keep H f w') (i:∀a,H a->own a≠2/\own a < 16):WaveE w' c own e d:=by
 obtain ⟨g,k,b⟩:=b;exact ⟨g,k,b.far j i⟩
def WaveS.paint {c:World} {d:Nat} {own own':Nat->Nat} {e:Nat} {j:Nat->Value} {i:Nat->List Nat} {n o:Int} (b:WaveS c d own e j i n o) (f:∀a,a < c.heap.size->2<=own a->own' a=own a) (r:∀a,own' a≠0->d<=a/\a < c.heap.size):WaveS c d own' e j i n o:=by
 refine ⟨b.blk,⟨b.base.1,by rw [f e b.blk.lt (by rw [b.base.2];omega)];exact b.base.2⟩,fun v t=>?_,r⟩;obtain ⟨p,k,l,q⟩:=b.rows v t;refine ⟨p,k,fun a g=>?_,fun w u=>(q w u).mono fun a s m=>?_⟩;rw [f a (k.lt a g).2 (by rw [l a g];omega)];exact l a g;rw [f a s (by rw [m];unfold TC;omega)];exact m
def WaveE.paint {b:World} {c:Nat} {own own':Nat->Nat} {f:Nat} {e:List Nat} (d:WaveE b c own f e) (i:∀a,a < b.heap.size->2<=own a->own' a=own a) (j:∀a,own' a≠0->c<=a/\a < b.heap.size):WaveE b c own' f e:=by
 obtain ⟨g,k,d⟩:=d;exact ⟨g,k,d.paint i j⟩
def aHx (b:Nat) (d:TypeId) (c:Array Value):Value->World->Prop:=fun e f=>∃a,e=.pointer (some ⟨a,0,none⟩)/\Bk f a d c/\b<=a
def aHw {d:Nat} {b:Nat->Prop} (e:Nat) (a:TypeId) (k:Array Value) (l:a≠261) (m:a≠201) (n:∀j,¬b j):aFH (VFB d b) (aHx e a k):=fun _ _ _ ⟨c,f,g,i⟩ o=>⟨c,f,o.1.bk g l m (n c),i⟩
def WaveS.cells {f:World} {i:Nat} {own:Nat->Nat} {c:Nat} {b:Nat->Value} {j:Nat->List Nat} {d e:Int} (g:WaveS f i own c b j d e):(∀a,a < 9->f.cell? ⟨c,a,none⟩=some (b a))/\f.cell? ⟨c,9,none⟩=some (.int .i64 d)/\f.cell? ⟨c,10,none⟩=some (.int .i64 e):=by
 obtain ⟨n,o,p,q,r,s,t,u,v,l,k⟩:=aZ b d e;exact ⟨fun a m=>(g.blk.cell a).trans (rI b d e a m),(g.blk.cell 9).trans l,(g.blk.cell 10).trans k⟩
def vT (Z g:Nat) (own:Nat->Nat) (k:List Nat) (m l:Nat) (j:World) (t:WaveE j Z own g k) (aa:l < 257) (an:m<=k.length) (aB:∀M∈k,M < 257) (c0:k.length<=127):
 Calls prog 212 #[g,(m:Int),(l:Int)] j fun q b5=>q=.returned (.int .i64 0)/\∃b3,WaveE b5 Z b3 g (aM k m l)/\(∀a,a < j.heap.size->b3 a=own a)/\(∀a,j.heap.size<=a->b3 a≠1)/\Keep (fun a=>a=g∨16<=own a) j b5:=by
 have bz:=kK k m l an aB aa;obtain ⟨n,e8,t⟩:=t;obtain ⟨s,ar⟩:=eqx k.length;rw [ar] at t an c0;have bT:(aM k m l).length=s+1:=by rw [fG _ _ oM,ar]
 obtain ⟨cM,cL,cB⟩:=t.cells;have cP:=t.blk.frozen 10;have d0:=t.blk.lt;have dQ:Z<=j.heap.size:=zAk t.base.1 (zCl d0);obtain ⟨e9,a4⟩:=t.vis ((VisK.alloc (VB.set_wave t.blk t.base.1 0) (.cells #[(m:Int)] 3)).1);have cW:g≠j.heap.size:=oM;have U:=Bk.new (j.setCell ⟨g,10,none⟩ (.int .i64 0)) 3 #[(m:Int)];rw [show (j.setCell ⟨g,10,none⟩ (.int .i64 0)).heap.size=j.heap.size by simp [World.setCell]] at U;have aS:Keep (fun a=>a=g∨16<=own a) j ((j.setCell ⟨g,10,none⟩ (.int .i64 0)).alloc (.cells #[(m:Int)] 3)):=(Keep.setCell (F:=fun a=>a=g∨16<=own a) (Keep.refl _ _) (p:=⟨g,10,none⟩) (.inl (.inl rfl)) _).alloc _;obtain ⟨B,aC⟩:=eqx ((j.setCell ⟨g,10,none⟩ (.int .i64 0)).alloc (.cells #[(m:Int)] 3));rw [aC] at a4 U aS;obtain ⟨G,bo,cC⟩:=a4.cells;have cA:∀b,(B.drewN b).cell? g=some (n 0):=fun b=>G 0 oM;have O:∀b,(B.drewN b).cell? ⟨g,1,none⟩=some (n 1):=fun b=>G 1 oM;have ah:∀b,(B.drewN b).cell? ⟨g,2,none⟩=some (n 2):=fun b=>G 2 oM;have cE:∀b,(B.drewN b).cell? ⟨g,3,none⟩=some (n 3):=fun b=>G 3 oM;have cF:∀b,(B.drewN b).cell? ⟨g,4,none⟩=some (n 4):=fun b=>G 4 oM;have cH:∀b,(B.drewN b).cell? ⟨g,5,none⟩=some (n 5):=fun b=>G 5 oM;have cI:∀b,(B.drewN b).cell? ⟨g,6,none⟩=some (n 6):=fun b=>G 6 oM;have cJ:∀b,(B.drewN b).cell? ⟨g,7,none⟩=some (n 7):=fun b=>G 7 oM;have cK:∀b,(B.drewN b).cell? ⟨g,8,none⟩=some (n 8):=fun b=>G 8 oM;have bp:B.cell? ⟨g,9,none⟩=some (.int .i64 (s:Int)):=bo;have bq:B.cell? j.heap.size=some (.int .i64 (m:Int)):=(U.cell 0).trans rfl;have cY:decide ((m:Int) < 0)=false:=by simp
 have e1:¬s < m:=oM;have e2:¬((m:Int) > (s:Int)):=oM;have bD:=a4.blk.lt;have aD:=U.lt;obtain ⟨b7,bd,bg,c9,ds,cc,co,b9,du⟩:=hqq9 a4 U aS bz aB ar bT aC an;obtain ⟨dt,bI⟩:=hqq2 t.base t.bnd;clear t a4 U aS bz aB ar bT aC cM G bo cC an;go_enter func212,ntmps212;go_wp2_with fail;rw [b9.out];clear cB cP cL;refine (eO l _ aa).mono ?_;rintro q w1 ⟨rfl,S⟩;have br:w1.cell? ⟨g,9,none⟩=some (.int .i64 (s:Int)):=(S.cell (p:=⟨g,9,none⟩) bD).trans bp;have bs:w1.cell? j.heap.size=some (.int .i64 (m:Int)):=(S.cell (p:=j.heap.size) aD).trans bq;obtain ⟨c8,x⟩:=b7.out.vis (Vis.of_below S);have aR:=bd.out.below S aD;have bU:Keep (fun a=>a=g∨16<=own a) j w1:=bg.out.trans (Keep.of_below S);have dz:∀b,(w1.drewN b).cell? g=some (n 0):=fun b=>x.cells.1 0 oM;have cN:∀b,(w1.drewN b).cell? ⟨g,1,none⟩=some (n 1):=fun b=>x.cells.1 1 oM;have dA:∀b,(w1.drewN b).cell? ⟨g,2,none⟩=some (n 2):=fun b=>x.cells.1 2 oM;have dB:∀b,(w1.drewN b).cell? ⟨g,3,none⟩=some (n 3):=fun b=>x.cells.1 3 oM;have dD:∀b,(w1.drewN b).cell? ⟨g,4,none⟩=some (n 4):=fun b=>x.cells.1 4 oM;have dK:∀b,(w1.drewN b).cell? ⟨g,5,none⟩=some (n 5):=fun b=>x.cells.1 5 oM;have dL:∀b,(w1.drewN b).cell? ⟨g,6,none⟩=some (n 6):=fun b=>x.cells.1 6 oM;have dM:∀b,(w1.drewN b).cell? ⟨g,7,none⟩=some (n 7):=fun b=>x.cells.1 7 oM;have dN:∀b,(w1.drewN b).cell? ⟨g,8,none⟩=some (n 8):=fun b=>x.cells.1 8 oM;have dZ:=x.blk.lt;have dU:=aR.lt;have dx:∀b,(w1.drewN b).cell? ⟨g,9,none⟩=some (.int .i64 (s:Int)):=fun b=>br;have dy:∀b,(w1.drewN b).cell? j.heap.size=some (.int .i64 (m:Int)):=fun b=>bs;obtain ⟨b8,cm,cp⟩:=hqq3 x aR bU;clear x aR bU S b7 bd bg cA O ah cE cF cH cI cJ cK bp bq bD aD b9;go_wp2_with fail;go_quiet (fail);clear br bs cY;go_wp2_with fail;go_loopw [35] (fun ac wr=>∃(d:Nat) (w:Nat->Nat) (ax:Int),d<=9/\ac=.int .i64 d/\WaveS wr Z w g n (fun D=>if D < d then aM k m l else k) (s:Int) ax/\Bk wr j.heap.size 3 #[.int .i64 ((eY k m l d:Nat):Int)]/\(∀a,a < j.heap.size->w a=own a)/\(∀a,j.heap.size<=a->w a≠1)/\w j.heap.size=0/\Keep (fun a=>a=g∨16<=own a) j wr) (fun ac _=>9 -(intOf ac).toNat)
 case atStart=>refine ⟨0,own,c8,by omega,rfl,?_,?_,fun _ _=>rfl,fun a K q=>?_,?_,?_⟩;obtain ⟨b4,a5⟩:=b8.out.vis (Vis.of_below (below_drewN bR _));have:b4=c8:=(by have bm:=a5.cells.2.2;have bn:=b8.out.cells.2.2;have a2:=bn.symm.trans bm;injection a2 with a2;injection a2 with _ a2;exact a2.symm);subst this;simpa using a5;rw [c9.out];exact cm.out.drewN _;have:=(bI.out a oM).2;omega;rcases zBa (own j.heap.size) with q | q;exact q;have:=(bI.out j.heap.size oM).2;omega;exact cp.out.drewN _
 case round=>
  obtain ⟨d,w,ax,e3,rfl,P,ak,au,av,aT,ao⟩:=hrel;by_cases W:d < 9
  · have cX:=ix9 n d W;obtain ⟨A,X,d2,aZ⟩:=P.rows d W;obtain ⟨ad,ap⟩:=eqx (2 ^ d);obtain ⟨c,L⟩:=eqx (aW l d);have aU:c < ad:=(by rw [<-ap,<-L];exact kU l d aa oM);have d3:c < 2 ^ d:=(by rw [ap];exact aU);have cU:=lhd X;rw [ap] at X aZ;obtain ⟨R,a3,bC,e4,dY⟩:=World.ownsRow.form X oM;rw [bC] at cX X;obtain ⟨M,ab⟩:=eqx (eY k m l d);obtain ⟨z,Y⟩:=eqx (eY k m l (d+1));obtain ⟨a,aj⟩:=eqx (fO l d);have b1:=kL k m l d W;have b0:=aEA k m l d;have aI:=aDK k m l d;have aO:=xK k m l d;have aN:(aJ k d (aW l d)).length<=127:=(by rw [kJ];exact zAk zBh (by rw [cc.out];exact c0));rw [L,ab,aj,Y] at b1;rw [L,ab] at b0;rw [L,ab,aj] at aI;rw [L] at aN aO;rw [ab] at ak;have c3:TreeE wr (fun a=>w a=TC d c) (A c) (aJ k d c):=(by have:=aZ c aU;rw [zBw oM] at this;exact this);have e5:(c:Int) < (ad:Int):=oM;obtain ⟨ct,bj,cy,ag,cf,ci,ch,cu,ce⟩:=hqq9 X c3 b1 b0 aI aO aN L aj;obtain ⟨cz,af,ay,a1,az,bi,bh⟩:=hqq7 Y P ak au av aT ao;clear X aZ bC ap L ab Y aj b1 b0 aI aO aN P ak au av aT ao c3 d2;go_wp2_with fail;refine wp_region_any kR ?_;refine bN wr.heap.size 11 [39,40,41,42,43,44,45,46,47,9,10] (fun _=>False) 8 [] (fun _=>True) (is (.bool a)) [is (.slice (some R) ad a3),is (l:Int),is (d:Int),is (c:Int),is (.pointer (some ⟨R,c*3,none⟩)),is (.agg #[.pointer (some ⟨A c,0,none⟩),(d:Int),(c:Int)]),is (l:Int),is (d:Int),dF,aHx wr.heap.size 206 #[.pointer none,.int .i64 0,.int .i64 0],aHx wr.heap.size 4 #[.bool false]] _ _ rfl dC kR kR kR (trivial) (fun _ _ _ _ _=>trivial) (gP _ _) (by repeat' (first | exact gP _ _ | exact iY _ | exact aHw _ _ _ dC dC (fun _ e=>e)|(refine zAe.2 ⟨?_,?_⟩)|(intro c L;cases L))) ?_ ?_
    · refine bO ?_;refine pH3 8 (.slice (some R) ad a3) ?_;refine pH3 2 (.int .i64 (l:Int)) ?_;refine pH3 7 (.int .i64 (d:Int)) ?_;refine sC3 (fun _ y _ _ _ _ _ v _ _ _ u=>?_) ?_
      · have dE:_=_:=v 1 40 kR rfl;have dG:_=_:=v 2 41 kR rfl;go_simp;refine (jS l d y aa oM).mono ?_;rintro q dg ⟨rfl,aG⟩;rw [cu.out];exact u _ _ (aE (VisK.of_below aG)) rfl
      refine pW3 0 39 3 42 ?_;refine sC3 (fun _ y r _ _ _ _ v _ _ _ u=>?_) ?_
      · replace r:VFB wr.heap.size (fun _=>False) wr y:=fD r;have dH:_=_:=v 4 43 kR rfl;have d5:=r.1.to_vis (fun _ _ e=>e);have aX:=d5.own ct.out dC dC;obtain ⟨da,db,dc⟩:=fL A d ad c aU;have dv:y.cell? ⟨R,c*3,none⟩=_:=(World.ownsRow.cellAt aX (c*3) oM).trans da;have bm:y.cell? ⟨R,c*3+1,none⟩=_:=(World.ownsRow.cellAt aX (c*3+1) oM).trans db;have bn:y.cell? ⟨R,c*3+2,none⟩=_:=(World.ownsRow.cellAt aX (c*3+2) oM).trans dc;go_simp;exact u _ _ (aE vR) rfl
      refine pH3 2 (.int .i64 (l:Int)) ?_;refine pH3 7 (.int .i64 (d:Int)) ?_;refine sC3 (fun _ y _ _ _ _ _ v _ _ _ u=>?_) ?_
      · have dI:_=_:=v 6 45 kR rfl;have dJ:_=_:=v 7 46 kR rfl;go_simp;refine (lJ l d y aa oM).mono ?_;rintro q dg ⟨rfl,aG⟩;rw [ce.out];exact u _ _ (aE (VisK.of_below aG)) rfl
      refine sC3 (fun _ y r _ _ _ _ _ _ _ _ u=>?_) ?_
      · replace r:VFB wr.heap.size (fun _=>False) wr y:=fD r;go_simp;exact u _ _ (aE (VisK.of_below (bR.alloc nL _))) ⟨_,rfl,Bk.new _ _ _,r.1.size⟩
      refine sC3 (fun _ y r _ _ _ _ _ _ _ _ u=>?_) ?_
      · replace r:VFB wr.heap.size (fun _=>False) wr y:=fD r;go_simp;exact u _ _ (aE (VisK.of_below (bR.alloc nL _))) ⟨_,rfl,Bk.new _ _ _,r.1.size⟩
      exact aH
    · intro ai E e r v bE;replace r:VFB wr.heap.size (fun _=>False) wr E:=fD r;have bt:ai (.tmp 44)=.agg #[.pointer (some ⟨A c,0,none⟩),(d:Int),(c:Int)]:=v 5 44 dC rfl;have bu:ai (.tmp 47)=.bool a:=v 8 47 dC rfl;have d8:(aHx wr.heap.size 206 #[.pointer none,.int .i64 0,.int .i64 0]) (ai (.tmp 9)) E:=v 9 9 dC rfl;have d7:(aHx wr.heap.size 4 #[.bool false]) (ai (.tmp 10)) E:=v 10 10 dC rfl;obtain ⟨df,c5⟩:=bE 8 dC;have d9:(is (.bool a)) df E:=c5;clear c5 bE;simp only [zqq];rw [bt];rw [bu];clear v;obtain ⟨o,c7,I,al⟩:=d8;obtain ⟨J,c6,T,bL⟩:=d7;rw [c7,c6];have c4:Below wr.heap.size wr E:=r.2.to_below nL (fun a K e=>by rcases e with e | e;exact e;omega);have dp:E.cell? o=some (.pointer none):=(I.cell 0).trans rfl;have dq:E.cell? ⟨o,1,none⟩=some (.int .i64 0):=(I.cell 1).trans rfl;have dr:E.cell? ⟨o,2,none⟩=some (.int .i64 0):=(I.cell 2).trans rfl;have cR:=I.frozen 0;have cS:=I.frozen 1;have cT:=I.frozen 2;have b6:E.cell? J=some (.bool false):=(T.cell 0).trans rfl;have cQ:=T.frozen 0;have aq:o≠J:=Bk.ne I T dC;have W:=I.lt;have cZ:=T.lt;obtain ⟨bc,ba,bl⟩:=hqq3 I T c4;clear I T c4 r d9 bt bu c7 c6;change wpAny prog Region.Mode.any _ _ (2+e) (bY 11 13) _ E;rw [show 2+e=e+1+1 by omega];refine bS (f:=e+1) (i:=11) kR ?_;refine cG rfl rfl ?_;generalize u:wpAny prog _ _ _ (e+1) _=K5;go_simp;subst u;refine bS (f:=e) (i:=12) kR ?_;refine cG rfl rfl ?_;generalize u:wpAny prog _ _ _ e _=K5;go_simp;subst u;refine cD kR ?_;obtain ⟨C,a7⟩:=eqx (((((E.setCell o (.pointer (some ⟨A c,0,none⟩))).setCell ⟨o,1,none⟩ (.int .i64 (d:Int))).setCell ⟨o,2,none⟩ (.int .i64 (c:Int))).setCell J (.bool a)));have bG:Bk C o 206 #[.pointer (some ⟨A c,0,none⟩),(d:Int),(c:Int)]:=(by rw [<-a7];exact (((bc.out.set 0 _).set 1 _).set 2 _).far (p:=J) aq _);have bF:Bk C J 4 #[.bool a]:=(by rw [<-a7];exact (((ba.out.far (p:=o) (fun q=>aq q.symm) _).far (p:=⟨o,1,none⟩) (fun q=>aq q.symm) _).far (p:=⟨o,2,none⟩) (fun q=>aq q.symm) _).set 0 _);have bV:Keep (fun _=>False) wr C:=(by rw [<-a7];exact Keep.setCell (F:=fun _=>False) (Keep.setCell (F:=fun _=>False) (Keep.setCell (F:=fun _=>False) (Keep.setCell (F:=fun _=>False) (Keep.of_below bl.out) (p:=o) (.inr al) _) (p:=⟨o,1,none⟩) (.inr al) _) (p:=⟨o,2,none⟩) (.inr al) _) (p:=J) (.inr bL) _);rw [a7];have bH:Below wr.heap.size wr C:=bV.to_below nL (fun _ _ e=>e);obtain ⟨a0,bb,Q⟩:=hqq3 bG bF bH;clear bG bF bV bH a7 dp dq dr cR cS cT b6 cQ bc ba bl W cZ;obtain ⟨dd,bx⟩:=af.out.vis (Vis.of_below Q.out);have bP:=ay.out.below Q.out ay.out.lt;have c1:=bj.out.below Q.out;have bQ:=af.out.base.2;have bJ:=af.out.bnd;have e7:=Q.out.size;have dX:=ay.out.lt;have dh:C.cell? o=some (.pointer (some ⟨A c,0,none⟩)):=(a0.out.cell 0).trans rfl;have di:C.cell? ⟨o,1,none⟩=some (.int .i64 (d:Int)):=(a0.out.cell 1).trans rfl;have dj:C.cell? ⟨o,2,none⟩=some (.int .i64 (c:Int)):=(a0.out.cell 2).trans rfl;have dS:=a0.out.lt;have d1:∀(bv:Fn) (first a3:Array Value) (j:World),(Instr.makeFunc bv first a3).run prog j=.ok (.func bv first a3) j:=fun _ _ _ _=>rfl;obtain ⟨ae,be,cw,bf,cj⟩:=hqq5 bx bP c1 bQ bJ;clear bx bP c1 bQ bJ;go_wp2_with fail;refine (aFU g (A c) j.heap.size J n s dd d c (fun a=>w a=TC d c) (aJ k d c) M a C ae.out.blk cw.out (fun e=>by rw [bf.out] at e;unfold TC at e;omega) (fun z Y=>(ae.out.bnd z (by rw [Y];unfold TC;omega)).2) be.out bb.out ch.out ag.out).mono ?_;rintro q N ⟨rfl,aY,V,de,aL⟩;have aP:=ae.out.edit (lv:=d) (p:=c) (gx:=g) W d3 (aQ cU.out Q.out) (by rw [bf.out];omega) (fun dw cV=>absurd (aK cV ae.out.blk).1 dC) aY (V.mono fun z _ e=>by rcases e with e | e;exact .inl e;exact .inr (.inl e)) aL (L':=aM k m l) cf.out (fun b d4=>by rw [zBw (zCk _)];exact ci.out b (fun q=>d4 q.symm));have bK:(fun D=>if D=d then aM k m l else if D < d then aM k m l else k)=fun D=>if D < d+1 then aM k m l else k:=by
       funext D;by_cases O:D=d
       · rw [zBx O,zBx oM]
       · by_cases ah:D < d
         · rw [zBw O,zBx ah,zBx oM]
         · rw [zBw O,zBw ah,zBw oM]
      rw [bK] at aP;have b2:∀z,wr.heap.size<=z->¬(w z=TC d c∨z=g):=fun z Y e=>by rcases e with e | e;have:=(cj.out z (by rw [e];unfold TC;omega)).2;omega;have:=af.out.blk.lt;omega
      have am:=V.bk be.out (fun e=>by
       rcases e with e | e;rw [bi.out] at e;unfold TC at e;omega
       · exact cW e.symm)
      have a8:=V.bk a0.out (b2 o al);have aF:=V.bk bb.out (b2 J bL);have b6:N.cell? o=some (.pointer (some ⟨A c,0,none⟩)):=(a8.cell 0).trans rfl;have dk:N.cell? ⟨o,1,none⟩=some (.int .i64 (d:Int)):=(a8.cell 1).trans rfl;have dl:N.cell? ⟨o,2,none⟩=some (.int .i64 (c:Int)):=(a8.cell 2).trans rfl;have dn:N.cell? j.heap.size=some (.int .i64 (M:Int)):=(am.cell 0).trans rfl;have dm:N.cell? J=some (.bool a):=(aF.cell 0).trans rfl;have dT:=a8.lt;have dR:=aF.lt;have dV:=am.lt;have c2:=aY.at
      have bA:w (A c)=TC d c:=bj.out.1;obtain ⟨ck,cq,cn,cx,cg,cb⟩:=hqq6 aP V am c2 aL bA;have d6:M<=(aM (aJ k d c) M a).length:=(by rw [fG _ _ ag.out];have:=ag.out;omega);clear aY V aL aP bK b2 am a8 aF c2 dh di dj d1 bA;go_wp2_with fail;refine (lI g (A c) n s de d c (aM (aJ k d c) M a) M a N cg.out cx.out d6).mono ?_;rintro q aA ⟨rfl,aw⟩;rw [aEI _ _ _ ag.out,cy.out];obtain ⟨b4,a5⟩:=ck.out.vis aw.1;have a9:=aw.1.bk cn.out dC dC;have eb:aA.cell? j.heap.size=some (.int .i64 (M:Int)):=(a9.cell 0).trans rfl;have dP:=a9.frozen 0;have dW:=a9.lt;have bM:=a9.set 0 (.int .i64 (z:Int));have aV:cO w C.heap.size N.heap.size (TC d c) j.heap.size=0:=(by unfold cO;rw [zBx oM];exact bi.out);have bw:=a5.far (w':=aA.setCell j.heap.size (.int .i64 (z:Int))) (H:=fun a=>a=j.heap.size) (Keep.setCell (F:=fun a=>a=j.heap.size) (Keep.refl _ _) (p:=j.heap.size) (.inl rfl) _) (fun a q=>by rw [show a=j.heap.size from q,aV];omega);have e6:=bh.out.size;have bW:Keep (fun a=>a=g∨16<=own a) j (aA.setCell j.heap.size (.int .i64 (z:Int))):=Keep.setCell (F:=fun a=>a=g∨16<=own a) (((bh.out.trans (Keep.of_below Q.out)).trans' cq.out (fun a K e=>by
       rcases e with e | e;right;rw [<-a1.out a K,e];unfold TC;omega
       · exact .inl e)).trans' aw.2 (fun a K e=>by
       rcases e with e | e;exact .inl e
       · right;rw [<-a1.out a K,e,cb.out];unfold TC;omega)) (p:=j.heap.size) (.inr nL) _
      obtain ⟨ca,cl,cr,cv⟩:=hqq4 bw bM bW aV;clear aw a5 a9 bM bw bW aV b6 dk dl dn dm;go_wp2_with fail;go_roundw
      case rel=>
       refine ⟨d+1,cO w C.heap.size N.heap.size (TC d c),b4,by omega,by go_num,ca.out,?_,fun a K=>?_,fun a K=>?_,cv.out,cr.out⟩;rw [cz.out];exact cl.out;unfold cO;rw [zBx oM];exact a1.out a K
       · unfold cO;by_cases O:a < C.heap.size;rw [zBx O];exact az.out a K
         · rw [zBw O];unfold TC;split <;> omega
      case measure=>simp [intOf];omega
  · obtain rfl:d=9:=oM;have a6:WaveS wr Z w g n (fun _=>aM k m l) (s:Int) ax:=⟨P.blk,P.base,fun D bZ=>by have:=P.rows D bZ;simpa [bZ] using this,P.bnd⟩;obtain ⟨_,ea,_⟩:=a6.cells;have dO:=a6.blk.frozen 9;have e0:=a6.blk.lt;have bB:=a6.set_n ((s:Int)+1);have cN:wrap64 ((s:Int)+1)=(s:Int)+1:=(by unfold wrap64;omega);have bX:Keep (fun a=>a=g∨16<=own a) j (wr.setCell ⟨g,9,none⟩ (.int .i64 ((s:Int)+1))):=Keep.setCell (F:=fun a=>a=g∨16<=own a) ao (p:=⟨g,9,none⟩) (.inl (.inl rfl)) _;obtain ⟨cd,cs,a1,az⟩:=hqq4 bB bX au av;clear P a6 bB ao bX ak au av aT;go_wp2_with fail;go_ret;refine ⟨rfl,w,⟨n,ax,?_⟩,a1.out,az.out,cs.out⟩;rw [co.out];exact cd.out
def vU (J f:Nat) (own:Nat->Nat) (e:List Nat) (j l:Nat) (d:World) (o:WaveE d J own f e) (aC:e[j]?=some l) (aa:∀q∈e,q < 257) (cG:e.length<=128):
 Calls prog 204 #[f,(j:Int)] d fun r aT=>r=.returned (.tuple #[(l:Int),.int .i64 0])/\∃aS,WaveE aT J aS f (aD e j)/\(∀a,a < d.heap.size->aS a=own a)/\(∀a,d.heap.size<=a->aS a≠1)/\Keep (fun a=>a=f∨16<=own a) d aT:=by
 obtain ⟨O,aE⟩:=zAc.1 aC;have aM:l < 257:=by rw [<-aE];exact aa _ (zBj O)
 have bj:=kK e j l (zCl O) aa aM;have bN:=mU l aM;have bO:=mW l;have bo:∀b,(aJ e b (aW l b))[eY e j l b]?=some (fO l b):=fun b=>by have:=aAD e j b O;rw [aE] at this;exact this
 obtain ⟨n,dH,o⟩:=o;obtain ⟨s,ae⟩:=eqx e.length;rw [ae] at o O cG;have bB:(aD e j).length+1=s:=by rw [cQ _ oM,ae]
 obtain ⟨cu,ct,cr⟩:=o.cells;have cw:=o.blk.frozen 10;have cE:=o.blk.lt;have dk:J<=d.heap.size:=zAk o.base.1 (zCl cE);obtain ⟨bT,L⟩:=o.vis ((VisK.alloc (VB.set_wave o.blk o.base.1 0) (.cells #[(j:Int)] 3)).1);have cA:f≠d.heap.size:=oM;have N:=Bk.new (d.setCell ⟨f,10,none⟩ (.int .i64 0)) 3 #[(j:Int)];rw [show (d.setCell ⟨f,10,none⟩ (.int .i64 0)).heap.size=d.heap.size by simp [World.setCell]] at N;have aB:Keep (fun a=>a=f∨16<=own a) d ((d.setCell ⟨f,10,none⟩ (.int .i64 0)).alloc (.cells #[(j:Int)] 3)):=(Keep.setCell (F:=fun a=>a=f∨16<=own a) (Keep.refl _ _) (p:=⟨f,10,none⟩) (.inl (.inl rfl)) _).alloc _;obtain ⟨t,aq⟩:=eqx ((d.setCell ⟨f,10,none⟩ (.int .i64 0)).alloc (.cells #[(j:Int)] 3));rw [aq] at L N aB;obtain ⟨w,ba,cs⟩:=L.cells;have d6:∀g,(t.drewN g).cell? f=some (n 0):=fun g=>w 0 oM;have I:∀g,(t.drewN g).cell? ⟨f,1,none⟩=some (n 1):=fun g=>w 1 oM;have an:∀g,(t.drewN g).cell? ⟨f,2,none⟩=some (n 2):=fun g=>w 2 oM;have d7:∀g,(t.drewN g).cell? ⟨f,3,none⟩=some (n 3):=fun g=>w 3 oM;have d8:∀g,(t.drewN g).cell? ⟨f,4,none⟩=some (n 4):=fun g=>w 4 oM;have d9:∀g,(t.drewN g).cell? ⟨f,5,none⟩=some (n 5):=fun g=>w 5 oM;have da:∀g,(t.drewN g).cell? ⟨f,6,none⟩=some (n 6):=fun g=>w 6 oM;have db:∀g,(t.drewN g).cell? ⟨f,7,none⟩=some (n 7):=fun g=>w 7 oM;have dc:∀g,(t.drewN g).cell? ⟨f,8,none⟩=some (n 8):=fun g=>w 8 oM;have bb:t.cell? ⟨f,9,none⟩=some (.int .i64 (s:Int)):=ba;have bc:t.cell? d.heap.size=some (.int .i64 (j:Int)):=(N.cell 0).trans rfl;have cD:decide ((j:Int) < 0)=false:=by simp
 have dx:¬s<=j:=oM;have dm:=L.blk.lt;have dl:=N.lt;obtain ⟨aU,c8,cd,bV,cZ,bY,cc,c0,d2⟩:=hqq9 L N aB bj aa ae bB aq O;obtain ⟨d0,bt,co,cp,c1,b3⟩:=hqq6 o.base o.bnd bN bO bo aC;have dd:∀g,(t.drewN g).cell? ⟨f,9,none⟩=some (.int .i64 (s:Int)):=fun g=>bb;have de:∀g,(t.drewN g).cell? d.heap.size=some (.int .i64 (j:Int)):=fun g=>bc;clear o L N aB bj aa ae bB aq cu w ba cs O bN bO bo aC aE;go_enter func204,ntmps204;go_wp2_with fail;rw [c0.out];clear cr cw ct;go_quiet (fail);clear bb bc cD;go_wp2_with fail;go_loopw [6,31] (fun cY aP wr=>∃(b:Nat) (k:Nat->Nat) (R:Int),b<=9/\aP=.int .i64 b/\cY=.int .i64 ((aW l b:Nat):Int)/\WaveS wr J k f n (fun u=>if u < b then aD e j else e) (s:Int) R/\Bk wr d.heap.size 3 #[.int .i64 ((eY e j l b:Nat):Int)]/\(∀a,a < d.heap.size->k a=own a)/\(∀a,d.heap.size<=a->k a≠1)/\k d.heap.size=0/\Keep (fun a=>a=f∨16<=own a) d wr) (fun _ aP _=>9 -(intOf aP).toNat)
 case atStart=>refine ⟨0,own,bT,by omega,rfl,by rw [co.out];rfl,?_,?_,fun _ _=>rfl,fun a z r=>?_,?_,?_⟩;obtain ⟨bU,bi⟩:=aU.out.vis (Vis.of_below (below_drewN bR _));have:bU=bT:=(by have al:=bi.cells.2.2;have am:=aU.out.cells.2.2;have T:=am.symm.trans al;injection T with T;injection T with _ T;exact T.symm);subst this;simpa using bi;rw [bV.out];exact c8.out.drewN _;have:=(bt.out a oM).2;omega;rcases zBa (own d.heap.size) with r | r;exact r;have:=(bt.out d.heap.size oM).2;omega;exact cd.out.drewN _
 case round=>
  obtain ⟨b,k,R,dy,rfl,rfl,B,ab,af,ag,aG,ac⟩:=hrel;by_cases P:b < 9
  · have cC:=ix9 n b P;obtain ⟨v,x,cH,aN⟩:=B.rows b P;obtain ⟨aR,ad⟩:=eqx (2 ^ b);obtain ⟨c,y⟩:=eqx (aW l b);have aH:c < aR:=(by rw [<-ad,<-y];exact kU l b aM oM);have bG:c < 2 ^ b:=(by rw [ad];exact aH);have cz:=lhd x;rw [ad] at x aN;obtain ⟨ap,ao,bn,dz,dw⟩:=World.ownsRow.form x oM;rw [bn] at cC x;obtain ⟨q,a2⟩:=eqx (eY e j l b);obtain ⟨m,C⟩:=eqx (eY e j l (b+1));obtain ⟨a,Y⟩:=eqx (fO l b);have aO:=kL e j l b P;have ai:=c1.out b;have au:=aDL b b3.out;have av:=fun g=>xL b g b3.out;have ah:=mV l b P;rw [y,a2,Y,C] at aO;rw [y,a2,Y] at ai;rw [y,a2] at au;rw [y] at av;rw [y,Y] at ah;have bM:q < (aJ e b c).length:=(zAc.1 ai).1;have bL:(aJ e b c).getD q false=a:=(by rw [zAb,ai];rfl);rw [a2] at ab;rw [y];obtain ⟨cL,aI⟩:=eqx (aW l (b+1));rw [aI] at ah;have cI:c<=1000:=(by have:=aIW P bG;omega);have bK:TreeE wr (fun a=>k a=TC b c) (v c) (aJ e b c):=(by have:=aN c aH;rw [zBw oM] at this;exact this);have dD:(c:Int) < (aR:Int):=oM;obtain ⟨d4,b8,cm,a7,c5,c6,cl,ch,ci⟩:=hqq9 x bK aO bM au av bL ah aI;obtain ⟨d5,d1,cn,a6,a5,S,ak,b5,b2⟩:=hqq9 y Y C B ab af ag aG ac;clear aN bn ad y a2 C Y aO bM ai au av bL ah aI B ab af ag aG ac bK cH;obtain ⟨bP,bQ,bS⟩:=fL v b aR c aH;have cq:wr.cell? ⟨ap,c*3,none⟩=_:=(World.ownsRow.cellAt x (c*3) oM).trans bP;have al:wr.cell? ⟨ap,c*3+1,none⟩=_:=(World.ownsRow.cellAt x (c*3+1) oM).trans bQ;have am:wr.cell? ⟨ap,c*3+2,none⟩=_:=(World.ownsRow.cellAt x (c*3+2) oM).trans bS;have cK:wr.cell? d.heap.size=some (.int .i64 (q:Int)):=(a5.out.cell 0).trans rfl;have dv:=a5.out.lt;clear bP bQ bS x;go_wp2_with fail;obtain ⟨a8,V⟩:=eqx ((wr.alloc (.cells #[.pointer (some ⟨v c,0,none⟩),(b:Int),(c:Int)] 206)).alloc (.cells #[.bool false] 4));have br:Below wr.heap.size wr a8:=(by rw [<-V];exact (bR.alloc nL _).alloc (by simp) _);have bq:Bk a8 wr.heap.size 206 #[.pointer (some ⟨v c,0,none⟩),(b:Int),(c:Int)]:=(by rw [<-V];exact (Bk.new wr _ _).alloc _);have bp:Bk a8 (wr.heap.size+1) 4 #[.bool false]:=(by rw [<-V];have o:=Bk.new (wr.alloc (.cells #[.pointer (some ⟨v c,0,none⟩),(b:Int),(c:Int)] 206)) 4 #[.bool false];rw [World.size_alloc] at o;exact o);rw [V];obtain ⟨c3,c2,K⟩:=hqq3 bq bp br;clear bq bp br V cq al am cK;obtain ⟨cN,bg⟩:=a6.out.vis (Vis.of_below K.out);have bx:=a5.out.below K.out a5.out.lt;have bH:=b8.out.below K.out;have bA:=a6.out.base.2;have bu:=a6.out.bnd;have dF:=K.out.size;have cB:=a6.out.blk.lt;obtain ⟨aV,ca,b7,cb,aY⟩:=hqq5 bg bx bH bA bu;clear bg bx bH bA bu;refine (lI f (v c) n s cN b c (aJ e b c) q true a8 aV.out.blk b7.out.at (zCl a7.out)).mono ?_;rintro r E ⟨rfl,A⟩;obtain ⟨Q,aF⟩:=eqx (((aJ e b c).take q).count true);have bF:(if a then Q else q - Q)=m:=(by have L:=oO ((aJ e b c).take q);have cx:((aJ e b c).take q).length=q:=(by rw [zAj];have:=a7.out;omega);have cy:=cm.out;cases a;simp;omega;simp;omega);have dA:Q<=q:=(by rw [<-aF];exact zAk zBv (by rw [zAj];omega));rw [aF];obtain ⟨cP,bh⟩:=aV.out.vis A.1;have bI:=b7.out.vis A.1;have az:=A.1.bk ca.out dC dC;have M:=A.1.bk c3.out dC dC;have ar:=A.1.bk c2.out dC dC;have dG:=A.1.size;have cR:E.cell? ⟨wr.heap.size,0,none⟩=some (.pointer (some ⟨v c,0,none⟩)):=(M.cell 0).trans rfl;have cS:E.cell? ⟨wr.heap.size,1,none⟩=some (.int .i64 (b:Int)):=(M.cell 1).trans rfl;have cT:E.cell? ⟨wr.heap.size,2,none⟩=some (.int .i64 (c:Int)):=(M.cell 2).trans rfl;have dr:=M.lt;have dp:=ar.lt;have du:=az.lt;have cF:∀(bd:Fn) (first ao:Array Value) (d:World),(Instr.makeFunc bd first ao).run prog d=.ok (.func bd first ao) d:=fun _ _ _ _=>rfl;obtain ⟨b4,aj,ck,b0,c4,aX,b9⟩:=hqq7 bF bh bI az M ar A;clear aF bF bh bI az M ar A;go_wp2_with fail;have a4:∀m,wr.heap.size<=m->¬(k m=TC b c):=fun m C i=>by have:=(aY.out m (by rw [i];unfold TC;omega)).2;omega
    refine (aFW f (v c) d.heap.size (wr.heap.size+1) n s cP b c _ (fun a=>k a=TC b c) (aJ e b c) q E aj.out.blk ck.out (fun i=>by rw [cb.out] at i;unfold TC at i;omega) (a4 _ oM) (fun m C=>(aj.out.bnd m (by rw [C];unfold TC;omega)).2) b0.out aX.out (fun m C r=>a4 m oM C) a7.out).mono ?_;rintro r G ⟨rfl,bJ,a1,Z,bU,bs⟩;rw [cl.out] at Z
    have ay:=aj.out.edit (lv:=b) (p:=c) (gx:=wr.heap.size+1) P bG (aA (aQ cz.out K.out) fun a cv _ ax=>b9.out.1.bk ax dC dC) (by
        rcases zBa (k (wr.heap.size+1)) with r | r;omega
        · have:=(aY.out _ (by omega:k (wr.heap.size+1)≠0)).2;omega) (fun cv ax=>absurd (aK ax aX.out).1 dC) bJ a1 bs (L':=aD e j) c5.out (fun g cJ=>by rw [zBw (zCk _)];exact c6.out g (fun r=>cJ r.symm))
    have bv:(fun u=>if u=b then aD e j else if u < b then aD e j else e)=fun u=>if u < b+1 then aD e j else e:=by
        funext u;by_cases I:u=b
        · rw [zBx I,zBx oM]
        · by_cases an:u < b
          · rw [zBw I,zBx an,zBx oM]
          · rw [zBw I,zBw an,zBw oM]
    rw [bv] at ay
    have bz:=a1.bk b0.out (fun i=>by
        rcases i with i | i | i;have a9:k d.heap.size=TC b c:=i;rw [b5.out] at a9;unfold TC at a9;omega;exact cA i.symm
        · omega)
    have X:=a1.bk c4.out (fun i=>by
        rcases i with i | i | i;exact a4 _ nL i;omega
        · omega)
    have cU:G.cell? ⟨wr.heap.size,0,none⟩=some (.pointer (some ⟨v c,0,none⟩)):=(X.cell 0).trans rfl;have cV:G.cell? ⟨wr.heap.size,1,none⟩=some (.int .i64 (b:Int)):=(X.cell 1).trans rfl;have cW:G.cell? ⟨wr.heap.size,2,none⟩=some (.int .i64 (c:Int)):=(X.cell 2).trans rfl;have cX:G.cell? ⟨wr.heap.size+1,0,none⟩=some (.bool a):=(Z.cell 0).trans rfl;have ds:=X.lt;have dq:=Z.lt;have bl:k (v c)=TC b c:=b8.out.1;obtain ⟨c7,ce,b1,aZ,bX,d3⟩:=hqq6 ay a1 bz Z bl a4;clear bJ a1 bs ay bv bz X Z cR cS cT cF bl a4;go_wp2_with fail;refine (aCv (v c) b c a G cI).mono ?_;rintro r D ⟨rfl,W⟩;rw [<-ch.out];obtain ⟨cM,be⟩:=c7.out.vis (Vis.of_below W);have a0:=b1.out.below W b1.out.lt;have aw:=aZ.out.below W aZ.out.lt;have dJ:D.cell? ⟨wr.heap.size+1,0,none⟩=some (.bool a):=(aw.cell 0).trans rfl;have dK:D.cell? d.heap.size=some (.int .i64 (q:Int)):=(a0.cell 0).trans rfl;have di:=a0.frozen 0;have dt:=a0.lt;have dn:=aw.lt;have bw:=a0.set 0 (.int .i64 (m:Int));have aL:cO k E.heap.size G.heap.size (TC b c) d.heap.size=0:=(by unfold cO;rw [zBx oM];exact b5.out);have bf:=be.far (w':=D.setCell d.heap.size (.int .i64 (m:Int))) (H:=fun a=>a=d.heap.size) (Keep.setCell (F:=fun a=>a=d.heap.size) (Keep.refl _ _) (p:=d.heap.size) (.inl rfl) _) (fun a r=>by rw [show a=d.heap.size from r,aL];omega);have dE:=b2.out.size
    have bC:Keep (fun a=>a=f∨16<=own a) d (D.setCell d.heap.size (.int .i64 (m:Int))):=Keep.setCell (F:=fun a=>a=f∨16<=own a) ((((b2.out.trans (Keep.of_below K.out)).trans' b9.out.2 (fun a z i=>by
        rcases i with i | i;exact .inl i
        · right;rw [<-S.out a z,i,bX.out];unfold TC;omega)).trans' ce.out (fun a z i=>by
        rcases i with i | i | i;right;have a9:k a=TC b c:=i;rw [<-S.out a z,a9];unfold TC;omega;exact .inl i
        · omega)).trans (Keep.of_below W)) (p:=d.heap.size) (.inr nL) _
    obtain ⟨bW,c9,cf,cj⟩:=hqq4 bf bw bC aL;clear W be a0 aw bw bf bC aL cU cV cW cX
    have hrel:∃(a3:Nat) (k:Nat->Nat) (R:Int),a3<=9/\Value.int .i64 ((b+1:Nat):Int)=.int .i64 a3/\Value.int .i64 (cL:Int)=.int .i64 ((aW l a3:Nat):Int)/\WaveS (D.setCell d.heap.size (.int .i64 (m:Int))) J k f n (fun u=>if u < a3 then aD e j else e) (s:Int) R/\Bk (D.setCell d.heap.size (.int .i64 (m:Int))) d.heap.size 3 #[.int .i64 ((eY e j l a3:Nat):Int)]/\(∀a,a < d.heap.size->k a=own a)/\(∀a,d.heap.size<=a->k a≠1)/\k d.heap.size=0/\Keep (fun a=>a=f∨16<=own a) d (D.setCell d.heap.size (.int .i64 (m:Int))):=by
        refine ⟨b+1,cO k E.heap.size G.heap.size (TC b c),cM,by omega,rfl,by rw [ci.out],bW.out,?_,fun a z=>?_,fun a z=>?_,cj.out,cf.out⟩;rw [cn.out];exact c9.out;unfold cO;rw [zBx oM];exact S.out a z
        · unfold cO;by_cases I:a < E.heap.size;rw [zBx I];exact ak.out a z
          · rw [zBw I];unfold TC;split <;> omega
    have b6:=lhd hrel;clear hrel;cases a with
    | true=>
      obtain rfl:Q=m:=(by have:=b4.out;simpa using this);go_wp2_with fail;go_roundw
      case rel=>exact b6.out
      case measure=>simp [intOf];omega
    | false=>
      have dB:q - Q=m:=(by have:=b4.out;simpa using this);have dg:IntKind.i64.wrap ((q:Int) -(Q:Int))=(m:Int):=(by have cx:=a7.out;have cy:(aJ e b c).length<=e.length:=(by rw [kJ];exact zBh);have dj:=bY.out;rw [IntKind.wrap_i64];omega);go_wp2_with fail;go_roundw
      case rel=>exact b6.out
      case measure=>simp [intOf];omega
  · obtain rfl:b=9:=oM;have U:WaveS wr J k f n (fun _=>aD e j) (s:Int) R:=⟨B.blk,B.base,fun u bE=>by have:=B.rows u bE;simpa [bE] using this,B.bnd⟩;obtain ⟨_,dI,_⟩:=U.cells;have dh:=U.blk.frozen 9;have cB:=U.blk.lt;have bm:=U.set_n ((s:Int) - 1);have df:IntKind.i64.wrap ((s:Int) - 1)=(s:Int) - 1:=(by rw [IntKind.wrap_i64];omega);have bD:Keep (fun a=>a=f∨16<=own a) d (wr.setCell ⟨f,9,none⟩ (.int .i64 ((s:Int) - 1))):=Keep.setCell (F:=fun a=>a=f∨16<=own a) ac (p:=⟨f,9,none⟩) (.inl (.inl rfl)) _;rw [cp.out];obtain ⟨bZ,cg,S,ak⟩:=hqq4 bm bD af ag;clear B U bm ac bD ab af ag aG;go_wp2_with fail;go_ret2;refine ⟨rfl,k,⟨n,R,?_⟩,S.out,ak.out,cg.out⟩;rw [show (((aD e j).length:Nat):Int)=(s:Int) - 1 by have:=cc.out;omega];exact bZ.out
def PermAt.vis {q w':World} {c j i:Nat} {n o p m:Value} {f e:Nat} {k:List Nat} {d:List (Nat×Nat)} {l:List Bool} {g:List Nat} (a:PermAt q c j i n o p m f e k d l g) (b:Vis q w'):PermAt w' c j i n o p m f e k d l g:=
 ⟨b.bk a.blk dC dC,b.own a.lrow dC dC,b.own a.orow dC dC,b.bk a.ar dC dC,b.own a.trow dC dC,b.own a.frow dC dC,a.apart,a.lt,a.lo⟩
def LiveAt.vis {q w':World} {d i gk j g:Nat} {n o p:Value} {c k l:Nat} {f:List Nat} {e:List (Nat×Nat)} {m:List Bool} (a:LiveAt q d i gk j g n o p c k l f e m) (b:Vis q w'):LiveAt w' d i gk j g n o p c k l f e m:=
 ⟨b.bk a.blk dC dC,a.walk.vis b,a.perm.vis b⟩
def aGw (f:List Nat) (e d a c:Nat):(a,c)∈cK f e d↔a < d/\f.getD a 0=c/\c % e=0:=by
 unfold cK;rw [zAy];constructor;rintro ⟨k,b,g⟩;rw [zCv,zCi] at b;cases g;exact ⟨b.1,rfl,by simpa using b.2⟩;rintro ⟨i,rfl,j⟩;exact ⟨a,zCv.2 ⟨zCi.2 i,by simpa using j⟩,rfl⟩
def aAb (a:List (Nat×Nat)) (f:a.Pairwise (fun b c=>b.1 < c.1)):(List.range a.length).Pairwise (fun b c=>aB a b < aB a c):=by
 rw [zAr];intro i j d e g;rw [zCh] at d e;rw [List.getElem_range,List.getElem_range];have:=zAr.1 f i j d e g;unfold aB;rw [zAb,zAb,zAa d,zAa e];exact this
def aGx (c:List Nat) (b a:Nat):(cK c b a).length<=a:=by
 unfold cK;rw [zBc];exact zAk (zCu _ _) (by simp)
def jM (a:List (Nat×Nat)) (c e:Nat) (q:c < a.length):(bJ a).set (c*2) (.int .i64 (e:Int))=bJ (a.set c (e,aG a c)):=by
 apply List.ext_getElem?;intro b;have r:=cV a;have o:=cV (a.set c (e,aG a c));rw [zAt] at o;rw [zBm];by_cases p:b < a.length*2
 · have f:b / 2 < a.length:=oM;obtain ⟨k,l⟩:=cC a (b / 2) f;obtain ⟨i,j⟩:=cC (a.set c (e,aG a c)) (b / 2) (by rw [zAt];exact f);have n:aB (a.set c (e,aG a c)) (b / 2)=if c=b / 2 then e else aB a (b / 2):=by
    unfold aB;rw [zAb,zBm,zAb];by_cases d:c=b / 2
    · simp [d,f]
    · simp [d]
   have m:aG (a.set c (e,aG a c)) (b / 2)=aG a (b / 2):=by
    unfold aG;rw [zAb,zBm,zAb,zAb];by_cases d:c=b / 2
    · subst d;simp [f]
    · simp [d]
   rw [n] at i;rw [m] at j;by_cases s:b % 2=0
   · have g:b / 2*2=b:=oM;rw [g] at k i;rw [i];by_cases d:c*2=b
     · rw [zBx d,zBx oM,zBx oM]
     · rw [zBw d,k,zBw oM]
   · have g:b / 2*2+1=b:=oM;rw [g] at l j;rw [j,zBw oM,l]
 · rw [zBw oM,zBg oM,zBg oM]
def lX (a:List (Nat×Nat)) (c e:Nat) (q:c < a.length):(bJ a).set (c*2+1) (.int .i64 (e:Int))=bJ (a.set c (aB a c,e)):=by
 apply List.ext_getElem?;intro b;have r:=cV a;have o:=cV (a.set c (aB a c,e));rw [zAt] at o;rw [zBm];by_cases p:b < a.length*2
 · have f:b / 2 < a.length:=oM;obtain ⟨k,l⟩:=cC a (b / 2) f;obtain ⟨i,j⟩:=cC (a.set c (aB a c,e)) (b / 2) (by rw [zAt];exact f);have n:aB (a.set c (aB a c,e)) (b / 2)=aB a (b / 2):=by
    unfold aB;rw [zAb,zBm,zAb,zAb];by_cases d:c=b / 2
    · subst d;simp [f]
    · simp [d]
   have m:aG (a.set c (aB a c,e)) (b / 2)=if c=b / 2 then e else aG a (b / 2):=by
    unfold aG;rw [zAb,zBm,zAb];by_cases d:c=b / 2
    · simp [d,f]
    · simp [d]
   rw [n] at i;rw [m] at j;by_cases s:b % 2=0
   · have g:b / 2*2=b:=oM;rw [g] at k i;rw [i,zBw oM,k]
   · have g:b / 2*2+1=b:=oM;rw [g] at l j;rw [j];by_cases d:c*2+1=b
     · rw [zBx d,zBx oM,zBx oM]
     · rw [zBw d,l,zBw oM]
 · rw [zBw oM,zBg oM,zBg oM]
def dH {a:Int} (b:-9223372036854775808<=a) (c:a<=9223372036854775807):wrap64 a=a:=by unfold wrap64;omega
def pN {g i:World} {a d e:Nat} {b:TypeId} {f:Value} {j:List Value} (k:g.ownsRow a b e f d j) (l:i.heap=g.heap):i.ownsRow a b e f d j:=aA k fun m n _ c=>by unfold Bk at c⊢;rw [l];exact c
def kE (a:List (Nat×Nat)) (b:Nat) (d:b < a.length):a.set b (aB a b,aG a b)=a:=by
 have c:(aB a b,aG a b)=a[b]:=by unfold aB aG;rw [zAb,zAa d];rfl
 rw [c,List.set_getElem_self]
def mvR (a c b:Nat):Nat:=if b=a then c else inR (aS b a) c
def aDW (v e g x n d a:Nat) (b:List (Nat×Nat)) (i:World) (f:i.ownsRow v 106 2 (.slice (some e) g x) g (bJ b)) (j:a < b.length) (u:Bk i n 3 #[(d:Int)]) (J:aB b a<=1000000000000):
 Calls prog 215 #[.pointer (some ⟨e,a*2,none⟩),n] i fun H A=>H=.returned (.tuple #[])/\A.ownsRow v 106 2 (.slice (some e) g x) g (bJ (b.set a (inR (aB b a) d,aG b a)))/\Keep (fun l=>l=e) i A:=by
 obtain ⟨y,z⟩:=cC b a j;have K:b.length=g:=by have I:=f.1;rw [cV] at I;omega
 have E:=(World.ownsRow.cellAt f (a*2) oM).trans y;have G:=(World.ownsRow.cellAt f (a*2+1) oM).trans z;have U:i.cell? n=some (.int .i64 (d:Int)):=(u.cell 0).trans rfl;obtain ⟨O,o⟩:=eT f;have Q:=o.frozen (a*2);have R:=o.lt;have S:=u.lt;have k:=kE b a j;have t:=fun M=>jM b a M j;obtain ⟨c,s⟩:=eqx (aB b a);obtain ⟨L,r⟩:=eqx (aG b a);rw [s] at E k J;rw [r] at G k t;rw [s,r];obtain ⟨w,C,D⟩:=hqq3 f k t;clear f j u y z o k t K s r;by_cases T:d<=c
 · have N:decide ((c:Int)>=(d:Int))=true:=zBz oM;have P:wrap64 ((c:Int)+1)=((c+1:Nat):Int):=(by unfold wrap64;omega);have q:=(World.ownsRow.stored w.out (a*2) (.int .i64 ((c+1:Nat):Int))).1;rw [D.out] at q;have B:=lhd q;clear q;go_enter func215,ntmps215;go_wp2_with fail;go_quiet (fail);go_wp2_with fail;go_end0;refine ⟨rfl,?_,Keep.setCell (F:=fun l=>l=e) ((Keep.refl _ _).drewN _) (p:=⟨e,a*2,none⟩) (.inl rfl) _⟩;have m:inR (c) d=c+1:=(by unfold inR;rw [zBx oM]);rw [m];exact B.out
 · have N:decide ((c:Int)>=(d:Int))=false:=zBy oM;go_enter func215,ntmps215;go_wp2_with fail;go_quiet (fail);go_wp2_with fail;go_end0;refine ⟨rfl,?_,(Keep.refl _ _).drewN _⟩;have m:inR (c) d=c:=(by unfold inR;rw [zBw oM]);rw [m,C.out];exact w.out
def aDX (v e g x n d a:Nat) (b:List (Nat×Nat)) (i:World) (f:i.ownsRow v 106 2 (.slice (some e) g x) g (bJ b)) (j:a < b.length) (u:Bk i n 3 #[(d:Int)]) (J:aG b a<=1000000000000):
 Calls prog 216 #[.pointer (some ⟨e,a*2,none⟩),n] i fun H A=>H=.returned (.tuple #[])/\A.ownsRow v 106 2 (.slice (some e) g x) g (bJ (b.set a (aB b a,inR (aG b a) d)))/\Keep (fun l=>l=e) i A:=by
 obtain ⟨y,z⟩:=cC b a j;have K:b.length=g:=by have I:=f.1;rw [cV] at I;omega
 have E:=(World.ownsRow.cellAt f (a*2) oM).trans y;have G:=(World.ownsRow.cellAt f (a*2+1) oM).trans z;have U:i.cell? n=some (.int .i64 (d:Int)):=(u.cell 0).trans rfl;obtain ⟨N,o⟩:=eT f;have P:=o.frozen (a*2+1);have Q:=o.lt;have R:=u.lt;have k:=kE b a j;have t:=fun L=>lX b a L j;obtain ⟨T,s⟩:=eqx (aB b a);obtain ⟨c,r⟩:=eqx (aG b a);rw [s] at E k t;rw [r] at G k J;rw [s,r];obtain ⟨w,C,D⟩:=hqq3 f k t;clear f j u y z o k t K s r;by_cases S:d<=c
 · have M:decide ((c:Int)>=(d:Int))=true:=zBz oM;have O:wrap64 ((c:Int)+1)=((c+1:Nat):Int):=(by unfold wrap64;omega);have q:=(World.ownsRow.stored w.out (a*2+1) (.int .i64 ((c+1:Nat):Int))).1;rw [D.out] at q;have B:=lhd q;clear q;go_enter func216,ntmps216;go_wp2_with fail;go_quiet (fail);go_wp2_with fail;go_end0;refine ⟨rfl,?_,Keep.setCell (F:=fun l=>l=e) ((Keep.refl _ _).drewN _) (p:=⟨e,a*2+1,none⟩) (.inl rfl) _⟩;have m:inR (c) d=c+1:=(by unfold inR;rw [zBx oM]);rw [m];exact B.out
 · have M:decide ((c:Int)>=(d:Int))=false:=zBy oM;go_enter func216,ntmps216;go_wp2_with fail;go_quiet (fail);go_wp2_with fail;go_end0;refine ⟨rfl,?_,(Keep.refl _ _).drewN _⟩;have m:inR (c) d=c:=(by unfold inR;rw [zBw oM]);rw [m,C.out];exact w.out
def yB (t p z P o:Nat) (l J K I:Value) (w v:Nat) (c:List Nat) (f:List (Nat×Nat)) (H:List Bool) (y:List Nat) (q:World) (A:PermAt q t p z l J K I w v c f H y) (E:c.Nodup) (aM:c.length<=1000000) (aO:Bk q P 3 #[(o:Int)]) (aL:∀d,l.ownBlock=some d->d≠P) (ae:∀a,a∈c->aB f a<=1000000000000/\aG f a<=1000000000000):
 Calls prog 206 #[p,.func (.func 215) #[] #[P]] q fun j al=>j=.returned (.tuple #[])/\Keep (fun d=>l.ownBlock=some d) q al/\∃L,L.length=f.length/\(∀a,a∈c->(aB L a,aG L a)=(inR (aB f a) o,aG f a))/\PermAt al t p z l J K I w v c L H y:=by
 obtain ⟨am,az,a5,_,_⟩:=aP A.orow;have aC:q.cell? ⟨p,2,none⟩=some (.slice am c.length az):=(A.blk.cell 2).trans (by rw [a5];rfl);have aW:=A.blk.lt;obtain ⟨G,a4⟩:=eqx c.length;rw [a4] at aC aM;obtain ⟨an,X,ay,aw,ao⟩:=hqq5 A a4 a5 E ae;clear A a4 a5 E ae;go_enter func206,ntmps206;go_wp2_with fail;go_loopw [11] (fun a6 wr=>∃(g:Nat) (b:List (Nat×Nat)),g<=G/\a6=.int .i64 (g:Int)/\b.length=f.length/\(∀a,a∈c.take g->(aB b a,aG b a)=(inR (aB f a) o,aG f a))/\(∀a,a∈c.drop g->(aB b a,aG b a)=(aB f a,aG f a))/\PermAt wr t p z l J K I w v c b H y/\Keep (fun d=>l.ownBlock=some d) q wr) (fun a6 _=>G -(intOf a6).toNat)
 case atStart=>exact ⟨0,f,zAp _,rfl,rfl,fun a n=>by simp at n,fun a _=>rfl,an.out,Keep.refl _ _⟩
 case round=>
  obtain ⟨g,b,aY,rfl,a3,R,S,e,n⟩:=hrel;by_cases aj:g < G
  · have B:g < c.length:=(by rw [X.out];exact aj);obtain ⟨a,C⟩:∃a,c[g]?=some a:=⟨_,zAa B⟩;have a2:=zAd C;have a1:a < b.length:=e.lt a a2;have T:=e.orow;rw [ay.out] at T;obtain ⟨aF,b1,aE,_,aV⟩:=World.ownsRow.form T oM;injection aE with e2a _ e2c;subst e2a e2c;have D:=e.lrow;obtain ⟨O,ak,N,_,aU⟩:=World.ownsRow.form D oM;rw [N] at D;have aD:wr.cell? ⟨aF,g,none⟩=some (.int .i64 (a:Int)):=(World.ownsRow.cellAt T g oM).trans (by rw [zAf,C];rfl);have ad:wr.cell? ⟨p,1,none⟩=some (.slice (some O) b.length ak):=(e.blk.cell 1).trans (by rw [N];rfl);have aX:=e.blk.lt;have b0:=n.size;have ah:a∈c.drop g:=(by rw [zAx B,List.getElem_eq_getElem?_get];simp [C]);have aH:(aB b a,aG b a)=(aB f a,aG f a):=S a ah;injection aH with hCr hCp;have aR:=fun (d:Nat) (j:Value.ownBlock l=some d)=>(World.ownsRow.lt e.lrow d j).2;obtain ⟨ac,Z⟩:=eqx b.length;rw [Z] at D ad a1;have aS:=n.bk aO (fun j=>aL _ j rfl);have aZ:(a:Int) < (ac:Int):=oM;obtain ⟨Y,W,ab,aa,V,aq,M,av,a9⟩:=hqq9 e n D C R S Z a3 N;obtain ⟨a8,ap,au⟩:=hqq3 hCr hCp a2;clear e n D C R S Z a3 N hCr hCp a2 ah T aR;go_wp2_with fail;refine (aDW t O ac ak P o a b wr ab.out (by rw [M.out];exact a1) aS (by rw [a8.out];exact (ao.out a au.out).1)).mono ?_;rintro j w1 ⟨rfl,ai,s⟩
    have af:PermAt w1 t p z l J K I w v c (b.set a (inR (aB b a) o,aG b a)) H y:=by
        have e:=Y.out;have F:∀d a7 x,a7≠106->Bk wr d a7 x->d≠O:=fun d a7 x aN m j=>by subst j;obtain ⟨aT,aI⟩:=eT ab.out;exact aN (aK m aI).1
        refine ⟨s.bk e.blk (F _ _ _ dC e.blk),?_,aA e.orow fun d x _ m=>s.bk m (F _ _ _ dC m),s.bk e.ar (F _ _ _ dC e.ar),aA e.trow fun d x _ m=>s.bk m (F _ _ _ dC m),aA e.frow fun d x _ m=>s.bk m (F _ _ _ dC m),e.apart,fun i k=>by rw [zAt];exact e.lt i k,e.lo⟩;rw [zAt,M.out,a9.out,M.out];exact ai
    have ag:Keep (fun d=>l.ownBlock=some d) q w1:=W.out.trans (s.mono fun d _ j=>by rw [a9.out,show d=O from j];rfl)
    have a0:∀i,(aB (b.set a (inR (aB b a) o,aG b a)) i,aG (b.set a (inR (aB b a) o,aG b a)) i)=if i=a then (inR (aB b a) o,aG b a) else (aB b i,aG b i):=fun i=>by
        unfold aB aG;rw [zAb,zBm];by_cases r:a=i;subst r;rw [zBx rfl,zBx rfl,zBx (by rw [M.out];exact a1)];rfl
        · rw [zBw r,zBw (fun j=>r j.symm),zAb]
    have hrel:∃(U:Nat) (u:List (Nat×Nat)),U<=G/\Value.int .i64 ((g+1:Nat):Int)=.int .i64 (U:Int)/\u.length=f.length/\(∀a,a∈c.take U->(aB u a,aG u a)=(inR (aB f a) o,aG f a))/\(∀a,a∈c.drop U->(aB u a,aG u a)=(aB f a,aG f a))/\PermAt w1 t p z l J K I w v c u H y/\Keep (fun d=>l.ownBlock=some d) q w1:=by
        refine ⟨g+1,_,by omega,rfl,by rw [zAt];exact av.out,fun i k=>?_,fun i k=>?_,af,ag⟩
        · rw [a0];by_cases r:i=a
          · subst r;rw [zBx rfl,a8.out,ap.out]
          rw [zBw r];refine V.out i ?_;rw [zAv,aa.out] at k;simp at k;rcases k with k | k;exact k;exact absurd k r
        · rw [a0];have aQ:i≠a:=fun j=>by subst j;have aJ:c.drop g=i::c.drop (g+1):=(by have B:g < c.length:=(by rw [X.out];exact aj);rw [zAx B];have Q:=aa.out;rw [zAa B] at Q;injection Q with Q;rw [Q]);have E:=(List.drop_sublist g c).nodup aw.out;rw [aJ,List.nodup_cons] at E;exact E.1 k
          rw [zBw aQ];exact aq.out i (List.mem_of_mem_drop (by rw [<-List.drop_drop] at k;exact k:i∈(c.drop g).drop 1))
    have ax:=lhd hrel;clear af ag a0 hrel s ai ad aD;go_wp2_with fail;go_roundw
    case rel=>exact ax.out
    case measure=>simp [intOf];omega
  · obtain rfl:g=G:=oM;obtain ⟨Y,W,V⟩:=hqq3 e n R;clear e n R S;go_wp2_with fail;go_end0;refine ⟨rfl,W.out,b,a3,fun a n=>V.out a ?_,Y.out⟩;rw [zAg (by rw [X.out];exact zAs _)];exact n
def yC (t p z P o:Nat) (l J K I:Value) (w v:Nat) (c:List Nat) (f:List (Nat×Nat)) (H:List Bool) (y:List Nat) (q:World) (A:PermAt q t p z l J K I w v c f H y) (E:c.Nodup) (aM:c.length<=1000000) (aO:Bk q P 3 #[(o:Int)]) (aL:∀d,l.ownBlock=some d->d≠P) (ae:∀a,a∈c->aB f a<=1000000000000/\aG f a<=1000000000000):
 Calls prog 206 #[p,.func (.func 216) #[] #[P]] q fun j al=>j=.returned (.tuple #[])/\Keep (fun d=>l.ownBlock=some d) q al/\∃L,L.length=f.length/\(∀a,a∈c->(aB L a,aG L a)=(aB f a,inR (aG f a) o))/\PermAt al t p z l J K I w v c L H y:=by
 obtain ⟨am,az,a5,_,_⟩:=aP A.orow;have aC:q.cell? ⟨p,2,none⟩=some (.slice am c.length az):=(A.blk.cell 2).trans (by rw [a5];rfl);have aW:=A.blk.lt;obtain ⟨G,a4⟩:=eqx c.length;rw [a4] at aC aM;obtain ⟨an,X,ay,aw,ao⟩:=hqq5 A a4 a5 E ae;clear A a4 a5 E ae;go_enter func206,ntmps206;go_wp2_with fail;go_loopw [11] (fun a6 wr=>∃(g:Nat) (b:List (Nat×Nat)),g<=G/\a6=.int .i64 (g:Int)/\b.length=f.length/\(∀a,a∈c.take g->(aB b a,aG b a)=(aB f a,inR (aG f a) o))/\(∀a,a∈c.drop g->(aB b a,aG b a)=(aB f a,aG f a))/\PermAt wr t p z l J K I w v c b H y/\Keep (fun d=>l.ownBlock=some d) q wr) (fun a6 _=>G -(intOf a6).toNat)
 case atStart=>exact ⟨0,f,zAp _,rfl,rfl,fun a n=>by simp at n,fun a _=>rfl,an.out,Keep.refl _ _⟩
 case round=>
  obtain ⟨g,b,aY,rfl,a3,R,S,e,n⟩:=hrel;by_cases aj:g < G
  · have B:g < c.length:=(by rw [X.out];exact aj);obtain ⟨a,C⟩:∃a,c[g]?=some a:=⟨_,zAa B⟩;have a2:=zAd C;have a1:a < b.length:=e.lt a a2;have T:=e.orow;rw [ay.out] at T;obtain ⟨aF,b1,aE,_,aV⟩:=World.ownsRow.form T oM;injection aE with e2a _ e2c;subst e2a e2c;have D:=e.lrow;obtain ⟨O,ak,N,_,aU⟩:=World.ownsRow.form D oM;rw [N] at D;have aD:wr.cell? ⟨aF,g,none⟩=some (.int .i64 (a:Int)):=(World.ownsRow.cellAt T g oM).trans (by rw [zAf,C];rfl);have ad:wr.cell? ⟨p,1,none⟩=some (.slice (some O) b.length ak):=(e.blk.cell 1).trans (by rw [N];rfl);have aX:=e.blk.lt;have b0:=n.size;have ah:a∈c.drop g:=(by rw [zAx B,List.getElem_eq_getElem?_get];simp [C]);have aH:(aB b a,aG b a)=(aB f a,aG f a):=S a ah;injection aH with hCr hCp;have aR:=fun (d:Nat) (j:Value.ownBlock l=some d)=>(World.ownsRow.lt e.lrow d j).2;obtain ⟨ac,Z⟩:=eqx b.length;rw [Z] at D ad a1;have aS:=n.bk aO (fun j=>aL _ j rfl);have aZ:(a:Int) < (ac:Int):=oM;obtain ⟨Y,W,ab,aa,V,aq,M,av,a9⟩:=hqq9 e n D C R S Z a3 N;obtain ⟨ap,a8,au⟩:=hqq3 hCr hCp a2;clear e n D C R S Z a3 N hCr hCp a2 ah T aR;go_wp2_with fail;refine (aDX t O ac ak P o a b wr ab.out (by rw [M.out];exact a1) aS (by rw [a8.out];exact (ao.out a au.out).2)).mono ?_;rintro j w1 ⟨rfl,ai,s⟩
    have af:PermAt w1 t p z l J K I w v c (b.set a (aB b a,inR (aG b a) o)) H y:=by
        have e:=Y.out;have F:∀d a7 x,a7≠106->Bk wr d a7 x->d≠O:=fun d a7 x aN m j=>by subst j;obtain ⟨aT,aI⟩:=eT ab.out;exact aN (aK m aI).1
        refine ⟨s.bk e.blk (F _ _ _ dC e.blk),?_,aA e.orow fun d x _ m=>s.bk m (F _ _ _ dC m),s.bk e.ar (F _ _ _ dC e.ar),aA e.trow fun d x _ m=>s.bk m (F _ _ _ dC m),aA e.frow fun d x _ m=>s.bk m (F _ _ _ dC m),e.apart,fun i k=>by rw [zAt];exact e.lt i k,e.lo⟩;rw [zAt,M.out,a9.out,M.out];exact ai
    have ag:Keep (fun d=>l.ownBlock=some d) q w1:=W.out.trans (s.mono fun d _ j=>by rw [a9.out,show d=O from j];rfl)
    have a0:∀i,(aB (b.set a (aB b a,inR (aG b a) o)) i,aG (b.set a (aB b a,inR (aG b a) o)) i)=if i=a then (aB b a,inR (aG b a) o) else (aB b i,aG b i):=fun i=>by
        unfold aB aG;rw [zAb,zBm];by_cases r:a=i;subst r;rw [zBx rfl,zBx rfl,zBx (by rw [M.out];exact a1)];rfl
        · rw [zBw r,zBw (fun j=>r j.symm),zAb]
    have hrel:∃(U:Nat) (u:List (Nat×Nat)),U<=G/\Value.int .i64 ((g+1:Nat):Int)=.int .i64 (U:Int)/\u.length=f.length/\(∀a,a∈c.take U->(aB u a,aG u a)=(aB f a,inR (aG f a) o))/\(∀a,a∈c.drop U->(aB u a,aG u a)=(aB f a,aG f a))/\PermAt w1 t p z l J K I w v c u H y/\Keep (fun d=>l.ownBlock=some d) q w1:=by
        refine ⟨g+1,_,by omega,rfl,by rw [zAt];exact av.out,fun i k=>?_,fun i k=>?_,af,ag⟩
        · rw [a0];by_cases r:i=a
          · subst r;rw [zBx rfl,ap.out,a8.out]
          rw [zBw r];refine V.out i ?_;rw [zAv,aa.out] at k;simp at k;rcases k with k | k;exact k;exact absurd k r
        · rw [a0];have aQ:i≠a:=fun j=>by subst j;have aJ:c.drop g=i::c.drop (g+1):=(by have B:g < c.length:=(by rw [X.out];exact aj);rw [zAx B];have Q:=aa.out;rw [zAa B] at Q;injection Q with Q;rw [Q]);have E:=(List.drop_sublist g c).nodup aw.out;rw [aJ,List.nodup_cons] at E;exact E.1 k
          rw [zBw aQ];exact aq.out i (List.mem_of_mem_drop (by rw [<-List.drop_drop] at k;exact k:i∈(c.drop g).drop 1))
    have ax:=lhd hrel;clear af ag a0 hrel s ai ad aD;go_wp2_with fail;go_roundw
    case rel=>exact ax.out
    case measure=>simp [intOf];omega
  · obtain rfl:g=G:=oM;obtain ⟨Y,W,V⟩:=hqq3 e n R;clear e n R S;go_wp2_with fail;go_end0;refine ⟨rfl,W.out,b,a3,fun a n=>V.out a ?_,Y.out⟩;rw [zAg (by rw [X.out];exact zAs _)];exact n
end Go.Proofs.YtcfpmjbojoidoaaGreatDoor
