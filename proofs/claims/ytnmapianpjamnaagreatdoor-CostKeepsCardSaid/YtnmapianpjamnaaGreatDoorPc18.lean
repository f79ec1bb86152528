/- Lemmas of the walk. Conditions: each its own. -/
import Derived.Test.YtnmapianpjamnaaGreatDoorPc16
import Derived.Test.YtnmapianpjamnaaGreatDoorPc17
import Derived.Test.YtnmapianpjamnaaGreatDoorProg
import Derived.Test.YtnmapianpjamnaaGreatDoorShl
set_option linter.all false
set_option maxRecDepth 100000
set_option maxHeartbeats 4000000
open Go.Proofs.Tryz
namespace Go.Proofs.YtnmapianpjamnaaGreatDoor
open Go.RowKit
def dD (b c:List Nat) (lv a:Nat):aF (b++c) lv a=aF b lv a++aF c lv a:=by
 unfold aF;rw [List.filter_append,zAz]
def hD (b:Nat) (c:List Nat) (lv a:Nat):aF (b::c) lv a=if aP b lv=a then eH b lv::aF c lv a else aF c lv a:=by
 unfold aF;rw [List.filter_cons];by_cases d:aP b lv=a
 · simp [d]
 · simp [d]
def mX (a:List Nat) (c lv b:Nat):aF a lv b=aF (a.take c) lv b++aF (a.drop c) lv b:=by
 rw [<-dD,zAu]
def tV (a:List Nat) (b c lv:Nat):(aF (a.take b) lv (aP c lv)).length=dZ a b c lv:=by
 rw [eW];rfl
def aAQ (b:List Nat) (c a lv:Nat):aF (aI b c a) lv (aP a lv)=aI (aF b lv (aP a lv)) (dZ b c a lv) (eH a lv):=by
 have d:=tV b c a lv;unfold aI;rw [dD,hD,zBx rfl]
 conv=>rhs;rw [mX b c lv (aP a lv)]
 rw [<-d,List.take_left,List.drop_left]
def sE (b:List Nat) (e c lv a:Nat) (d:aP c lv≠a):aF (aI b e c) lv a=aF b lv a:=by
 unfold aI;rw [dD,hD,zBw d,<-mX]
def aDt {a:List Nat} {b c:Nat} (d:a[b]?=some c):a=a.take b++c::a.drop (b+1):=by
 obtain ⟨e,f⟩:=zAc.1 d;rw [<-f,<-zAx e,zAu]
def aAR {b:List Nat} {c a:Nat} (lv:Nat) (f:b[c]?=some a):aF (aC b c) lv (aP a lv)=aC (aF b lv (aP a lv)) (dZ b c a lv):=by
 have d:=tV b c a lv;have e:aF b lv (aP a lv)=aF (b.take c) lv (aP a lv)++eH a lv::aF (b.drop (c+1)) lv (aP a lv):=by
  conv=>lhs;rw [aDt f]
  rw [dD,hD,zBx rfl]
 unfold aC;rw [dD,e];generalize aF (b.take c) lv (aP a lv)=A at d⊢;generalize aF (b.drop (c+1)) lv (aP a lv)=C;rw [<-d,List.take_left,List.drop_append,List.drop_eq_nil_of_le oM,show A.length+1 - A.length=1 by omega];rfl
def sF {a:List Nat} {c d:Nat} (lv b:Nat) (e:a[c]?=some d) (f:aP d lv≠b):aF (aC a c) lv b=aF a lv b:=by
 conv=>rhs;rw [aDt e]
 unfold aC;rw [dD,dD,hD,zBw f]
def aBu {α:Type} (b:List α) (a:Nat) (d:α) (e:a<=b.length):(aI b a d).take a=b.take a:=by
 unfold aI;have c:(b.take a).length=a:=by rw [zAj];omega
 rw [List.take_append,c,Nat.sub_self,List.take_zero,List.append_nil,List.take_take,Nat.min_self]
def aBi {b:List Nat} {e d c:Nat} (f:∀a∈b,a < c) (i:d < c):∀a∈aI b e d,a < c:=fun a j=>by
 rcases List.mem_cons.1 ((dQ b e d).mem_iff.1 j) with rfl | g;exact i;exact f a g
def lE {c:List Nat} {g d:Nat} (e:∀a∈c,a < d):∀a∈aC c g,a < d:=fun a f=>by
 unfold aC at f;rcases zCm.1 f with b | b;exact e a (List.mem_of_mem_take b);exact e a (List.mem_of_mem_drop b)
def TC (lv a:Nat):Nat:=16+512*lv+a
def aFp {lv a c b:Nat} (e:a < 512) (f:b < 512) (d:TC lv a=TC c b):lv=c/\a=b:=by
 unfold TC at d;omega
def aET {lv a:Nat} (c:lv < 9) (d:a < 2 ^ lv):a < 512:=by
 have:2 ^ lv<=2 ^ 9:=zBp dC oM;have b:(2:Nat)^ 9=512:=dC;omega
def cB (own:Nat->Nat) (d c b a:Nat):Nat:=if a < d then own a else if a < c then b else 0
structure WaveS (w:World) (B:Nat) (own:Nat->Nat) (gv:Nat) (S:Nat->Value) (Ls:Nat->List Nat) (n v:Int):Prop where
 blk:Bk w gv 135 (wcells S n v)
 base:B<=gv/\own gv=2
 rows:∀lv,lv < 9->∃G:Nat->Nat,w.ownsRow B 143 3 (S lv) (2 ^ lv) (cO G lv (2 ^ lv))/\(∀b,(S lv).ownBlock=some b->own b=2)/\∀p,p < 2 ^ lv->TreeE w (fun b=>own b=TC lv p) (G p) (aF (Ls lv) lv p)
 bnd:∀b,own b≠0->B<=b/\b < w.heap.size
def WaveE (f:World) (b:Nat) (own:Nat->Nat) (d:Nat) (a:List Nat):Prop:=∃c e,WaveS f b own d c (fun _=>a) (a.length:Int) e
def WaveS.vis {l w':World} {d:Nat} {own:Nat->Nat} {i:Nat} {f:Nat->Value} {e:Nat->List Nat} {k u:Int} (a:WaveS l d own i f e k u) (b:Vis l w'):∃c,WaveS w' d own i f e k c:=by
 obtain ⟨c,q⟩:=b.waveC a.blk;refine ⟨c,q,a.base,fun lv r=>?_,fun g j=>⟨(a.bnd g j).1,zAl (a.bnd g j).2 b.size⟩⟩;obtain ⟨m,n,o,p⟩:=a.rows lv r;exact ⟨m,b.own n dC dC,o,fun t s=>(p t s).vis b⟩
def WaveE.vis {e w':World} {b:Nat} {own:Nat->Nat} {d:Nat} {c:List Nat} (a:WaveE e b own d c) (i:Vis e w'):WaveE w' b own d c:=by
 obtain ⟨f,k,a⟩:=a;obtain ⟨j,g⟩:=a.vis i;exact ⟨f,j,g⟩
def WaveE.at {j:World} {d:Nat} {own:Nat->Nat} {g:Nat} {e:List Nat} (a:WaveE j d own g e):WaveAt j d g e:=by
 obtain ⟨k,o,a⟩:=a;refine ⟨a.base.1,k,o,a.blk,fun lv n=>?_⟩;obtain ⟨c,l,p,f⟩:=a.rows lv n;refine ⟨c,l,fun b i=>⟨?_,(f b i).at⟩⟩;have m:own (c b)=TC lv b:=(f b i).fg;exact (a.bnd (c b) (by rw [m];unfold TC;omega)).1
def WaveS.edit {f l:World} {t:Nat} {own:Nat->Nat} {y:Nat} {u:Nat->Value} {q:Nat->List Nat} {F a6 P:Int} (g:WaveS f t own y u q F a6) {lv p gx:Nat} (a2:lv < 9) (a4:p < 2 ^ lv) {o:Nat->Nat} (W:f.ownsRow t 143 3 (u lv) (2 ^ lv) (cO o lv (2 ^ lv)))
 (L:own gx < 16) (a0:∀w,¬Bk f gx 143 w) {I:List Bool} (ht:TreeE l (Gw (fun a=>own a=TC lv p) f.heap.size) (o p) I) (E:Keep (fun G=>own G=TC lv p∨G=y∨G=gx) f l) (D:Bk l y 135 (wcells u F P))
 {L':List Nat} (Y:aF L' lv p=I) (Z:∀c,c≠p->aF L' lv c=aF (q lv) lv c):
 WaveS l t (cB own f.heap.size l.heap.size (TC lv p)) y u (fun b=>if b=lv then L' else q b) F P:=by
 have hB:t<=f.heap.size:=zAk g.base.1 (zCk g.blk.lt);have B:∀a,a < f.heap.size->cB own f.heap.size l.heap.size (TC lv p) a=own a:=fun a D=>by unfold cB;rw [zBx D]
 refine ⟨D,⟨g.base.1,by rw [B _ g.blk.lt];exact g.base.2⟩,fun b O=>?_,fun a k=>?_⟩
 · obtain ⟨n,x,J,K⟩:=g.rows b O;refine ⟨n,aA x fun a w A r=>E.bk r fun d=>?_,fun a A=>?_,fun c s=>?_⟩;rcases d with d | d | d;rw [J a A] at d;unfold TC at d;omega;subst d;exact absurd (aJ r g.blk).1 dC;subst d;exact a0 w r;rw [B _ (x.lt a A).2];exact J a A
   · have N:(b≠lv∨c≠p)->TreeE l (fun a=>cB own f.heap.size l.heap.size (TC lv p) a=TC b c) (n c) (aF (q b) b c):=fun a3=>by
        have a5:=(K c s).keep E fun a ak w M r i d=>by rcases d with d | d | d;rw [i] at d;obtain ⟨e,m⟩:=aFp (aET O s) (aET a2 a4) d;rcases a3 with z | z;exact z e;exact z m;subst d;rw [(aJ r g.blk).1] at M;exact absurd M dC;subst d;rw [i] at L;unfold TC at L;omega
        have aj:TreeE f (fun a=>own a=TC b c) (n c) (aF (q b) b c):=K c s;refine a5.mono fun a k i=>?_;have a1:a < f.heap.size:=(g.bnd a (by rw [i];unfold TC;omega)).2;rw [B a a1];exact i
     by_cases e:b=lv
     · subst e;rw [zBx rfl];by_cases m:c=p
       · subst m;rw [Y]
         have X:n c=o c:=by
           have z:=x.1;have e:=(dV n b (2 ^ b) c s).1;have m:=(dV o b (2 ^ b) c s).1
           have V:cO n b (2 ^ b)=cO o b (2 ^ b):=by
             rcases x.2 with ⟨H,Q⟩|⟨ah,ad,af,H,Q,R,a7,a8,a9,S⟩;have:=Nat.two_pow_pos b;omega
             · rcases W.2 with ⟨j,v⟩|⟨ai,ae,ag,j,v,T,aa,ab,ac,U⟩;have:=Nat.two_pow_pos b;omega
               · rw [H] at j;injection j with j _ _;injection j with j;injection j with j _;subst j;obtain ⟨_,rfl⟩:=aJ R T;rw [<-S,<-U]
           rw [V,m] at e;injection e with e;injection e with e;injection e with e;injection e with e _;exact e.symm
         rw [X];refine ht.mono fun a k i=>?_;rcases i with i | i;rw [B a (g.bnd a (by rw [i];unfold TC;omega)).2];exact i
         · unfold cB;rw [zBw oM,zBx k]
       rw [Z c m];exact N (.inr m)
     rw [zBw e];exact N (.inl e)
 unfold cB at k;by_cases C:a < f.heap.size;rw [zBx C] at k;exact ⟨(g.bnd a k).1,zAl C E.size⟩;rw [zBw C] at k;by_cases v:a < l.heap.size;exact ⟨by omega,v⟩;rw [zBw v] at k;exact absurd rfl k
def aCo (a:Nat->Value) (d b c:Int):(wcells a d c).setIfInBounds 9 (.int .i64 b)=wcells a b c:=by
 unfold wcells;rfl
def WaveS.set_n {f:World} {i:Nat} {own:Nat->Nat} {b:Nat} {k:Nat->Value} {j:Nat->List Nat} {z o:Int} (c:WaveS f i own b k j z o) (e:Int):WaveS (f.setCell ⟨b,9,none⟩ (.int .i64 e)) i own b k j e o:=by
 have g:Keep (fun a=>a=b) f (f.setCell ⟨b,9,none⟩ (.int .i64 e)):=Keep.setCell (F:=fun a=>a=b) (Keep.refl _ _) (p:=⟨b,9,none⟩) (.inl rfl) _;refine ⟨by have:=c.blk.set 9 (.int .i64 e);rw [aCo] at this;exact this,c.base,fun lv x=>?_,fun a l=>⟨(c.bnd a l).1,zAl (c.bnd a l).2 g.size⟩⟩;obtain ⟨q,u,v,w⟩:=c.rows lv x;exact ⟨q,aA u fun a r _ d=>g.bk d (Bk.ne d c.blk dC),v,fun n y=>(w n y).keep g fun a A r m d _ s=>by
  have t:a=b:=s;subst t;rw [(aJ d c.blk).1] at m;exact absurd m dC⟩
def WaveS.far {p w':World} {f:Nat} {own:Nat->Nat} {k:Nat} {i:Nat->Value} {g:Nat->List Nat} {n o:Int} (b:WaveS p f own k i g n o) {H:Nat->Prop} (d:Keep H p w') (e:∀a,H a->own a≠2/\own a < 16):WaveS w' f own k i g n o:=by
 refine ⟨d.bk b.blk (fun c=>by have:=e _ c;have:=b.base.2;omega),b.base,fun lv w=>?_,fun a l=>⟨(b.bnd a l).1,zAl (b.bnd a l).2 d.size⟩⟩;obtain ⟨q,s,j,t⟩:=b.rows lv w;exact ⟨q,aA s fun a r u m=>d.bk m (fun c=>by have:=e _ c;have:=j a u;omega),j,fun y x=>(t y x).keep d fun a A r z m v c=>by
  have:=e a c;rw [v] at this;unfold TC at this;omega⟩
def WaveE.far {f w':World} {c:Nat} {own:Nat->Nat} {e:Nat} {d:List Nat} (b:WaveE f c own e d) {H:Nat->Prop} (j:Keep H f w') (i:∀a,H a->own a≠2/\own a < 16):WaveE w' c own e d:=by
 obtain ⟨g,k,b⟩:=b;exact ⟨g,k,b.far j i⟩
def WaveS.paint {c:World} {d:Nat} {own own':Nat->Nat} {e:Nat} {j:Nat->Value} {i:Nat->List Nat} {n o:Int} (b:WaveS c d own e j i n o) (f:∀a,a < c.heap.size->2<=own a->own' a=own a) (r:∀a,own' a≠0->d<=a/\a < c.heap.size):WaveS c d own' e j i n o:=by
 refine ⟨b.blk,⟨b.base.1,by rw [f e b.blk.lt (by rw [b.base.2];omega)];exact b.base.2⟩,fun lv t=>?_,r⟩;obtain ⟨p,k,l,q⟩:=b.rows lv t;refine ⟨p,k,fun a g=>?_,fun v u=>(q v u).mono fun a s m=>?_⟩;rw [f a (k.lt a g).2 (by rw [l a g];omega)];exact l a g;rw [f a s (by rw [m];unfold TC;omega)];exact m
def WaveE.paint {b:World} {c:Nat} {own own':Nat->Nat} {f:Nat} {e:List Nat} (d:WaveE b c own f e) (i:∀a,a < b.heap.size->2<=own a->own' a=own a) (j:∀a,own' a≠0->c<=a/\a < b.heap.size):WaveE b c own' f e:=by
 obtain ⟨g,k,d⟩:=d;exact ⟨g,k,d.paint i j⟩
def aDw (b:Nat) (d:TypeId) (c:Array Value):Value->World->Prop:=fun e f=>∃a,e=.pointer (some ⟨a,0,none⟩)/\Bk f a d c/\b<=a
def aDv {d:Nat} {b:Nat->Prop} (e:Nat) (a:TypeId) (k:Array Value) (l:a≠205) (m:a≠135) (n:∀j,¬b j):aCg (VFB d b) (aDw e a k):=fun _ _ _ ⟨c,f,g,i⟩ o=>⟨c,f,o.1.bk g l m (n c),i⟩
def WaveS.cells {f:World} {i:Nat} {own:Nat->Nat} {c:Nat} {b:Nat->Value} {j:Nat->List Nat} {d e:Int} (g:WaveS f i own c b j d e):(∀a,a < 9->f.cell? ⟨c,a,none⟩=some (b a))/\f.cell? ⟨c,9,none⟩=some (.int .i64 d)/\f.cell? ⟨c,10,none⟩=some (.int .i64 e):=by
 obtain ⟨n,o,p,q,r,s,t,u,v,l,k⟩:=aT b d e;exact ⟨fun a m=>(g.blk.cell a).trans (nR b d e a m),(g.blk.cell 9).trans l,(g.blk.cell 10).trans k⟩
def aFF (g:World) (c:Nat) (own:Nat->Nat) (f:Nat) (b:List Nat) (e:Nat):Prop:=∃d a,WaveS g c own f d (fun _=>b) (b.length:Int) a/\0<=a/\a<=(e:Int)
def zV {b:Nat->Value} {c d e:Int} (f:wcells b c d=wcells b c e):d=e:=by
 have a:=(aT b c d).2.2.2.2.2.2.2.2.2.2;rw [f,(aT b c e).2.2.2.2.2.2.2.2.2.2] at a;injection a with a;injection a with _ a;exact a.symm
def WaveS.vis_eq {i d:World} {e:Nat} {own:Nat->Nat} {b:Nat} {a:Nat->Value} {f:Nat->List Nat} {c n v':Int} (k:WaveS i e own b a f c n) (m:Vis i d) (l:Bk d b 135 (wcells a c v')):WaveS d e own b a f c v':=by
 obtain ⟨o,g⟩:=k.vis m;have j:=zV (aJ g.blk l).2;subst j;exact g
def WaveS.below {b j:World} {B:Nat} {own:Nat->Nat} {e:Nat} {d:Nat->Value} {c:Nat->List Nat} {g i:Int} (a:WaveS b B own e d c g i) (f:Below b.heap.size b j):WaveS j B own e d c g i:=a.vis_eq (Vis.of_below f) (a.blk.below f a.blk.lt)
def aFu {v d C q:Nat} (a:v<=q) (b:d<=C) (e:q<=100000) (c:C<=100000):IntKind.i64.wrap ((v:Int)+(d:Int))=((v+d:Nat):Int):=by rw [IntKind.wrap_i64];omega
def nD (a5 g t:Nat) (own:Nat->Nat) (k:List Nat) (m l:Nat) (j:World) (u:WaveE j a5 own g k) (ag:l < 257) (av:m<=k.length) (aM:∀R∈k,R < 257) (c6:k.length<=895) (d6:HtB t (k.length+1)) (e7:t<=1100):
 Calls prog 33 #[g,(m:Int),(l:Int)] j fun r bb=>r=.returned (.int .i64 0)/\∃ba,aFF bb a5 ba g (aI k m l) (9*(6*t+3))/\(∀a,a < j.heap.size->ba a=own a)/\(∀a,j.heap.size<=a->ba a≠1)/\Keep (fun a=>a=g∨16<=own a) j bb:=by
 have bC:=iP k m l av aM ag;obtain ⟨n,ci,u⟩:=u;obtain ⟨w,az⟩:=eqx k.length;rw [az] at u av c6;have c0:(aI k m l).length=w+1:=by rw [bB _ _ oM,az]
 obtain ⟨cX,cW,cN⟩:=u.cells;have cZ:=u.blk.frozen 10;have df:=u.blk.lt;have hB:a5<=j.heap.size:=zAk u.base.1 (zCk df);have ab:=u.vis_eq (v':=0) ((VisK.alloc (VB.set_wave u.blk u.base.1 0) (.cells #[(m:Int)] 3)).1) (by have:=(u.blk.set 10 (.int .i64 0)).alloc (.cells #[(m:Int)] 3);rw [bN] at this;exact this);have da:g≠j.heap.size:=oM;have a0:=Bk.new (j.setCell ⟨g,10,none⟩ (.int .i64 0)) 3 #[(m:Int)];rw [show (j.setCell ⟨g,10,none⟩ (.int .i64 0)).heap.size=j.heap.size by simp [World.setCell]] at a0;have b0:Keep (fun a=>a=g∨16<=own a) j ((j.setCell ⟨g,10,none⟩ (.int .i64 0)).alloc (.cells #[(m:Int)] 3)):=(Keep.setCell (F:=fun a=>a=g∨16<=own a) (Keep.refl _ _) (p:=⟨g,10,none⟩) (.inl (.inl rfl)) _).alloc _;obtain ⟨G,aN⟩:=eqx ((j.setCell ⟨g,10,none⟩ (.int .i64 0)).alloc (.cells #[(m:Int)] 3));rw [aN] at ab a0 b0;obtain ⟨M,br,cO⟩:=ab.cells;have cM:∀b,(G.drewN b).cell? g=some (n 0):=fun b=>M 0 oM;have T:∀b,(G.drewN b).cell? ⟨g,1,none⟩=some (n 1):=fun b=>M 1 oM;have am:∀b,(G.drewN b).cell? ⟨g,2,none⟩=some (n 2):=fun b=>M 2 oM;have cP:∀b,(G.drewN b).cell? ⟨g,3,none⟩=some (n 3):=fun b=>M 3 oM;have cQ:∀b,(G.drewN b).cell? ⟨g,4,none⟩=some (n 4):=fun b=>M 4 oM;have cS:∀b,(G.drewN b).cell? ⟨g,5,none⟩=some (n 5):=fun b=>M 5 oM;have cT:∀b,(G.drewN b).cell? ⟨g,6,none⟩=some (n 6):=fun b=>M 6 oM;have cU:∀b,(G.drewN b).cell? ⟨g,7,none⟩=some (n 7):=fun b=>M 7 oM;have cV:∀b,(G.drewN b).cell? ⟨g,8,none⟩=some (n 8):=fun b=>M 8 oM;have bs:G.cell? ⟨g,9,none⟩=some (.int .i64 (w:Int)):=br;have bt:G.cell? j.heap.size=some (.int .i64 (m:Int)):=(a0.cell 0).trans rfl;have dc:decide ((m:Int) < 0)=false:=by simp
 have ei:¬w < m:=oM;have ej:¬((m:Int) > (w:Int)):=oM;have bI:=ab.blk.lt;have aQ:=a0.lt;obtain ⟨bd,bi,bm,cj,dG,aD,cy,be,dI⟩:=hqq9 ab a0 b0 bC aM az c0 aN av;obtain ⟨dH,bP⟩:=hqq2 u.base u.bnd;clear u ab a0 b0 bC aM az c0 aN cX M br cO av;go_enter func33,ntmps33;go_wp2_with fail;rw [be.out];clear cN cZ cW;refine (eP l _ ag).mono ?_;rintro r w1 ⟨rfl,Y⟩;have W:w1.cell? ⟨g,9,none⟩=some (.int .i64 (w:Int)):=(Y.cell (p:=⟨g,9,none⟩) bI).trans bs;have bu:w1.cell? j.heap.size=some (.int .i64 (m:Int)):=(Y.cell (p:=j.heap.size) aQ).trans bt;have A:=bd.out.below Y;have aZ:=bi.out.below Y aQ;have c1:Keep (fun a=>a=g∨16<=own a) j w1:=bm.out.trans (Keep.of_below Y);have dP:∀b,(w1.drewN b).cell? g=some (n 0):=fun b=>A.cells.1 0 oM;have cY:∀b,(w1.drewN b).cell? ⟨g,1,none⟩=some (n 1):=fun b=>A.cells.1 1 oM;have dQ:∀b,(w1.drewN b).cell? ⟨g,2,none⟩=some (n 2):=fun b=>A.cells.1 2 oM;have dR:∀b,(w1.drewN b).cell? ⟨g,3,none⟩=some (n 3):=fun b=>A.cells.1 3 oM;have dS:∀b,(w1.drewN b).cell? ⟨g,4,none⟩=some (n 4):=fun b=>A.cells.1 4 oM;have e1:∀b,(w1.drewN b).cell? ⟨g,5,none⟩=some (n 5):=fun b=>A.cells.1 5 oM;have e2:∀b,(w1.drewN b).cell? ⟨g,6,none⟩=some (n 6):=fun b=>A.cells.1 6 oM;have e3:∀b,(w1.drewN b).cell? ⟨g,7,none⟩=some (n 7):=fun b=>A.cells.1 7 oM;have e4:∀b,(w1.drewN b).cell? ⟨g,8,none⟩=some (n 8):=fun b=>A.cells.1 8 oM;have eg:=A.blk.lt;have eb:=aZ.lt;have dN:∀b,(w1.drewN b).cell? ⟨g,9,none⟩=some (.int .i64 (w:Int)):=fun b=>W;have dO:∀b,(w1.drewN b).cell? j.heap.size=some (.int .i64 (m:Int)):=fun b=>bu;obtain ⟨cl,cw,cz⟩:=hqq3 A aZ c1;clear A aZ c1 Y bd bi bm cM T am cP cQ cS cT cU cV bs bt bI aQ be;go_wp2_with fail;go_quiet (fail);clear W bu dc;go_wp2_with fail;go_loopw [35] (fun ai wr=>∃(lv:Nat) (z:Nat->Nat) (K:Nat),lv<=9/\ai=.int .i64 lv/\WaveS wr a5 z g n (fun J=>if J < lv then aI k m l else k) (w:Int) (K:Int)/\Bk wr j.heap.size 3 #[.int .i64 ((dZ k m l lv:Nat):Int)]/\(∀a,a < j.heap.size->z a=own a)/\(∀a,j.heap.size<=a->z a≠1)/\z j.heap.size=0/\Keep (fun a=>a=g∨16<=own a) j wr/\K<=lv*(6*t+3)) (fun ai _=>9 -(intOf ai).toNat)
 case atStart=>refine ⟨0,own,0,by omega,rfl,?_,?_,fun _ _=>rfl,fun a P r=>?_,?_,?_,by omega⟩;have ao:=fun b=>cl.out.below (below_drewN (Below.refl w1.heap.size w1) b);simpa using ao _;rw [cj.out];exact cw.out.drewN _;have:=(bP.out a oM).2;omega;rcases zBa (own j.heap.size) with r | r;exact r;have:=(bP.out j.heap.size oM).2;omega;exact cz.out.drewN _
 case round=>
  obtain ⟨lv,z,K,ek,rfl,U,aq,aA,aB,b1,aw,cb⟩:=hrel;by_cases a2:lv < 9
  · have db:=ix9 n lv a2;obtain ⟨E,a3,dh,b6⟩:=U.rows lv a2;obtain ⟨aj,ax⟩:=eqx (2 ^ lv);obtain ⟨c,Q⟩:=eqx (aP l lv);have b2:c < aj:=(by rw [<-ax,<-Q];exact iY l lv ag oM);have di:c < 2 ^ lv:=(by rw [ax];exact b2);have d5:=lhd a3;rw [ax] at a3 b6;obtain ⟨X,a9,bG,el,ef⟩:=World.ownsRow.form a3 oM;rw [bG] at db a3;obtain ⟨R,ah⟩:=eqx (dZ k m l lv);obtain ⟨D,a4⟩:=eqx (dZ k m l (lv+1));obtain ⟨a,ap⟩:=eqx (eH l lv);have b8:=iQ k m l lv a2;have b7:=aBs k m l lv;have aT:=aAQ k m l lv;have aX:=sE k m l lv;have aW:(aF k lv (aP l lv)).length<=895:=(by rw [eW];exact zAk zBh (by rw [aD.out];exact c6));rw [Q,ah,ap,a4] at b8;rw [Q,ah] at b7;rw [Q,ah,ap] at aT;rw [Q] at aW aX;rw [ah] at aq;have ca:TreeE wr (fun a=>z a=TC lv c) (E c) (aF k lv c):=(by have:=b6 c b2;rw [zBw oM] at this;exact this);have em:(c:Int) < (aj:Int):=oM;obtain ⟨cE,bp,cK,a8,cp,cs,cr,cF,co⟩:=hqq9 a3 ca b8 b7 aT aX aW Q ap;obtain ⟨cL,al,aE,a7,aG,bo,bn⟩:=hqq7 a4 U aq aA aB b1 aw;clear a3 b6 bG ax Q ah a4 ap b8 b7 aT aX aW U aq aA aB b1 aw ca dh;go_wp2_with fail;refine wp_region_any kR ?_;refine dT wr.heap.size 11 [39,40,41,42,43,44,45,46,47,9,10] (fun _=>False) 8 [] (fun _=>True) (is (.bool a)) [is (.slice (some X) aj a9),is (l:Int),is (lv:Int),is (c:Int),is (.pointer (some ⟨X,c*3,none⟩)),is (.agg #[.pointer (some ⟨E c,0,none⟩),(lv:Int),(c:Int)]),is (l:Int),is (lv:Int),cR,aDw wr.heap.size 143 #[.pointer none,.int .i64 0,.int .i64 0],aDw wr.heap.size 4 #[.bool false]] _ _ rfl dC kR kR kR (trivial) (fun _ _ _ _ _=>trivial) (mF _ _) (by repeat' (first | exact mF _ _ | exact xI _ | exact aDv _ _ _ dC dC (fun _ e=>e)|(refine zAe.2 ⟨?_,?_⟩)|(intro c Q;cases Q))) ?_ ?_
    · refine bM ?_;refine pH3 8 (.slice (some X) aj a9) ?_;refine pH3 2 (.int .i64 (l:Int)) ?_;refine pH3 7 (.int .i64 (lv:Int)) ?_;refine sC3 (fun _ B _ _ _ _ _ y _ _ _ x=>?_) ?_
      · have dU:_=_:=y 1 40 kR rfl;have dW:_=_:=y 2 41 kR rfl;go_simp;refine (hQ l lv B ag oM).mono ?_;rintro r du ⟨rfl,aS⟩;rw [cF.out];exact x _ _ (aL (VisK.of_below aS)) rfl
      refine pW3 0 39 3 42 ?_;refine sC3 (fun _ B s _ _ _ _ y _ _ _ x=>?_) ?_
      · replace s:VFB wr.heap.size (fun _=>False) wr B:=fD s;have dX:_=_:=y 4 43 kR rfl;have dk:=s.1.to_vis (fun _ _ e=>e);have b4:=dk.own cE.out dC dC;obtain ⟨dq,dr,ds⟩:=dV E lv aj c b2;have dJ:B.cell? ⟨X,c*3,none⟩=_:=(World.ownsRow.cellAt b4 (c*3) oM).trans dq;have dK:B.cell? ⟨X,c*3+1,none⟩=_:=(World.ownsRow.cellAt b4 (c*3+1) oM).trans dr;have dL:B.cell? ⟨X,c*3+2,none⟩=_:=(World.ownsRow.cellAt b4 (c*3+2) oM).trans ds;go_simp;exact x _ _ (aL vR) rfl
      refine pH3 2 (.int .i64 (l:Int)) ?_;refine pH3 7 (.int .i64 (lv:Int)) ?_;refine sC3 (fun _ B _ _ _ _ _ y _ _ _ x=>?_) ?_
      · have dY:_=_:=y 6 45 kR rfl;have e0:_=_:=y 7 46 kR rfl;go_simp;refine (jH l lv B ag oM).mono ?_;rintro r du ⟨rfl,aS⟩;rw [co.out];exact x _ _ (aL (VisK.of_below aS)) rfl
      refine sC3 (fun _ B s _ _ _ _ _ _ _ _ x=>?_) ?_
      · replace s:VFB wr.heap.size (fun _=>False) wr B:=fD s;go_simp;exact x _ _ (aL (VisK.of_below (bR.alloc nL _))) ⟨_,rfl,Bk.new _ _ _,s.1.size⟩
      refine sC3 (fun _ B s _ _ _ _ _ _ _ _ x=>?_) ?_
      · replace s:VFB wr.heap.size (fun _=>False) wr B:=fD s;go_simp;exact x _ _ (aL (VisK.of_below (bR.alloc nL _))) ⟨_,rfl,Bk.new _ _ _,s.1.size⟩
      exact aH
    · intro an L e s y bJ;replace s:VFB wr.heap.size (fun _=>False) wr L:=fD s;have bv:an (.tmp 44)=.agg #[.pointer (some ⟨E c,0,none⟩),(lv:Int),(c:Int)]:=y 5 44 dC rfl;have bw:an (.tmp 47)=.bool a:=y 8 47 dC rfl;have dn:(aDw wr.heap.size 143 #[.pointer none,.int .i64 0,.int .i64 0]) (an (.tmp 9)) L:=y 9 9 dC rfl;have dm:(aDw wr.heap.size 4 #[.bool false]) (an (.tmp 10)) L:=y 10 10 dC rfl;obtain ⟨dt,cf⟩:=bJ 8 dC;have dp:(is (.bool a)) dt L:=cf;clear cf bJ;simp only [zqq];rw [bv];rw [bw];clear y;obtain ⟨o,ch,N,ar⟩:=dn;obtain ⟨O,cg,Z,bV⟩:=dm;rw [ch,cg];have cc:Below wr.heap.size wr L:=s.2.to_below nL (fun a P e=>by rcases e with e | e;exact e;omega);have dD:L.cell? o=some (.pointer none):=(N.cell 0).trans rfl;have dE:L.cell? ⟨o,1,none⟩=some (.int .i64 0):=(N.cell 1).trans rfl;have dF:L.cell? ⟨o,2,none⟩=some (.int .i64 0):=(N.cell 2).trans rfl;have d1:=N.frozen 0;have d2:=N.frozen 1;have d3:=N.frozen 2;have bc:L.cell? O=some (.bool false):=(Z.cell 0).trans rfl;have d0:=Z.frozen 0;have ay:o≠O:=Bk.ne N Z dC;have a2:=N.lt;have dd:=Z.lt;obtain ⟨bh,bf,bq⟩:=hqq3 N Z cc;clear N Z cc s dp bv bw ch cg;change wpAny prog Region.Mode.any _ _ (2+e) (bS 11 13) _ L;rw [show 2+e=e+1+1 by omega];refine bH (f:=e+1) (i:=11) kR ?_;refine bU rfl rfl ?_;generalize x:wpAny prog _ _ _ (e+1) _=K5;go_simp;subst x;refine bH (f:=e) (i:=12) kR ?_;refine bU rfl rfl ?_;generalize x:wpAny prog _ _ _ e _=K5;go_simp;subst x;refine bW kR ?_;obtain ⟨I,ad⟩:=eqx (((((L.setCell o (.pointer (some ⟨E c,0,none⟩))).setCell ⟨o,1,none⟩ (.int .i64 (lv:Int))).setCell ⟨o,2,none⟩ (.int .i64 (c:Int))).setCell O (.bool a)));have bL:Bk I o 143 #[.pointer (some ⟨E c,0,none⟩),(lv:Int),(c:Int)]:=(by rw [<-ad];exact (((bh.out.set 0 _).set 1 _).set 2 _).far (p:=O) ay _);have bK:Bk I O 4 #[.bool a]:=(by rw [<-ad];exact (((bf.out.far (p:=o) (fun r=>ay r.symm) _).far (p:=⟨o,1,none⟩) (fun r=>ay r.symm) _).far (p:=⟨o,2,none⟩) (fun r=>ay r.symm) _).set 0 _);have c2:Keep (fun _=>False) wr I:=(by rw [<-ad];exact Keep.setCell (F:=fun _=>False) (Keep.setCell (F:=fun _=>False) (Keep.setCell (F:=fun _=>False) (Keep.setCell (F:=fun _=>False) (Keep.of_below bq.out) (p:=o) (.inr ar) _) (p:=⟨o,1,none⟩) (.inr ar) _) (p:=⟨o,2,none⟩) (.inr ar) _) (p:=O) (.inr bV) _);rw [ad];have bO:Below wr.heap.size wr I:=c2.to_below nL (fun _ _ e=>e);obtain ⟨a6,bg,V⟩:=hqq3 bL bK bO;clear bL bK c2 bO ad dD dE dF d1 d2 d3 bc d0 bh bf bq a2 dd;have bA:=al.out.below V.out;have bY:=aE.out.below V.out aE.out.lt;have c8:=bp.out.below V.out;have bZ:=al.out.base.2;have bQ:=al.out.bnd;have eo:=V.out.size;have ee:=aE.out.lt;have dv:I.cell? o=some (.pointer (some ⟨E c,0,none⟩)):=(a6.out.cell 0).trans rfl;have dw:I.cell? ⟨o,1,none⟩=some (.int .i64 (lv:Int)):=(a6.out.cell 1).trans rfl;have dx:I.cell? ⟨o,2,none⟩=some (.int .i64 (c:Int)):=(a6.out.cell 2).trans rfl;have e9:=a6.out.lt;have dg:∀(bx:Fn) (first a9:Array Value) (j:World),(Instr.makeFunc bx first a9).run prog j=.ok (.func bx first a9) j:=fun _ _ _ _=>rfl;obtain ⟨ak,bj,cH,bl,ct⟩:=hqq5 bA bY c8 bZ bQ;clear bA bY c8 bZ bQ;go_wp2_with fail;have bE:HtB t ((aF k lv c).length+1):=d6.mono (by rw [aD.out];have:=eW k lv c;have d4:(k.countP fun l=>aP l lv==c)<=k.length:=zBh;rw [aD.out] at d4;omega);refine (aEu g (E c) t j.heap.size O n w K lv c (fun a=>z a=TC lv c) (aF k lv c) R a I ak.out.blk cH.out (fun e=>by rw [bl.out] at e;unfold TC at e;omega) (fun D a4=>(ak.out.bnd D (by rw [a4];unfold TC;omega)).2) bj.out bg.out cr.out a8.out (bE.mono (Nat.le_succ _))).mono ?_;rintro r S ⟨rfl,b5,a1,aa,d8,aU⟩;have aY:=ak.out.edit (lv:=lv) (p:=c) (gx:=g) a2 di (aO d5.out V.out) (by rw [bl.out];omega) (fun dM d7=>absurd (aJ d7 ak.out.blk).1 dC) b5 (a1.mono fun D _ e=>by rcases e with e | e;exact .inl e;exact .inr (.inl e)) aU (L':=aI k m l) cp.out (fun b dj=>by rw [zBw (zCj _)];exact cs.out b (fun r=>dj r.symm));have bT:(fun J=>if J=lv then aI k m l else if J < lv then aI k m l else k)=fun J=>if J < lv+1 then aI k m l else k:=by
       funext J;by_cases T:J=lv
       · rw [zBx T,zBx oM]
       · by_cases am:J < lv
         · rw [zBw T,zBx am,zBx oM]
         · rw [zBw T,zBw am,zBw oM]
      rw [bT] at aY;have b9:∀D,wr.heap.size<=D->¬(z D=TC lv c∨D=g):=fun D a4 e=>by rcases e with e | e;have:=(ct.out D (by rw [e];unfold TC;omega)).2;omega;have:=al.out.blk.lt;omega
      have au:=a1.bk bj.out (fun e=>by
       rcases e with e | e;rw [bo.out] at e;unfold TC at e;omega
       · exact da e.symm)
      have ae:=a1.bk a6.out (b9 o ar);have aR:=a1.bk bg.out (b9 O bV);have bc:S.cell? o=some (.pointer (some ⟨E c,0,none⟩)):=(ae.cell 0).trans rfl;have dy:S.cell? ⟨o,1,none⟩=some (.int .i64 (lv:Int)):=(ae.cell 1).trans rfl;have dz:S.cell? ⟨o,2,none⟩=some (.int .i64 (c:Int)):=(ae.cell 2).trans rfl;have dB:S.cell? j.heap.size=some (.int .i64 (R:Int)):=(au.cell 0).trans rfl;have dA:S.cell? O=some (.bool a):=(aR.cell 0).trans rfl;have ea:=ae.lt;have e8:=aR.lt;have ec:=au.lt;have c9:=b5.at
      have bD:z (E c)=TC lv c:=bp.out.fg;obtain ⟨cu,cA,cx,cI,cq,cm⟩:=hqq6 aY a1 au c9 aU bD;have dl:R<=(aI (aF k lv c) R a).length:=(by rw [bB _ _ a8.out];have:=a8.out;omega);clear b5 a1 aU aY bT b9 au ae aR c9 dv dw dx dg bD;go_wp2_with fail;refine (yQ g (E c) t n w _ lv c (aI (aF k lv c) R a) R a S cq.out cI.out dl (bE.mono (by rw [bB _ _ a8.out];exact zAs _))).mono ?_;rintro r aK ⟨rfl,aC,W,d9,aV⟩;rw [aBu _ _ _ a8.out,cK.out];have de:lv*(6*t+3)<=8*(6*t+3):=Nat.mul_le_mul_right _ oM;have c7:(lv+1)*(6*t+3)=lv*(6*t+3)+(6*t+3):=Nat.succ_mul _ _;have cd:=aFu (v:=K) (d:=aa) cb d8 oM oM;have ce:=aFu (v:=K+aa) (d:=W) (q:=K+aa) (C:=t+1) nL d9 oM oM;rw [cd,ce] at aV;have ao:=cu.out.vis_eq aC.1 aV;have cJ:=lhd (show K+aa+W<=(lv+1)*(6*t+3) by rw [c7];omega);clear cd ce aV de c7;have af:=aC.1.bk cx.out dC dC;have eq:aK.cell? j.heap.size=some (.int .i64 (R:Int)):=(af.cell 0).trans rfl;have e6:=af.frozen 0;have ed:=af.lt;have bX:=af.set 0 (.int .i64 (D:Int));have b3:cB z I.heap.size S.heap.size (TC lv c) j.heap.size=0:=(by unfold cB;rw [zBx oM];exact bo.out);have bz:=ao.far (w':=aK.setCell j.heap.size (.int .i64 (D:Int))) (H:=fun a=>a=j.heap.size) (Keep.setCell (F:=fun a=>a=j.heap.size) (Keep.refl _ _) (p:=j.heap.size) (.inl rfl) _) (fun a r=>by rw [show a=j.heap.size from r,b3];omega);have en:=bn.out.size;have c3:Keep (fun a=>a=g∨16<=own a) j (aK.setCell j.heap.size (.int .i64 (D:Int))):=Keep.setCell (F:=fun a=>a=g∨16<=own a) (((bn.out.trans (Keep.of_below V.out)).trans' cA.out (fun a P e=>by
       rcases e with e | e;right;rw [<-a7.out a P,e];unfold TC;omega
       · exact .inl e)).trans' aC.2 (fun a P e=>by
       rcases e with e | e;exact .inl e
       · right;rw [<-a7.out a P,e,cm.out];unfold TC;omega)) (p:=j.heap.size) (.inr nL) _
      obtain ⟨ck,cv,cC,cG⟩:=hqq4 bz bX c3 b3;clear aC ao af bX bz c3 b3 bc dy dz dB dA;go_wp2_with fail;go_roundw
      case rel=>
       refine ⟨lv+1,cB z I.heap.size S.heap.size (TC lv c),K+aa+W,by omega,by go_num,ck.out,?_,fun a P=>?_,fun a P=>?_,cG.out,cC.out,cJ.out⟩;rw [cL.out];exact cv.out;unfold cB;rw [zBx oM];exact a7.out a P
       · unfold cB;by_cases T:a < I.heap.size;rw [zBx T];exact aG.out a P
         · rw [zBw T];unfold TC;split <;> omega
      case measure=>simp [intOf];omega
  · obtain rfl:lv=9:=oM;have ac:WaveS wr a5 z g n (fun _=>aI k m l) (w:Int) K:=⟨U.blk,U.base,fun J c5=>by have:=U.rows J c5;simpa [c5] using this,U.bnd⟩;obtain ⟨_,ep,_⟩:=ac.cells;have e5:=ac.blk.frozen 9;have eh:=ac.blk.lt;have bF:=ac.set_n ((w:Int)+1);have cY:wrap64 ((w:Int)+1)=(w:Int)+1:=(by unfold wrap64;omega);have c4:Keep (fun a=>a=g∨16<=own a) j (wr.setCell ⟨g,9,none⟩ (.int .i64 ((w:Int)+1))):=Keep.setCell (F:=fun a=>a=g∨16<=own a) aw (p:=⟨g,9,none⟩) (.inl (.inl rfl)) _;obtain ⟨cn,cD,a7,aG⟩:=hqq4 bF c4 aA aB;clear U ac bF aw c4 aq aA aB b1;go_wp2_with fail;go_ret;refine ⟨rfl,z,⟨n,K,?_,Int.natCast_nonneg _,Int.ofNat_le.2 cb⟩,a7.out,aG.out,cD.out⟩;rw [cy.out];exact cn.out
def rA (i d:Nat) (own:Nat->Nat) (b:List Nat) (f g:Nat) (c:World) (m:WaveE c i own d b) (t:g < 257) (r:f<=b.length) (q:∀v∈b,v < 257) (s:b.length<=895):
 Calls prog 33 #[d,(f:Int),(g:Int)] c fun k j=>k=.returned (.int .i64 0)/\∃e,WaveE j i e d (aI b f g)/\(∀a,a < c.heap.size->e a=own a)/\(∀a,c.heap.size<=a->e a≠1)/\Keep (fun a=>a=d∨16<=own a) c j:=by
 refine (nD i d 1100 own b f g c m t r q s (aBk oM) nL).mono ?_;rintro k j ⟨n,e,⟨l,u,o,_⟩,p⟩;exact ⟨n,e,⟨l,u,o⟩,p⟩
def gY (a:List (Nat×Nat)) (c e:Nat) (p:c < a.length):(bA a).set (c*2) (.int .i64 (e:Int))=bA (a.set c (e,aE a c)):=by
 apply List.ext_getElem?;intro b;have q:=cG a;have n:=cG (a.set c (e,aE a c));rw [zAt] at n;rw [zBm];by_cases o:b < a.length*2
 · have f:b / 2 < a.length:=oM;obtain ⟨k,l⟩:=bV a (b / 2) f;obtain ⟨i,j⟩:=bV (a.set c (e,aE a c)) (b / 2) (by rw [zAt];exact f);have er:aB (a.set c (e,aE a c)) (b / 2)=if c=b / 2 then e else aB a (b / 2):=by
    unfold aB;rw [zAb,zBm,zAb];by_cases d:c=b / 2
    · simp [d,f]
    · simp [d]
   have m:aE (a.set c (e,aE a c)) (b / 2)=aE a (b / 2):=by
    unfold aE;rw [zAb,zBm,zAb,zAb];by_cases d:c=b / 2
    · subst d;simp [f]
    · simp [d]
   rw [er] at i;rw [m] at j;by_cases r:b % 2=0
   · have g:b / 2*2=b:=oM;rw [g] at k i;rw [i];by_cases d:c*2=b
     · rw [zBx d,zBx oM,zBx oM]
     · rw [zBw d,k,zBw oM]
   · have g:b / 2*2+1=b:=oM;rw [g] at l j;rw [j,zBw oM,l]
 · rw [zBw oM,zBg oM,zBg oM]
def jR (a:List (Nat×Nat)) (c e:Nat) (p:c < a.length):(bA a).set (c*2+1) (.int .i64 (e:Int))=bA (a.set c (aB a c,e)):=by
 apply List.ext_getElem?;intro b;have q:=cG a;have n:=cG (a.set c (aB a c,e));rw [zAt] at n;rw [zBm];by_cases o:b < a.length*2
 · have f:b / 2 < a.length:=oM;obtain ⟨k,l⟩:=bV a (b / 2) f;obtain ⟨i,j⟩:=bV (a.set c (aB a c,e)) (b / 2) (by rw [zAt];exact f);have er:aB (a.set c (aB a c,e)) (b / 2)=aB a (b / 2):=by
    unfold aB;rw [zAb,zBm,zAb,zAb];by_cases d:c=b / 2
    · subst d;simp [f]
    · simp [d]
   have m:aE (a.set c (aB a c,e)) (b / 2)=if c=b / 2 then e else aE a (b / 2):=by
    unfold aE;rw [zAb,zBm,zAb];by_cases d:c=b / 2
    · simp [d,f]
    · simp [d]
   rw [er] at i;rw [m] at j;by_cases r:b % 2=0
   · have g:b / 2*2=b:=oM;rw [g] at k i;rw [i,zBw oM,k]
   · have g:b / 2*2+1=b:=oM;rw [g] at l j;rw [j];by_cases d:c*2+1=b
     · rw [zBx d,zBx oM,zBx oM]
     · rw [zBw d,l,zBw oM]
 · rw [zBw oM,zBg oM,zBg oM]
def cU {a:Int} (b:-9223372036854775808<=a) (c:a<=9223372036854775807):wrap64 a=a:=by unfold wrap64;omega
def mL {g i:World} {a d e:Nat} {b:TypeId} {f:Value} {j:List Value} (k:g.ownsRow a b e f d j) (l:i.heap=g.heap):i.ownsRow a b e f d j:=aA k fun m n _ c=>by unfold Bk at c⊢;rw [l];exact c
def iJ (a:List (Nat×Nat)) (b:Nat) (d:b < a.length):a.set b (aB a b,aE a b)=a:=by
 have c:(aB a b,aE a b)=a[b]:=by unfold aB aE;rw [zAb,zAa d];rfl
 rw [c,List.set_getElem_self]
def mvR (a c b:Nat):Nat:=if b=a then c else inR (aQ b a) c
def aAX (v e g x n d a:Nat) (b:List (Nat×Nat)) (i:World) (f:i.ownsRow v 179 2 (.slice (some e) g x) g (bA b)) (j:a < b.length) (u:Bk i n 3 #[(d:Int)]) (J:aB b a<=1000000000000):
 Calls prog 188 #[.pointer (some ⟨e,a*2,none⟩),n] i fun H A=>H=.returned (.tuple #[])/\A.ownsRow v 179 2 (.slice (some e) g x) g (bA (b.set a (inR (aB b a) d,aE b a)))/\Keep (fun l=>l=e) i A:=by
 obtain ⟨y,z⟩:=bV b a j;have K:b.length=g:=by have I:=f.1;rw [cG] at I;omega
 have E:=(World.ownsRow.cellAt f (a*2) oM).trans y;have G:=(World.ownsRow.cellAt f (a*2+1) oM).trans z;have U:i.cell? n=some (.int .i64 (d:Int)):=(u.cell 0).trans rfl;obtain ⟨O,o⟩:=cK f;have Q:=o.frozen (a*2);have R:=o.lt;have S:=u.lt;have k:=iJ b a j;have t:=fun M=>gY b a M j;obtain ⟨c,s⟩:=eqx (aB b a);obtain ⟨L,r⟩:=eqx (aE b a);rw [s] at E k J;rw [r] at G k t;rw [s,r];obtain ⟨w,C,D⟩:=hqq3 f k t;clear f j u y z o k t K s r;by_cases T:d<=c
 · have N:decide ((c:Int)>=(d:Int))=true:=zBz oM;have P:wrap64 ((c:Int)+1)=((c+1:Nat):Int):=(by unfold wrap64;omega);have q:=(World.ownsRow.stored w.out (a*2) (.int .i64 ((c+1:Nat):Int))).1;rw [D.out] at q;have B:=lhd q;clear q;go_enter func188,ntmps188;go_wp2_with fail;go_quiet (fail);go_wp2_with fail;go_end0;refine ⟨rfl,?_,Keep.setCell (F:=fun l=>l=e) ((Keep.refl _ _).drewN _) (p:=⟨e,a*2,none⟩) (.inl rfl) _⟩;have m:inR (c) d=c+1:=(by unfold inR;rw [zBx oM]);rw [m];exact B.out
 · have N:decide ((c:Int)>=(d:Int))=false:=zBy oM;go_enter func188,ntmps188;go_wp2_with fail;go_quiet (fail);go_wp2_with fail;go_end0;refine ⟨rfl,?_,(Keep.refl _ _).drewN _⟩;have m:inR (c) d=c:=(by unfold inR;rw [zBw oM]);rw [m,C.out];exact w.out
def aAY (v e g x n d a:Nat) (b:List (Nat×Nat)) (i:World) (f:i.ownsRow v 179 2 (.slice (some e) g x) g (bA b)) (j:a < b.length) (u:Bk i n 3 #[(d:Int)]) (J:aE b a<=1000000000000):
 Calls prog 189 #[.pointer (some ⟨e,a*2,none⟩),n] i fun H A=>H=.returned (.tuple #[])/\A.ownsRow v 179 2 (.slice (some e) g x) g (bA (b.set a (aB b a,inR (aE b a) d)))/\Keep (fun l=>l=e) i A:=by
 obtain ⟨y,z⟩:=bV b a j;have K:b.length=g:=by have I:=f.1;rw [cG] at I;omega
 have E:=(World.ownsRow.cellAt f (a*2) oM).trans y;have G:=(World.ownsRow.cellAt f (a*2+1) oM).trans z;have U:i.cell? n=some (.int .i64 (d:Int)):=(u.cell 0).trans rfl;obtain ⟨N,o⟩:=cK f;have P:=o.frozen (a*2+1);have Q:=o.lt;have R:=u.lt;have k:=iJ b a j;have t:=fun L=>jR b a L j;obtain ⟨T,s⟩:=eqx (aB b a);obtain ⟨c,r⟩:=eqx (aE b a);rw [s] at E k t;rw [r] at G k J;rw [s,r];obtain ⟨w,C,D⟩:=hqq3 f k t;clear f j u y z o k t K s r;by_cases S:d<=c
 · have M:decide ((c:Int)>=(d:Int))=true:=zBz oM;have O:wrap64 ((c:Int)+1)=((c+1:Nat):Int):=(by unfold wrap64;omega);have q:=(World.ownsRow.stored w.out (a*2+1) (.int .i64 ((c+1:Nat):Int))).1;rw [D.out] at q;have B:=lhd q;clear q;go_enter func189,ntmps189;go_wp2_with fail;go_quiet (fail);go_wp2_with fail;go_end0;refine ⟨rfl,?_,Keep.setCell (F:=fun l=>l=e) ((Keep.refl _ _).drewN _) (p:=⟨e,a*2+1,none⟩) (.inl rfl) _⟩;have m:inR (c) d=c+1:=(by unfold inR;rw [zBx oM]);rw [m];exact B.out
 · have M:decide ((c:Int)>=(d:Int))=false:=zBy oM;go_enter func189,ntmps189;go_wp2_with fail;go_quiet (fail);go_wp2_with fail;go_end0;refine ⟨rfl,?_,(Keep.refl _ _).drewN _⟩;have m:inR (c) d=c:=(by unfold inR;rw [zBw oM]);rw [m,C.out];exact w.out
def sR (t p z P o:Nat) (l J K I:Value) (w v:Nat) (c:List Nat) (f:List (Nat×Nat)) (H:List Bool) (y:List Nat) (q:World) (A:PermAt q t p z l J K I w v c f H y) (E:c.Nodup) (aL:c.length<=1000000) (aN:Bk q P 3 #[(o:Int)]) (aK:∀d,l.ownBlock=some d->d≠P) (ad:∀a,a∈c->aB f a<=1000000000000/\aE f a<=1000000000000):
 Calls prog 179 #[p,.func (.func 188) #[] #[P]] q fun j ak=>j=.returned (.tuple #[])/\Keep (fun d=>l.ownBlock=some d) q ak/\∃L,L.length=f.length/\(∀a,a∈c->(aB L a,aE L a)=(inR (aB f a) o,aE f a))/\PermAt ak t p z l J K I w v c L H y:=by
 obtain ⟨al,ay,a4,_,_⟩:=aM A.orow;have az:q.cell? ⟨p,2,none⟩=some (.slice al c.length ay):=(A.blk.cell 2).trans (by rw [a4];rfl);have aU:=A.blk.lt;obtain ⟨G,a3⟩:=eqx c.length;rw [a3] at az aL;obtain ⟨am,Hn,ax,av,an⟩:=hqq5 A a3 a4 E ad;clear A a3 a4 E ad;go_enter func179,ntmps179;go_wp2_with fail;go_loopw [11] (fun a5 wr=>∃(g:Nat) (b:List (Nat×Nat)),g<=G/\a5=.int .i64 (g:Int)/\b.length=f.length/\(∀a,a∈c.take g->(aB b a,aE b a)=(inR (aB f a) o,aE f a))/\(∀a,a∈c.drop g->(aB b a,aE b a)=(aB f a,aE f a))/\PermAt wr t p z l J K I w v c b H y/\Keep (fun d=>l.ownBlock=some d) q wr) (fun a5 _=>G -(intOf a5).toNat)
 case atStart=>exact ⟨0,f,zAp _,rfl,rfl,fun a n=>by simp at n,fun a _=>rfl,am.out,Keep.refl _ _⟩
 case round=>
  obtain ⟨g,b,aW,rfl,a2,R,S,e,n⟩:=hrel;by_cases ai:g < G
  · have B:g < c.length:=(by rw [Hn.out];exact ai);obtain ⟨a,C⟩:∃a,c[g]?=some a:=⟨_,zAa B⟩;have a1:=zAd C;have a0:a < b.length:=e.lt a a1;have T:=e.orow;rw [ax.out] at T;obtain ⟨aF,aZ,aD,_,aT⟩:=World.ownsRow.form T oM;injection aD with e2a _ e2c;subst e2a e2c;have D:=e.lrow;obtain ⟨O,aj,N,_,aS⟩:=World.ownsRow.form D oM;rw [N] at D;have aC:wr.cell? ⟨aF,g,none⟩=some (.int .i64 (a:Int)):=(World.ownsRow.cellAt T g oM).trans (by rw [zAf,C];rfl);have ac:wr.cell? ⟨p,1,none⟩=some (.slice (some O) b.length aj):=(e.blk.cell 1).trans (by rw [N];rfl);have aV:=e.blk.lt;have aY:=n.size;have ag:a∈c.drop g:=(by rw [zAx B,List.getElem_eq_getElem?_get];simp [C]);have aG:(aB b a,aE b a)=(aB f a,aE f a):=S a ag;injection aG with hCr hCp;have aP:=fun (d:Nat) (j:Value.ownBlock l=some d)=>(World.ownsRow.lt e.lrow d j).2;obtain ⟨ab,Y⟩:=eqx b.length;rw [Y] at D ac a0;have aQ:=n.bk aN (fun j=>aK _ j rfl);have aX:(a:Int) < (ab:Int):=oM;obtain ⟨X,W,aa,a9,V,ap,M,au,a8⟩:=hqq9 e n D C R S Y a2 N;obtain ⟨a7,ao,aq⟩:=hqq3 hCr hCp a1;clear e n D C R S Y a2 N hCr hCp a1 ag T aP;go_wp2_with fail;refine (aAX t O ab aj P o a b wr aa.out (by rw [M.out];exact a0) aQ (by rw [a7.out];exact (an.out a aq.out).1)).mono ?_;rintro j w1 ⟨rfl,ah,s⟩
    have ae:PermAt w1 t p z l J K I w v c (b.set a (inR (aB b a) o,aE b a)) H y:=by
        have e:=X.out;have F:∀d a6 x,a6≠179->Bk wr d a6 x->d≠O:=fun d a6 x ht m j=>by subst j;obtain ⟨aR,aH⟩:=cK aa.out;exact ht (aJ m aH).1
        refine ⟨s.bk e.blk (F _ _ _ dC e.blk),?_,aA e.orow fun d x _ m=>s.bk m (F _ _ _ dC m),s.bk e.ar (F _ _ _ dC e.ar),aA e.trow fun d x _ m=>s.bk m (F _ _ _ dC m),aA e.frow fun d x _ m=>s.bk m (F _ _ _ dC m),e.apart,fun i k=>by rw [zAt];exact e.lt i k,e.lo⟩;rw [zAt,M.out,a8.out,M.out];exact ah
    have af:Keep (fun d=>l.ownBlock=some d) q w1:=W.out.trans (s.mono fun d _ j=>by rw [a8.out,show d=O from j];rfl)
    have Z:∀i,(aB (b.set a (inR (aB b a) o,aE b a)) i,aE (b.set a (inR (aB b a) o,aE b a)) i)=if i=a then (inR (aB b a) o,aE b a) else (aB b i,aE b i):=fun i=>by
        unfold aB aE;rw [zAb,zBm];by_cases r:a=i;subst r;rw [zBx rfl,zBx rfl,zBx (by rw [M.out];exact a0)];rfl
        · rw [zBw r,zBw (fun j=>r j.symm),zAb]
    have hrel:∃(U:Nat) (u:List (Nat×Nat)),U<=G/\Value.int .i64 ((g+1:Nat):Int)=.int .i64 (U:Int)/\u.length=f.length/\(∀a,a∈c.take U->(aB u a,aE u a)=(inR (aB f a) o,aE f a))/\(∀a,a∈c.drop U->(aB u a,aE u a)=(aB f a,aE f a))/\PermAt w1 t p z l J K I w v c u H y/\Keep (fun d=>l.ownBlock=some d) q w1:=by
        refine ⟨g+1,_,by omega,rfl,by rw [zAt];exact au.out,fun i k=>?_,fun i k=>?_,ae,af⟩
        · rw [Z];by_cases r:i=a
          · subst r;rw [zBx rfl,a7.out,ao.out]
          rw [zBw r];refine V.out i ?_;rw [zAv,a9.out] at k;simp at k;rcases k with k | k;exact k;exact absurd k r
        · rw [Z];have aO:i≠a:=fun j=>by subst j;have aI:c.drop g=i::c.drop (g+1):=(by have B:g < c.length:=(by rw [Hn.out];exact ai);rw [zAx B];have Q:=a9.out;rw [zAa B] at Q;injection Q with Q;rw [Q]);have E:=(List.drop_sublist g c).nodup av.out;rw [aI,List.nodup_cons] at E;exact E.1 k
          rw [zBw aO];exact ap.out i (List.mem_of_mem_drop (by rw [<-List.drop_drop] at k;exact k:i∈(c.drop g).drop 1))
    have aw:=lhd hrel;clear ae af Z hrel s ah ac aC;go_wp2_with fail;go_roundw
    case rel=>exact aw.out
    case measure=>simp [intOf];omega
  · obtain rfl:g=G:=oM;obtain ⟨X,W,V⟩:=hqq3 e n R;clear e n R S;go_wp2_with fail;go_end0;refine ⟨rfl,W.out,b,a2,fun a n=>V.out a ?_,X.out⟩;rw [zAg (by rw [Hn.out];exact zAs _)];exact n
def sS (t p z P o:Nat) (l J K I:Value) (w v:Nat) (c:List Nat) (f:List (Nat×Nat)) (H:List Bool) (y:List Nat) (q:World) (A:PermAt q t p z l J K I w v c f H y) (E:c.Nodup) (aL:c.length<=1000000) (aN:Bk q P 3 #[(o:Int)]) (aK:∀d,l.ownBlock=some d->d≠P) (ad:∀a,a∈c->aB f a<=1000000000000/\aE f a<=1000000000000):
 Calls prog 179 #[p,.func (.func 189) #[] #[P]] q fun j ak=>j=.returned (.tuple #[])/\Keep (fun d=>l.ownBlock=some d) q ak/\∃L,L.length=f.length/\(∀a,a∈c->(aB L a,aE L a)=(aB f a,inR (aE f a) o))/\PermAt ak t p z l J K I w v c L H y:=by
 obtain ⟨al,ay,a4,_,_⟩:=aM A.orow;have az:q.cell? ⟨p,2,none⟩=some (.slice al c.length ay):=(A.blk.cell 2).trans (by rw [a4];rfl);have aU:=A.blk.lt;obtain ⟨G,a3⟩:=eqx c.length;rw [a3] at az aL;obtain ⟨am,Hn,ax,av,an⟩:=hqq5 A a3 a4 E ad;clear A a3 a4 E ad;go_enter func179,ntmps179;go_wp2_with fail;go_loopw [11] (fun a5 wr=>∃(g:Nat) (b:List (Nat×Nat)),g<=G/\a5=.int .i64 (g:Int)/\b.length=f.length/\(∀a,a∈c.take g->(aB b a,aE b a)=(aB f a,inR (aE f a) o))/\(∀a,a∈c.drop g->(aB b a,aE b a)=(aB f a,aE f a))/\PermAt wr t p z l J K I w v c b H y/\Keep (fun d=>l.ownBlock=some d) q wr) (fun a5 _=>G -(intOf a5).toNat)
 case atStart=>exact ⟨0,f,zAp _,rfl,rfl,fun a n=>by simp at n,fun a _=>rfl,am.out,Keep.refl _ _⟩
 case round=>
  obtain ⟨g,b,aW,rfl,a2,R,S,e,n⟩:=hrel;by_cases ai:g < G
  · have B:g < c.length:=(by rw [Hn.out];exact ai);obtain ⟨a,C⟩:∃a,c[g]?=some a:=⟨_,zAa B⟩;have a1:=zAd C;have a0:a < b.length:=e.lt a a1;have T:=e.orow;rw [ax.out] at T;obtain ⟨aF,aZ,aD,_,aT⟩:=World.ownsRow.form T oM;injection aD with e2a _ e2c;subst e2a e2c;have D:=e.lrow;obtain ⟨O,aj,N,_,aS⟩:=World.ownsRow.form D oM;rw [N] at D;have aC:wr.cell? ⟨aF,g,none⟩=some (.int .i64 (a:Int)):=(World.ownsRow.cellAt T g oM).trans (by rw [zAf,C];rfl);have ac:wr.cell? ⟨p,1,none⟩=some (.slice (some O) b.length aj):=(e.blk.cell 1).trans (by rw [N];rfl);have aV:=e.blk.lt;have aY:=n.size;have ag:a∈c.drop g:=(by rw [zAx B,List.getElem_eq_getElem?_get];simp [C]);have aG:(aB b a,aE b a)=(aB f a,aE f a):=S a ag;injection aG with hCr hCp;have aP:=fun (d:Nat) (j:Value.ownBlock l=some d)=>(World.ownsRow.lt e.lrow d j).2;obtain ⟨ab,Y⟩:=eqx b.length;rw [Y] at D ac a0;have aQ:=n.bk aN (fun j=>aK _ j rfl);have aX:(a:Int) < (ab:Int):=oM;obtain ⟨X,W,aa,a9,V,ap,M,au,a8⟩:=hqq9 e n D C R S Y a2 N;obtain ⟨ao,a7,aq⟩:=hqq3 hCr hCp a1;clear e n D C R S Y a2 N hCr hCp a1 ag T aP;go_wp2_with fail;refine (aAY t O ab aj P o a b wr aa.out (by rw [M.out];exact a0) aQ (by rw [a7.out];exact (an.out a aq.out).2)).mono ?_;rintro j w1 ⟨rfl,ah,s⟩
    have ae:PermAt w1 t p z l J K I w v c (b.set a (aB b a,inR (aE b a) o)) H y:=by
        have e:=X.out;have F:∀d a6 x,a6≠179->Bk wr d a6 x->d≠O:=fun d a6 x ht m j=>by subst j;obtain ⟨aR,aH⟩:=cK aa.out;exact ht (aJ m aH).1
        refine ⟨s.bk e.blk (F _ _ _ dC e.blk),?_,aA e.orow fun d x _ m=>s.bk m (F _ _ _ dC m),s.bk e.ar (F _ _ _ dC e.ar),aA e.trow fun d x _ m=>s.bk m (F _ _ _ dC m),aA e.frow fun d x _ m=>s.bk m (F _ _ _ dC m),e.apart,fun i k=>by rw [zAt];exact e.lt i k,e.lo⟩;rw [zAt,M.out,a8.out,M.out];exact ah
    have af:Keep (fun d=>l.ownBlock=some d) q w1:=W.out.trans (s.mono fun d _ j=>by rw [a8.out,show d=O from j];rfl)
    have Z:∀i,(aB (b.set a (aB b a,inR (aE b a) o)) i,aE (b.set a (aB b a,inR (aE b a) o)) i)=if i=a then (aB b a,inR (aE b a) o) else (aB b i,aE b i):=fun i=>by
        unfold aB aE;rw [zAb,zBm];by_cases r:a=i;subst r;rw [zBx rfl,zBx rfl,zBx (by rw [M.out];exact a0)];rfl
        · rw [zBw r,zBw (fun j=>r j.symm),zAb]
    have hrel:∃(U:Nat) (u:List (Nat×Nat)),U<=G/\Value.int .i64 ((g+1:Nat):Int)=.int .i64 (U:Int)/\u.length=f.length/\(∀a,a∈c.take U->(aB u a,aE u a)=(aB f a,inR (aE f a) o))/\(∀a,a∈c.drop U->(aB u a,aE u a)=(aB f a,aE f a))/\PermAt w1 t p z l J K I w v c u H y/\Keep (fun d=>l.ownBlock=some d) q w1:=by
        refine ⟨g+1,_,by omega,rfl,by rw [zAt];exact au.out,fun i k=>?_,fun i k=>?_,ae,af⟩
        · rw [Z];by_cases r:i=a
          · subst r;rw [zBx rfl,ao.out,a7.out]
          rw [zBw r];refine V.out i ?_;rw [zAv,a9.out] at k;simp at k;rcases k with k | k;exact k;exact absurd k r
        · rw [Z];have aO:i≠a:=fun j=>by subst j;have aI:c.drop g=i::c.drop (g+1):=(by have B:g < c.length:=(by rw [Hn.out];exact ai);rw [zAx B];have Q:=a9.out;rw [zAa B] at Q;injection Q with Q;rw [Q]);have E:=(List.drop_sublist g c).nodup av.out;rw [aI,List.nodup_cons] at E;exact E.1 k
          rw [zBw aO];exact ap.out i (List.mem_of_mem_drop (by rw [<-List.drop_drop] at k;exact k:i∈(c.drop g).drop 1))
    have aw:=lhd hrel;clear ae af Z hrel s ah ac aC;go_wp2_with fail;go_roundw
    case rel=>exact aw.out
    case measure=>simp [intOf];omega
  · obtain rfl:g=G:=oM;obtain ⟨X,W,V⟩:=hqq3 e n R;clear e n R S;go_wp2_with fail;go_end0;refine ⟨rfl,W.out,b,a2,fun a n=>V.out a ?_,X.out⟩;rw [zAg (by rw [Hn.out];exact zAs _)];exact n
end Go.Proofs.YtnmapianpjamnaaGreatDoor
