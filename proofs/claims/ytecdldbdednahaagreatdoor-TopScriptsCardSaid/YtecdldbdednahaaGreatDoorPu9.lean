/- Lemmas of the walk. Conditions: each its own. -/
import Derived.Test.YtecdldbdednahaaGreatDoorPu7
import Derived.Test.YtecdldbdednahaaGreatDoorPu8
import Derived.Test.YtecdldbdednahaaGreatDoorProg
import Derived.Test.YtecdldbdednahaaGreatDoorShl
import Derived.Test.YtecdldbdednahaaGreatDoorShi
set_option linter.all false
set_option maxRecDepth 100000
set_option maxHeartbeats 4000000
open Go.Proofs.Tryz
namespace Go.Proofs.YtecdldbdednahaaGreatDoor
section
open Go.RowKit
def yL (B gk L b w) (d:WalkAt w B gk L) (g:b < L.length):
 Calls prog 114 #[gk,(b:Int)] w fun c w'=>c=.returned (.bool true)/\w=w':=by
 obtain ⟨i,a⟩:=eqx L.length;rw [a] at g;have k:(b:Int) < (i:Int):=oM;obtain ⟨f,e⟩:=hqq2 a d;clear a d;go_enter func114,ntmps114;go_wp2_with fail;refine (lJ B gk L w e.out).mono ?_;rintro c w' ⟨rfl,rfl⟩;rw [f.out];go_wp2_with fail;go_ret;exact ⟨rfl,rfl⟩
def mY (B gk:Nat) (L) (d b:Nat) (w) (D:WalkAt w B gk L) (n:L[d]?=some b) (u:∀y∈L,y < 257) (x:L.length<=1000):
 Calls prog 112 #[gk,(d:Int)] w fun f w'=>f=.returned (.int .i64 ((cL L b d:Nat):Int))/\VB B w w':=by
 have J:=(zAc.1 n).1;have M:b < 257:=u _ (zAd n);have H:=D;obtain ⟨l,ai,m,F,a4⟩:=D;have a1:=m.cell 0;have al:=m.lt;obtain ⟨j,v⟩:=eqx (cL L b d);obtain ⟨q,o⟩:∃a8,L.countP (fun y=>decide (y < b))=a8:=⟨_,rfl⟩;obtain ⟨r,p⟩:=eqx ((L.take d).count b);have K:q+r=j:=by rw [<-o,<-p,<-v];rfl
 have aj:q<=1000:=by rw [<-o];exact zAk zBh x
 have ak:r<=1000:=by rw [<-p];exact zAk zBv (by rw [zAj];omega)
 rw [v];obtain ⟨z,O,A,s,W,C,t,Y,Z⟩:=hqq9 H m F J n u x o p;have X:=lhd K;clear H m F a4 J n u x o p v K;go_enter func112,ntmps112;go_wp2_with fail;refine (yL B gk L d w z.out s.out).mono ?_;rintro f w1 ⟨rfl,rfl⟩;go_wp2_with fail;refine (eI B l L d b w A.out s.out (zAc.1 W.out).2 C.out t.out).mono ?_;rintro f k ⟨rfl,i⟩;have I:=z.out.vis i.1;have E:=i.1.bk O.out dC dC;have G:=A.out.vis i.1;obtain ⟨V,Q,U,a0⟩:=hqq4 I E G i;clear I E G i a1;go_wp2_with fail;refine wp_region_any kR ?_;refine aO [20,21,22,23,24,25,26,27,28,29,30,4] (VB B) (Vs [is gk,is (b:Int),is (q:Int),is gk,is gk,is gk,is l,is (d:Int),is (b:Int),is (r:Int),is (j:Int),is (j:Int)]) _ _ rfl kR vR (fun _ _=>VisK.trans) (cS tA1) ?_ ?_
 · refine aK ?_;refine pH 0 (.pointer (some gk)) ?_;refine pH 5 (.int .i64 (b:Int)) ?_;refine sC (fun _ e a _ _ _ c _ _ _ g=>?_) ?_
   · have ab:_=_:=c 0 20 kR rfl;have ac:_=_:=c 1 21 kR rfl;replace a:(VB B) k e:=bD a;go_simp;refine (jB B gk L b e (V.out.vis a.1) M t.out).mono ?_;rintro f aa ⟨rfl,a5⟩;rw [Y.out];exact g _ _ (kd a5) rfl
   refine pH 0 (.pointer (some gk)) ?_;refine pV 3 23 ?_;refine pV 4 24 ?_;refine pL 5 25 (fun e a=>have a:(VB B) k e:=bD a;(((a.1.bk Q.out dC dC).cell 0).trans rfl:e.cell? gk=some (.pointer (some l)))) ?_;refine pH 1 (.int .i64 (d:Int)) ?_;refine pH 5 (.int .i64 (b:Int)) ?_;refine sC (fun _ e a _ _ _ c _ _ _ g=>?_) ?_
   · have ae:_=_:=c 6 26 kR rfl;have af:_=_:=c 7 27 kR rfl;have ag:_=_:=c 8 28 kR rfl;replace a:(VB B) k e:=bD a;go_simp;refine (iP B l L d b e (U.out.vis a.1) M (zCm s.out) C.out t.out).mono ?_;rintro f aa ⟨rfl,a7⟩;rw [Z.out];exact g _ _ a7 rfl
   refine sC (fun _ _ _ _ _ _ c _ _ _ g=>?_) ?_
   · have ad:_=_:=c 2 22 kR rfl;have ah:_=_:=c 9 29 kR rfl;have am:IntKind.i64.wrap ((q:Int)+(r:Int))=(j:Int):=(by rw [wI0];have:=X.out;omega);go_simp;exact g _ _ vR rfl
   refine pV 10 30 ?_;exact aC
 · intro a3 a9 a c;replace a:(VB B) k a9:=bD a;have a2:a3 (.tmp 4)=.int .i64 (j:Int):=c 11 4 rfl;simp only [zqq];rw [a2];clear c;have a6:=a0.out.trans a;go_wp2_with fail;go_ret;exact ⟨rfl,a6⟩
def aBI (B gl m s t u f c a:Nat) (d w) (o:w.ownsRow B 114 2 (.slice (some gl) m s) m (bU d)) (x:a < d.length) (y:Bk w t 3 #[(f:Int)]) (z:Bk w u 3 #[(c:Int)]) (G:aD d a<=1000000000000):
 Calls prog 166 #[.pointer (some ⟨gl,a*2,none⟩),t,u] w fun E w'=>E=.returned (.tuple #[])/\w'.ownsRow B 114 2 (.slice (some gl) m s) m (bU (d.set a (mvR f c (aD d a),aI d a)))/\Keep (fun g=>g=gl) w w':=by
 obtain ⟨Y,a4⟩:=cH d a x;have a3:d.length=m:=by have v:=o.1;rw [dG] at v;omega
 have a1:=(ki o (a*2) oM).trans Y;have af:w.cell? t=some (.int .i64 (f:Int)):=(y.cell 0).trans rfl;have ag:w.cell? u=some (.int .i64 (c:Int)):=(z.cell 0).trans rfl;obtain ⟨a7,q⟩:=fW o;have a9:=q.frozen (a*2);have aa:=q.lt;have ab:=y.lt;have ac:=z.lt;have ad:t≠gl:=Bk.ne y q dC;have ae:u≠gl:=Bk.ne z q dC;have J:=lU d a x;have V:=fun e=>lE d a e x;obtain ⟨b,I⟩:=eqx (aD d a);rw [I] at a1 J G;rw [I];obtain ⟨A,Z,O⟩:=hqq3 o J V;have W:∀e:Nat,(w.setCell ⟨gl,a*2,none⟩ (.int .i64 (e:Int))).ownsRow B 114 2 (.slice (some gl) m s) m (bU (d.set a (e,aI d a))):=fun e=>by have:=(kl A.out (a*2) (.int .i64 (e:Int))).1;rwa [O.out] at this
 have X:∀M e:Nat,((w.setCell ⟨gl,a*2,none⟩ (.int .i64 (M:Int))).setCell ⟨gl,a*2,none⟩ (.int .i64 (e:Int))).ownsRow B 114 2 (.slice (some gl) m s) m (bU (d.set a (e,aI d a))):=fun M e=>by have v:=(kl (kl A.out (a*2) (.int .i64 (M:Int))).1 (a*2) (.int .i64 (e:Int))).1;rw [List.set_set,O.out] at v;exact v
 have U:∀e:Value,Keep (fun g=>g=gl) w (w.setCell ⟨gl,a*2,none⟩ e):=fun e=>ka (F:=fun g=>g=gl) (kf _ _) (p:=⟨gl,a*2,none⟩) (.inl rfl) _;obtain ⟨C,a0,a5⟩:=hqq3 W X U;clear o x y z Y a4 q J V a3 I W X U;have r:∀e:Nat,mvR f c b=e->d.set a (mvR f c b,aI d a)=d.set a (e,aI d a):=fun e E=>by rw [E]
 by_cases Q:b=f
 · subst Q;have k:mvR b c b=c:=(by unfold mvR;rw [zBx rfl]);rw [k];clear r;go_enter func166,ntmps166;go_wp2_with fail;go_quiet (fail);go_wp2_with fail;refine bodyPost_ret (results_none rfl _ _ _) rfl ?_;exact ⟨rfl,rR (C.out c) rfl,(ka (F:=fun g=>g=gl) ((kf _ _).drewN _) (p:=⟨gl,a*2,none⟩) (.inl rfl) _)⟩
 · have a6:((b:Int)==(f:Int))=false:=(by rw [zCb];omega);have l:mvR f c b=inR (bB b f) c:=(by unfold mvR;rw [zBw Q]);by_cases D:f < b
   · obtain ⟨i,H⟩:∃i,b=i+1:=⟨b - 1,by omega⟩;have b1:decide ((b:Int) > (f:Int))=true:=zBz oM;have a8:IntKind.i64.wrap ((b:Int) - 1)=(i:Int):=(by rw [wI0];omega);have K:bB b f=i:=(by unfold bB;rw [zBx D];omega);rw [K] at l;by_cases n:c<=i
     · have b2:decide ((i:Int)>=(c:Int))=true:=zBz oM;have a2:wrap64 ((i:Int)+1)=(b:Int):=(by rw [dN oM oM];omega);have k:mvR f c b=b:=(by rw [l];unfold inR;rw [zBx n];exact H.symm);rw [k];clear r l K G H;go_enter func166,ntmps166;go_wp2_with fail;go_quiet (fail);go_wp2_with fail;go_quiet (fail);go_wp2_with fail;go_quiet (fail);go_wp2_with fail;go_end0;exact ⟨rfl,rR (a0.out i b) rfl,(ka (F:=fun g=>g=gl) (Keep.drewN (ka (F:=fun g=>g=gl) ((kf _ _).drewN _) (p:=⟨gl,a*2,none⟩) (.inl rfl) _) _) (p:=⟨gl,a*2,none⟩) (.inl rfl) _)⟩
     · have b2:decide ((i:Int)>=(c:Int))=false:=zBy oM;have k:mvR f c b=i:=(by rw [l];unfold inR;rw [zBw n]);rw [k];clear r l K G H;go_enter func166,ntmps166;go_wp2_with fail;go_quiet (fail);go_wp2_with fail;go_quiet (fail);go_wp2_with fail;go_quiet (fail);go_wp2_with fail;go_end0;exact ⟨rfl,rR (C.out i) rfl,Keep.drewN (ka (F:=fun g=>g=gl) ((kf _ _).drewN _) (p:=⟨gl,a*2,none⟩) (.inl rfl) _) _⟩
   · have b1:decide ((b:Int) > (f:Int))=false:=zBy oM;by_cases n:c<=b
     · have b2:decide ((b:Int)>=(c:Int))=true:=zBz oM;have a2:wrap64 ((b:Int)+1)=((b+1:Nat):Int):=(by rw [dN oM oM];omega);have k:mvR f c b=b+1:=(by rw [l];unfold bB;rw [zBw D];unfold inR;rw [zBx n]);rw [k];clear r l;go_enter func166,ntmps166;go_wp2_with fail;go_quiet (fail);go_wp2_with fail;go_quiet (fail);go_wp2_with fail;go_quiet (fail);go_wp2_with fail;go_end0;exact ⟨rfl,rR (C.out (b+1)) rfl,(ka (F:=fun g=>g=gl) ((kf _ _).drewN _) (p:=⟨gl,a*2,none⟩) (.inl rfl) _)⟩
     · have b2:decide ((b:Int)>=(c:Int))=false:=zBy oM;have k:mvR f c b=b:=(by rw [l];unfold bB;rw [zBw D];unfold inR;rw [zBw n]);rw [k,Z.out];clear r l;go_enter func166,ntmps166;go_wp2_with fail;go_quiet (fail);go_wp2_with fail;go_quiet (fail);go_wp2_with fail;go_quiet (fail);go_wp2_with fail;go_end0;exact ⟨rfl,A.out,(((kf _ _).drewN _).drewN _).drewN _⟩
def vO (B gp v Q U o p:Nat) (l H I G) (R P:Nat) (d f F u w) (x:PermAt w B gp v l H I G R P d f F u) (C:d.Nodup) (aQ:d.length<=1000000) (aS:Bk w Q 3 #[(o:Int)]) (aN:∀c,l.ownBlock=some c->c≠Q) (aT:Bk w U 3 #[(p:Int)]) (aO:∀c,l.ownBlock=some c->c≠U) (ai:∀a,a∈d->aD f a<=1000000000000/\aI f a<=1000000000000):
 Calls prog 159 #[gp,.func (.func 166) #[] #[Q,U]] w fun i w'=>i=.returned (.tuple #[])/\Keep (fun c=>l.ownBlock=some c) w w'/\∃J,J.length=f.length/\(∀a,a∈d->(aD J a,aI J a)=(mvR o p (aD f a),aI f a))/\PermAt w' B gp v l H I G R P d J F u:=by
 obtain ⟨ap,aE,aa,_,_⟩:=aW x.orow;have aF:w.cell? ⟨gp,2,none⟩=some (.slice ap d.length aE):=(x.blk.cell 2).trans (by rw [aa];rfl);have b2:=x.blk.lt;obtain ⟨E,a9⟩:=eqx d.length;rw [a9] at aF aQ;obtain ⟨aq,a2,aC,az,au⟩:=hqq5 x a9 aa C ai;clear x a9 aa C ai;go_enter func159,ntmps159;go_wp2_with fail;go_loopw [11] (fun ab wr=>∃(j:Nat) (b:List (Nat×Nat)),j<=E/\ab=.int .i64 (j:Int)/\b.length=f.length/\(∀a,a∈d.take j->(aD b a,aI b a)=(mvR o p (aD f a),aI f a))/\(∀a,a∈d.drop j->(aD b a,aI b a)=(aD f a,aI f a))/\PermAt wr B gp v l H I G R P d b F u/\Keep (fun c=>l.ownBlock=some c) w wr) (fun ab _=>E -(intOf ab).toNat)
 case atStart=>exact ⟨0,f,zAp _,rfl,rfl,fun a m=>by simp at m,fun a _=>rfl,aq.out,kf _ _⟩
 case round=>
  obtain ⟨j,b,b4,rfl,a8,W,X,e,m⟩:=hrel;by_cases an:j < E
  · have y:j < d.length:=(by rw [a2.out];exact an);obtain ⟨a,z⟩:∃a,d[j]?=some a:=⟨_,zAa y⟩;have a7:=zAd z;have a6:a < b.length:=e.lt a a7;have Y:=e.orow;rw [aC.out] at Y;obtain ⟨aJ,b7,aH,_,b1⟩:=kk Y oM;injection aH with e2a _ e2c;subst e2a e2c;have A:=e.lrow;obtain ⟨O,ao,M,_,b0⟩:=kk A oM;rw [M] at A;have aG:wr.cell? ⟨aJ,j,none⟩=some (.int .i64 (a:Int)):=(ki Y j oM).trans (by rw [zAf,z];rfl);have ah:wr.cell? ⟨gp,1,none⟩=some (.slice (some O) b.length ao):=(e.blk.cell 1).trans (by rw [M];rfl);have b3:=e.blk.lt;have b6:=m.size;have al:a∈d.drop j:=(by rw [zAx y,List.getElem_eq_getElem?_get];simp [z]);have aK:(aD b a,aI b a)=(aD f a,aI f a):=X a al;injection aK with hCr hCp;have aV:=fun (c:Nat) (i:Value.ownBlock l=some c)=>(World.ownsRow.lt e.lrow c i).2;obtain ⟨N,a4⟩:=eqx b.length;rw [a4] at A ah a6;have aX:=m.bk aS (fun i=>aN _ i rfl);have aY:=m.bk aT (fun i=>aO _ i rfl);have b5:(a:Int) < (N:Int):=oM;obtain ⟨a3,a1,ag,af,a0,aw,K,ay,ae⟩:=hqq9 e m A z W X a4 a8 M;obtain ⟨ad,av,ax⟩:=hqq3 hCr hCp a7;clear e m A z W X a4 a8 M hCr hCp a7 al Y aV;go_wp2_with fail;refine (aBI B O N ao Q U o p a b wr ag.out (by rw [K.out];exact a6) aX aY (by rw [ad.out];exact (au.out a ax.out).1)).mono ?_;rintro i w1 ⟨rfl,am,r⟩
    have aj:PermAt w1 B gp v l H I G R P d (b.set a (mvR o p (aD b a),aI b a)) F u:=by
        have e:=a3.out;have D:∀c ac t,ac≠114->Bk wr c ac t->c≠O:=fun c ac t aR n i=>by subst i;obtain ⟨aZ,aL⟩:=fW ag.out;exact aR (aP n aL).1
        refine ⟨r.bk e.blk (D _ _ _ dC e.blk),?_,aA e.orow fun c t _ n=>r.bk n (D _ _ _ dC n),r.bk e.ar (D _ _ _ dC e.ar),aA e.trow fun c t _ n=>r.bk n (D _ _ _ dC n),aA e.frow fun c t _ n=>r.bk n (D _ _ _ dC n),e.apart,fun g k=>by rw [zAt];exact e.lt g k,e.lo⟩;rw [zAt,K.out,ae.out,K.out];exact am
    have ak:Keep (fun c=>l.ownBlock=some c) w w1:=a1.out.trans (r.mono fun c _ i=>by rw [ae.out,show c=O from i];rfl)
    have a5:∀g,(aD (b.set a (mvR o p (aD b a),aI b a)) g,aI (b.set a (mvR o p (aD b a),aI b a)) g)=if g=a then (mvR o p (aD b a),aI b a) else (aD b g,aI b g):=fun g=>by
        unfold aD aI;rw [zAb,zBm];by_cases q:a=g;subst q;rw [zBx rfl,zBx rfl,zBx (by rw [K.out];exact a6)];rfl
        · rw [zBw q,zBw (fun i=>q i.symm),zAb]
    have hrel:∃(Z:Nat) (s:List (Nat×Nat)),Z<=E/\Value.int .i64 ((j+1:Nat):Int)=.int .i64 (Z:Int)/\s.length=f.length/\(∀a,a∈d.take Z->(aD s a,aI s a)=(mvR o p (aD f a),aI f a))/\(∀a,a∈d.drop Z->(aD s a,aI s a)=(aD f a,aI f a))/\PermAt w1 B gp v l H I G R P d s F u/\Keep (fun c=>l.ownBlock=some c) w w1:=by
        refine ⟨j+1,_,by omega,rfl,by rw [zAt];exact ay.out,fun g k=>?_,fun g k=>?_,aj,ak⟩
        · rw [a5];by_cases q:g=a
          · subst q;rw [zBx rfl,ad.out,av.out]
          rw [zBw q];refine a0.out g ?_;rw [zAv,af.out] at k;simp at k;rcases k with k | k;exact k;exact absurd k q
        · rw [a5];have aU:g≠a:=fun i=>by subst i;have aM:d.drop j=g::d.drop (j+1):=(by have y:j < d.length:=(by rw [a2.out];exact an);rw [zAx y];have V:=af.out;rw [zAa y] at V;injection V with V;rw [V]);have C:=(List.drop_sublist j d).nodup az.out;rw [aM,List.nodup_cons] at C;exact C.1 k
          rw [zBw aU];exact aw.out g (List.mem_of_mem_drop (by rw [<-List.drop_drop] at k;exact k:g∈(d.drop j).drop 1))
    have aB:=lhd hrel;clear aj ak a5 hrel r am ah aG;go_wp2_with fail;go_roundw
    case rel=>exact aB.out
    case measure=>simp [intOf];omega
  · obtain rfl:j=E:=oM;obtain ⟨a3,a1,a0⟩:=hqq3 e m W;clear e m W X;go_wp2_with fail;go_end0;refine ⟨rfl,a1.out,b,a8,fun a m=>a0.out a ?_,a3.out⟩;rw [zAg (by rw [a2.out];exact zAs _)];exact m
end
section
open Go.RowKit Go.Shelf
open Go.Sort (Holds PermIn SortedIn SWO heap_grow_old)
def aH4 {w e base a c f k} {os:Array Obj} {d} (b:Array (Fin (e+1))) (i:b.size=f) (g:Bk w a 3 d) (p:base<=a) (l:f<=c) (m:c<=maxLen) (n:d.size=c):
 (sortWorld (fM e) w a 0 k b os).ownsRow base 3 1 (.slice (some a) f c) f ((b.toList.map fun u=>u.val).map sv):=by
 have q:=g.lt;have r:(sortWorld (fM e) w a 0 k b os).heap[a]?=some (.cells (Go.Sort.putCells (fM e) 0 b d) 3 (0,0)):=by unfold sortWorld;rw [heap_grow_old _ _ (by show a < (w.heap.modify a _).size;simpa using q)];have o:w.heap[a]?=some (.cells d 3 (0,0)):=g;simp [Go.Sort.putRow,Go.Sort.mapBlock,Go.Sort.ahead,Array.getElem?_modify,o,Go.Sort.onCells]
 refine ⟨by simp [i],.inr ⟨a,c,_,rfl,p,r,l,m,by simp [Go.Sort.putCells,n],?_⟩⟩;rw [zBl];refine iD (by simp [i]) (by simp [Go.Sort.putCells];omega) fun j v=>?_;have s:j < d.size:=oM;have t:j < b.size:=oM;simp [Go.Sort.putCells,Array.getElem?_mapIdx,s,t,fM,sv,aCW]
def aGz {c a} (d:∀b∈a,b < c+1):(gC c a).toList.map (fun f=>f.val)=a:=by
 unfold gC;rw [zCh]
 conv=>rhs;rw [<-List.map_id a]
 exact List.map_congr_left fun b e=>zBu (d b e)
def cfK (b:Nat) (a:Nat->Nat) (c d:Fin (b+1)):Int:=Lib.compareInt ((a c.val:Nat):Int) ((a d.val:Nat):Int)
def aBc (b a) (c d:Fin (b+1)):ltOf (cfK b a) c d=decide (a c.val < a d.val):=by
 unfold ltOf cfK;rw [decide_eq_decide,wN];omega
def aJN (a:Nat) (b:Nat->Nat):SWO (ltOf (cfK a b)) where
 irrefl x:=by rw [aBc];simp
 trans x y z h1 h2:=by
  rw [aBc,zCa] at*
  omega
 ntrans x y z h1 h2:=by
  rw [aBc,decide_eq_false_iff_not] at*
  omega
def aCp {e c f} {b:Array (Fin (e+1))} (v:∀E∈c,E < e+1) (q:PermIn 0 (gC e c).size (gC e c) b) (D:SortedIn (ltOf (cfK e f)) 0 (gC e c).size b) (A:c.Nodup) (y:∀a∈c,∀r∈c,f a=f r->a=r):
 (b.toList.map fun a=>a.val).Perm c/\(b.toList.map fun a=>a.val).Pairwise (fun s t=>f s < f t):=by
 have g:(b.toList.map fun a=>a.val).Perm c:=by have:=(xI q).map (fun a:Fin (e+1)=>a.val);rwa [aGz v] at this
 refine ⟨g,?_⟩;have C:(b.toList.map fun a=>a.val).Nodup:=g.nodup_iff.2 A;rw [zAr];intro d j i k n;have z:d < b.size:=by simpa using i
 have o:j < b.size:=by simpa using k
 have x:=D d j (zAp _) n (by rw [<-q.1];exact o);rw [aBc,decide_eq_false_iff_not,aCW _ _ z,aCW _ _ o] at x;have l:(b.toList.map fun a=>a.val)[d]=b[d].val:=by simp
 have m:(b.toList.map fun a=>a.val)[j]=b[j].val:=by simp
 have p:(b.toList.map fun a=>a.val)[d]≠(b.toList.map fun a=>a.val)[j]:=zAr.1 C d j i k n;have F:b[d].val∈c:=g.subset (by rw [<-l];exact zBj i);have G:b[j].val∈c:=g.subset (by rw [<-m];exact zBj k);rw [l,m] at p⊢;have H:f b[d].val≠f b[j].val:=fun u=>p (y _ F _ G u);omega
end
section
open Go.RowKit Go.Shelf
open Go.Sort (Holds)
def aAf (n gp r E s a f g b) (e:PRd b n gp r E s a) (y:f < a.length) (z:g < a.length):
 Calls prog 167 #[(f:Int),(g:Int),n] b fun i w'=>i=.returned (.int .i64 (Lib.compareInt ((aD a f:Nat):Int) ((aD a g:Nat):Int)))/\∃c,w'=b.drewN c:=by
 obtain ⟨K,H,O,rfl,t,u⟩:=e.at y;obtain ⟨M,b1,Q,d,v,x⟩:=e.at z;injection d with d;injection d with d e2;subst d e2;have I:=e.box;have J:=e.sl;obtain ⟨l,p⟩:=eqx (aD a f);obtain ⟨m,q⟩:=eqx (aD a g);rw [p] at t⊢;rw [q] at v⊢;obtain ⟨G,k⟩:=eqx (Lib.compareInt (l:Int) (m:Int));have D:∀c:Nat,Calls prog 143 #[(l:Int),(m:Int)] (b.drewN c) fun i w'=>i=.returned (.int .i64 G)/\∃F,w'=b.drewN F:=fun c=>by have o:=AnyG.cmp_Compare_int shCmp (l:Int) (m:Int) (b.drewN c);rw [k] at o;exact Calls.mono o fun _ _ ⟨A,C⟩=>⟨A,c,C⟩
 rw [k];clear e u x p q k;go_enter func167,ntmps167;go_wp2_with fail;go_quiet ((with_reducible exact D _));go_wp2_with fail;go_ret;exact ⟨rfl,_,rfl⟩
def aKc {b g f d} (a:mvR b g f=mvR b g d):f=d:=by
 unfold mvR inR bB at a;by_cases e:f=b
 · by_cases c:d=b;omega
   · rw [zBx e,zBw c] at a;split at a <;> split at a <;> omega
 · by_cases c:d=b
   · rw [zBw e,zBx c] at a;split at a <;> split at a <;> omega
   · rw [zBw e,zBw c] at a;split at a <;> split at a <;> split at a <;> split at a <;> omega
def aK6 {a c b R} (e:a < R) (d:c < R) (f:b < R):mvR a c b < R:=by
 unfold mvR inR bB;split;exact d
 · split <;> split <;> omega
def PermX.drewN {w b gp d k l m i R P f a g c} (e:PermX w b gp d k l m i R P f a g c) (n):PermX (w.drewN n) b gp d k l m i R P f a g c:=
 { e with at_:=e.at_.below (kn bR _)}
def PermX.sorted {w w' s gp u y g z x R P n o r v t} (i:PermX w s gp u y g z x R P n r v t) (l:o.Perm n) (f:Keep (fun c=>g.ownBlock=some c) w w') (D:w'.ownsRow 0 3 1 g n.length (o.map sv)):PermX w' s gp u y g z x R P o r v t:=by
 have a:=i.at_;have k:∀c p d,Bk w c p d->p≠3->¬(g.ownBlock=some c):=fun c p d b E e=>by obtain ⟨G,A⟩:=fE a.orow e;exact E (aP b A).1
 refine { i with at_:=⟨f.bk a.blk (k _ _ _ a.blk dC),aA a.lrow fun c d _ b=>f.bk b (k _ _ _ b dC),by rw [l.length_eq];exact D,f.bk a.ar (k _ _ _ a.ar dC),aA a.trow fun c d _ b=>f.bk b (k _ _ _ b dC),aA a.frow fun c d b C=>f.bk C fun e=>?_,a.apart,fun q F=>a.lt q (l.subset F),a.lo⟩,nd:=l.nodup_iff.2 i.nd,tkk:=fun q=>(i.tkk q).trans l.mem_iff.symm };rcases a.apart with m | m
 · rw [m] at e;cases e
 exact m (e.trans b.symm)
def aBT (x gp Y q R P a8 O a9 a7 b d a6 X w) (r:PermX w x gp Y a8 O a9 a7 R P b d a6 X) (D:Bk w q 87 #[gp]) (am:b≠ []) (ai:∀u∈b,∀v∈b,aD d u=aD d v->u=v):
 ∃Q p,O=.slice Q b.length p/\Calls prog 83 #[.slice Q b.length p,.func (.func 167) #[] #[q]] w fun m w'=>m=.returned (.tuple #[])/\∃J,J.Perm b/\J.Pairwise (fun e g=>aD d e < aD d g)/\PermX w' x gp Y a8 O a9 a7 R P J d a6 X/\Keep x w w':=by
 have I:0 < b.length:=List.length_pos_iff.2 am;have e:=r.at_;obtain ⟨l,p,m,_,H⟩:=kk e.orow I;refine ⟨_,p,m,?_⟩;have a1:=e.orow;rw [m] at a1;obtain ⟨aw,G,af,al,ak,ay,ad⟩:=tT a1 I;obtain ⟨k0,aj⟩:∃i,i∈b:=List.exists_mem_of_length_pos I;obtain ⟨a,F⟩:∃a,d.length=a+1:=⟨d.length - 1,by have:=e.lt k0 aj;omega⟩;have a0:∀i∈b,i < a+1:=fun i n=>by rw [<-F];exact e.lt i n
 have t:(gC a b).size=b.length:=by simp [gC]
 have ab:=qM (c:=a) G a0 (iD (by simp) oM ad);obtain ⟨U,a5,V,C,aB⟩:=e.prd (D.cell 0) (kh w.heap.size w);have ae:CmpReads prog 167 #[q] (fM a) (cfK a (aD d)) l 0 (gC a b).size w:=fun K o A az u v=>by
  have i:=kB (enc:=fM a) (w:=w) H 0 K A o;have E:∀g M y,Bk w g M y->M≠3->¬(g=l):=fun g M y ac ar s=>by subst s;exact ar (aP ac G).1
  have ao:PRd (sortWorld (fM a) w l 0 K A o) q gp U a5 V d:=by refine ⟨((i.bk D (E _ _ _ D dC)).cell 0).trans rfl,((i.bk e.blk (E _ _ _ e.blk dC)).cell 1).trans (by rw [C];rfl),?_⟩;have Z:=aA (w':=sortWorld (fM a) w l 0 K A o) e.lrow fun g y _ n=>i.bk n (E _ _ _ n dC);rw [C] at Z;have aa:=aW e.lrow;obtain ⟨au,av,W,_⟩:=aa;rw [C] at W;injection W with e81 e82 e83;subst e82;exact Rd.of_own Z
  exact aAf q gp U a5 V d u.val v.val _ ao (by rw [F];exact u.isLt) (by rw [F];exact v.isLt)
 have a4:=Any.slices_SortFunc shSort (fM a) (mQ a) (cfK a (aD d)) (aJN a (aD d)) 167 #[q] l 0 p (gC a b) w (enters_of func167 kR rfl) ae.lays ab H (by rw [t];have:=iK r.nd e.lt;have:=r.sz;omega);rw [t] at a4;refine a4.mono ?_;rintro ax w' ⟨rfl,z,nq,o,a3,aq,rfl⟩;obtain ⟨a2,ap⟩:=aCp (f:=aD d) a0 (by rw [t];exact a3) (by rw [t];exact aq) r.nd ai;have ag:z.size=b.length:=by rw [a3.1,t]
 have n:=kB (enc:=fM a) (w:=w) H 0 nq z o;have an:=aH4 (base:=0) (k:=nq) (os:=o) z ag G (zAp _) al ak af;have ah:x l:=r.fo l (by rw [m];rfl);exact ⟨rfl,_,a2,ap,r.sorted a2 (n.mono fun g _ s=>by rw [m,show g=l from s];rfl) (by rw [m];exact an),n.mono fun g _ s=>by rw [show g=l from s];exact ah⟩
def cM (l gp R P d e pr w) (aF:PermE w l gp R P pr) (aK:d < R) (aL:e < R) (aW:R<=100000) (aV:P<=100000) (ak:pr≠ []):
 Calls prog 105 #[gp,(d:Int),(e:Int)] w fun i w'=>i=.returned (.int .i64 0)/\(∃pr',pr'.Perm (pr.map fun g=>(mvR d e g.1,g.2))/\PermE w' l gp R P pr')/\Keep l w w':=by
 obtain ⟨⟨y,t,D,E,C,c,b,A,x,o,rfl⟩,an,aa⟩:=aF;have H:=o.at_;have aj:c≠ []:=fun i=>ak (by rw [i];rfl);have aX:=H.blk.lt;have b1:decide ((d:Int) < 0)=false:=by simp
 have b2:decide ((e:Int) < 0)=false:=by simp
 have b3:¬R<=d:=oM;have b4:¬R<=e:=oM;have b5:¬(d:Int)>=(R:Int):=oM;have b6:¬(e:Int)>=(R:Int):=oM;obtain ⟨w1,s⟩:=eqx (((w.alloc (.cells #[gp] 87)).alloc (.cells #[(d:Int)] 3)).alloc (.cells #[(e:Int)] 3));have U:Below w.heap.size w w1:=by rw [<-s];exact ((bR.alloc nL _).alloc (by simp) _).alloc (by simp;omega) _
 have J:Bk w1 w.heap.size 87 #[gp]:=by rw [<-s];exact ((ke w _ _).alloc _).alloc _
 have K:Bk w1 (w.heap.size+1) 3 #[(d:Int)]:=by rw [<-s];have:=(ke (w.alloc (.cells #[gp] 87)) 3 #[(d:Int)]).alloc (.cells #[(e:Int)] 3);simpa using this
 have M:Bk w1 (w.heap.size+2) 3 #[(e:Int)]:=by rw [<-s];have:=ke ((w.alloc (.cells #[gp] 87)).alloc (.cells #[(d:Int)] 3)) 3 #[(e:Int)];simpa using this
 have I:PermX w1 l gp y t D E C R P c b A x:= { o with at_:=H.below U };have ao:∀k,t.ownBlock=some k->k < w.heap.size:=fun k q=>(H.lrow.lt k q).2;have aN:∀p,(w1.drewN p).cell? w.heap.size=some (.pointer (some gp)):=fun p=>(J.cell 0).trans rfl;have aO:∀p,(w1.drewN p).cell? ⟨w.heap.size+1,0,none⟩=some (.int .i64 (d:Int)):=fun p=>(K.cell 0).trans rfl;have aP:∀p,(w1.drewN p).cell? ⟨w.heap.size+2,0,none⟩=some (.int .i64 (e:Int)):=fun p=>(M.cell 0).trans rfl;have aR:w1.cell? w.heap.size=some (.pointer (some gp)):=(J.cell 0).trans rfl;have aS:w1.cell? ⟨w.heap.size+1,0,none⟩=some (.int .i64 (d:Int)):=(K.cell 0).trans rfl;have aT:w1.cell? ⟨w.heap.size+2,0,none⟩=some (.int .i64 (e:Int)):=(M.cell 0).trans rfl;have aQ:w1.cell? ⟨gp,3,none⟩=some (.int .i64 (R:Int)):=(I.at_.blk.cell 3).trans rfl;have aY:=I.at_.blk.lt;have a7:∀a,a∈c->aD b a < R/\aI b a < P:=fun a m=>aa (aD b a,aI b a) (zAy.2 ⟨a,m,rfl⟩);have ae:∀g∈c,∀v∈c,aD b g=aD b v->g=v:=fun g aJ v O i=>by have am:=List.pairwise_map.1 an;obtain ⟨z,ad,rfl⟩:=List.getElem_of_mem aJ;obtain ⟨j,af,rfl⟩:=List.getElem_of_mem O;rcases Nat.lt_trichotomy z j with n | n | n;have aG:aD b c[z] < aD b c[j]:=zAr.1 am z j ad af n;omega;subst n;rfl;have aG:aD b c[j] < aD b c[z]:=zAr.1 am j z af ad n;omega
 obtain ⟨f,a1,ay,ar,au,av,aw,aB,Q⟩:=hqq9 I a7 ae U J K M s ao;have aA:=lhd aj;clear o H an aa I a7 ae U J K M s ao aj ak;go_enter func105,ntmps105;go_wp2_with fail;rw [aB.out];go_quiet (fail)
 rename_i nq
 have b0:∀(a6:Fn) (first a4:Array Value) (w:World),(Instr.makeFunc a6 first a4).run prog w=.ok (.func a6 first a4) w:=fun _ _ _ _=>rfl;go_wp2_with fail;have r:=f.out.drewN nq;have aH:=iK r.nd r.at_.lt;refine (vO 0 gp y (w.heap.size+1) (w.heap.size+2) d e t D E C R P c b A x _ r.at_ r.nd (by have:=r.sz;omega) (av.out.drewN nq) (fun k q i=>by have:=Q.out k q;omega) (aw.out.drewN nq) (fun k q i=>by have:=Q.out k q;omega) (fun a m=>by have:=a1.out a m;omega)).mono ?_;rintro i u ⟨rfl,X,F,Y,W,a9⟩;have a0:∀a,a∈c->aD F a=mvR d e (aD b a):=fun a m=>(Prod.mk.inj (W a m)).1;have G:PermX u l gp y t D E C R P c F A x:=⟨a9,f.out.fp,f.out.fa,f.out.fl,f.out.fo,f.out.ft,f.out.ff,f.out.nd,by rw [Y];exact f.out.tkl,f.out.tkk,f.out.frn,f.out.frk,by rw [Y];exact f.out.sz⟩;have V:Bk u w.heap.size 87 #[gp]:=X.bk (au.out.drewN nq) fun i=>by have:=Q.out _ i;omega
 have ah:Keep l w u:=(kF (kn ar.out nq)).trans (X.mono fun k _ q=>f.out.fl k q);obtain ⟨aq,aE,a5,ab⟩:=aBT l gp y w.heap.size R P t D E C c F A x u G V aA.out (fun g o v O i=>ay.out g o v O (aKc (by rw [<-a0 g o,<-a0 v O,i])));have aC:u.cell? ⟨gp,2,none⟩=some (.slice aq c.length aE):=(G.at_.blk.cell 2).trans (by rw [a5];rfl);have aU:u.cell? w.heap.size=some (.pointer (some gp)):=(V.cell 0).trans rfl;have aZ:=G.at_.blk.lt;obtain ⟨az,a2,ax⟩:=hqq3 ah W ab;clear ah W ab G V X Y a9 a0 r aH aR aS aT aN aO aP aQ a5;go_wp2_with fail;refine ax.out.mono ?_;rintro i ap ⟨rfl,aM,Z,al,a8,ag⟩;have ac:(∃pr',pr'.Perm ((c.map fun a=>(aD b a,aI b a)).map fun g=>(mvR d e g.1,g.2))/\PermE ap l gp R P pr')/\Keep l w ap:=by refine ⟨⟨_,?_,⟨y,t,D,E,C,aM,F,A,x,a8,rfl⟩,List.pairwise_map.2 al,fun g o=>?_⟩,az.out.trans ag⟩;refine (Z.map _).trans ?_;rw [zCh];refine List.Perm.of_eq (List.map_congr_left fun a m=>?_);exact a2.out a m;obtain ⟨a,m,rfl⟩:=zAy.1 o;have ai:=Z.subset m;have n:=a1.out a ai;rw [a2.out a ai];exact ⟨aK6 aK aL n.1,n.2⟩
 have a3:=lhd ac;clear ac a8 ag Z al aC aU;go_wp2_with fail;go_ret;exact ⟨rfl,a3.out.1,a3.out.2⟩
end
section
open Go.RowKit
structure LiveG (w:World) (Bw gl gk gp rate n:Nat) (L:List Nat) (pr:List (Nat×Nat)):Prop where
 blk:∃mv:Int,Bk w gl 89 #[gk,gp,(rate:Int),(mv:Int)]
 walk:WalkAt w Bw gk L
 perm:PermR w gp n n pr
def LiveG.vis {w w' c gl gk gp rate d L pr} (a:LiveG w c gl gk gp rate d L pr) (b:Vis w w'):LiveG w' c gl gk gp rate d L pr:=by
 obtain ⟨mv,e⟩:=a.blk;exact ⟨⟨mv,b.bk e dC dC⟩,a.walk.vis b,a.perm.vis b⟩
def LiveG.lvw {w a gl gk gp rate d L pr} (b:LiveG w a gl gk gp rate d L pr):LvW w a gl L:=by
 obtain ⟨mv,c⟩:=b.blk;exact ⟨gk,_,_,_,c,b.walk⟩
def LiveG.mono {w b B' gl gk gp rate c L pr} (a:LiveG w b gl gk gp rate c L pr) (d:B'<=b):LiveG w B' gl gk gp rate c L pr:=⟨a.blk,a.walk.mono d,a.perm⟩
def LiveG.lt {w a gl gk gp rate c L pr} (b:LiveG w a gl gk gp rate c L pr):gl < w.heap.size:=b.lvw.lt
def uN (a):a=(List.range a.length).map fun c=>(aD a c,aI a c):=by
 apply List.ext_getElem?;intro d;rw [zAf];by_cases b:d < a.length;rw [zCk b,zAa b];unfold aD aI;rw [Option.map_some,zAb,zAa b];rfl;rw [zBg oM,zBg (by simpa using b)];rfl
def LiveAt.g {w c gl gk gp d k l m B f rate L a i} (b:LiveAt w c gl gk gp d k l m B f rate L a i) (p:a.Pairwise (fun n o=>n.1 < o.1)) (e:a.length<=1000):LiveG w c gl gk gp rate f L a:=
 ⟨⟨0,b.blk⟩,b.walk,B,d,k,l,m,_,_,a,i, [],b.perm,aA6 a p,e,by rw [zCi];exact e,uN a⟩
def xA {rs rate n} (e:n<=rs.length):∀a∈cW rs rate n,rs[a.1]?=some a.2:=fun a c=>by
 obtain ⟨d,b⟩:=oO c;rw [b,zAb,zAa (show a.1 < rs.length by omega)];rfl
def aGo {c b rate} (a:IsSuf (aJ c) b):∃f∈cW b rate (c.length+1),f.2=0:=by
 obtain ⟨j,e,d⟩:=a.row (p:=0) (by rw [aR];omega);refine ⟨(j,0),(aIb _ _ _ _ _).2 ⟨?_,?_,Nat.zero_mod _⟩,rfl⟩;have:=a.len;rw [aR] at this;omega;rw [zAb,zAa e,d];rfl
def gG (i gl gk gp rate:Nat) (e d t) (ac c:Nat) (w) (K:LiveG w i gl gk gp rate (e.length+1) (aH (aJ e) d) t) (au:∀g∈t,d[g.1]?=some g.2) (l:IsSuf (aJ e) d) (aX:e.length<=127) (a3:d[ac]?=some c):
 Calls prog 58 #[gl,(c:Int)] w fun m w'=>m=.returned (.int .i64 (ac:Int))/\VB i w w':=by
 have a5:d.length=e.length+1:=by rw [l.len,aR]
 have a0:(aH (aJ e) d).length=e.length+1:=by rw [bW,a5]
 have aZ:c < e.length+1:=by have:=l.lt (zAd a3);rwa [aR] at this
 have a8:=aCz l;obtain ⟨N,a1⟩:=eqx e.length;have av:∀a b:Nat,d[a]?=some (b+1)->∃s J,(aH (aJ e) d)[a]?=some s/\cL (aH (aJ e) d) s a=J/\d[J]?=some b:=fun a b x=>by obtain ⟨O,ak⟩:=zAc.1 x;have aQ:b+1 < (aJ e).length:=l.lt (zAd x);obtain ⟨J,am,al⟩:=l.row (p:=b) oM;have ap:=eP e;have aT:=sA ap O ak (by rw [aR] at aQ;omega);exact ⟨(aJ e).getD b 0,J,zAc.2 ⟨_,aT⟩,lf l ap O am ak al,zAc.2 ⟨am,al⟩⟩
 have a6:∀a b:Nat,d[a]?=some b->b<=e.length/\a<=e.length:=fun a b x=>by have k:=l.lt (zAd x);rw [aR] at k;have M:=(zAc.1 x).1;omega
 have aw:∀a,d[a]?=some c->a=ac:=fun a O=>vX l O a3;rw [a1] at K;rw [a1] at a0 aZ aX a5 a8 a6;have b5:decide ((c:Int) < 0)=false:=by simp
 have aY:¬N < c:=oM;have b6:decide (N < c)=false:=zBy aY;obtain ⟨r,aC,aA,ah,aB,ai,I⟩:=hqq7 K a8 au av a6 aw a0;have ag:=lhd (dR (fB e) (rs:=d));obtain ⟨mv,Q⟩:=K.blk;have aF:=Q.cell 0;have aG:=Q.cell 1;have aU:=Q.lt;clear K a8 au av a6 aw a0 l a3 a1 a5 Q;go_enter func58,ntmps58;go_wp2_with fail;refine (cD i gl _ N w r.out.lvw I.out oM).mono ?_;rintro m w1 ⟨rfl,rfl⟩;go_wp2_with fail;refine (cD i gl _ N w r.out.lvw I.out oM).mono ?_;rintro m w1 ⟨rfl,rfl⟩;go_wp2_with fail;have a7:=qA gp (N+1) (N+1) t c w r.out.perm;unfold uI at a7;refine a7.mono ?_;rintro m ay ⟨ba,rfl,H,an⟩;clear a7;have ab:VB i w ay:=kd an;have M:=r.out.vis ab.1;obtain ⟨b8,U⟩:=M.blk;have aK:=U.cell 0;have aL:=U.cell 1;have aW:=U.lt;obtain ⟨az,aj⟩:=hqq2 M ab;clear an ab M aF aG aU U;rcases H with ⟨H,_⟩|⟨⟨b7,q⟩,aS,H,a4,_⟩
 · subst H;go_wp2_with fail;go_loopw [5,6] (fun g af wr=>∃a f:Nat,c<=a/\a<=N/\d[f]?=some a/\g=.int .i64 (a:Int)/\af=.int .i64 (f:Int)/\VB i w wr) (fun g _ _=>(intOf g).toNat)
   case atStart=>exact ⟨N,0,by omega,zAs _,aC.out,rfl,rfl,aj.out⟩
   case round=>
    obtain ⟨a,f,b0,aN,z,rfl,rfl,o⟩:=hrel;have k:=r.out.vis o.1;obtain ⟨b3,n⟩:=k.blk;have aI:=n.cell 0;have aV:=n.lt;obtain ⟨v,V,u⟩:=hqq3 o k z;clear k o z n;by_cases aO:c < a
    · obtain ⟨b,y⟩:∃b,a=b+1:=⟨a - 1,by omega⟩;obtain ⟨s,ad,C,D,E⟩:=ah.out f b (by rw [<-y];exact u.out);have aM:IntKind.i64.wrap ((a:Int) - 1)=(b:Int):=(by rw [wI0];omega);obtain ⟨W,X,Y⟩:=hqq3 C D E;have a2:c<=b:=oM;have aP:b < a:=oM;clear C D E y;go_wp2_with fail;refine (mY i gk _ f s wr V.out.walk W.out ag.out (by rw [I.out];omega)).mono ?_;rintro m b4 ⟨rfl,F⟩;rw [X.out];have G:=v.out.trans F;have Z:=lhd G;clear F G;go_wp2_with fail;go_roundw
      case rel=>exact ⟨b,ad,a2,by omega,Y.out,by go_num,by first | rfl | trivial,Z.out⟩
      case measure=>simp [intOf];omega
    · obtain rfl:a=c:=oM;have a9:=ai.out f u.out;subst a9;go_wp2_with fail;go_ret;exact ⟨rfl,v.out⟩
 · subst H;have a4:c<=q:=a4;have aq:∃g∈t,g.2=q:=⟨_,aS,rfl⟩;have b1:decide ((q:Int)>=0)=true:=(by simp);go_wp2_with fail;have aa:=sZ gp (N+1) (N+1) t q ay az.out.perm aq;unfold yZ at aa;refine aa.mono ?_;rintro m b9 ⟨ae,ar,rfl,ao⟩;have A:=aA.out _ ar;have A:d[ae]?=some q:=A;have ax:=aj.out.below ao;obtain ⟨aD,aE⟩:=hqq2 A ax;have b2:=(aB.out ae q A).1;clear aa ar A ao ax aq aK aL aW b1;go_wp2_with fail;go_loopw [5,6] (fun g af wr=>∃a f:Nat,c<=a/\a<=N/\d[f]?=some a/\g=.int .i64 (a:Int)/\af=.int .i64 (f:Int)/\VB i w wr) (fun g _ _=>(intOf g).toNat)
   case atStart=>exact ⟨q,ae,a4,b2,aD.out,rfl,rfl,aE.out⟩
   case round=>
    obtain ⟨a,f,b0,aN,z,rfl,rfl,o⟩:=hrel;have k:=r.out.vis o.1;obtain ⟨b3,n⟩:=k.blk;have aI:=n.cell 0;have aV:=n.lt;obtain ⟨v,V,u⟩:=hqq3 o k z;clear k o z n;by_cases aO:c < a
    · obtain ⟨b,y⟩:∃b,a=b+1:=⟨a - 1,by omega⟩;obtain ⟨s,ad,C,D,E⟩:=ah.out f b (by rw [<-y];exact u.out);have aM:IntKind.i64.wrap ((a:Int) - 1)=(b:Int):=(by rw [wI0];omega);obtain ⟨W,X,Y⟩:=hqq3 C D E;have a2:c<=b:=oM;have aP:b < a:=oM;clear C D E y;go_wp2_with fail;refine (mY i gk _ f s wr V.out.walk W.out ag.out (by rw [I.out];omega)).mono ?_;rintro m b4 ⟨rfl,F⟩;rw [X.out];have G:=v.out.trans F;have Z:=lhd G;clear F G;go_wp2_with fail;go_roundw
      case rel=>exact ⟨b,ad,a2,by omega,Y.out,by go_num,by first | rfl | trivial,Z.out⟩
      case measure=>simp [intOf];omega
    · obtain rfl:a=c:=oM;have a9:=ai.out f u.out;subst a9;go_wp2_with fail;go_ret;exact ⟨rfl,v.out⟩
end
section
open Go.RowKit Go.Shelf
def VisF.mono {F G w w'} (b:VisF F w w') (e:∀a,a < w.heap.size->F a->G a):VisF G w w':=⟨b.os,b.tape,b.output,b.size,fun a c f=>b.block a c fun d=>f (e a c d)⟩
def VisF.trans' {b d w w1 w'} (g:VisF b w w1) (l:VisF d w1 w') (k:∀a,a < w.heap.size->d a->b a):VisF b w w':=by
 have i:=VisF.trans (F:=fun a=>b a∨w.heap.size<=a) (g.mono fun a _ c=>.inl c) (l.mono fun a _ f=>by
  by_cases e:a < w.heap.size;exact .inl (k a e f)
  · exact .inr oM)
 exact i.mono fun a n c=>c.elim id fun m=>by omega
structure LF (B:Nat) (w w':World) (own own':Nat->Nat):Prop where
 old:∀b,b < w.heap.size->own' b=own b
 vis:VisF (fun b=>own b≠0) w w'
 keep:Keep (fun b=>B<=b) w w'
def LF.refl (B w own):LF B w w own own:=⟨fun _ _=>rfl,VisF.of_vis (Vis.refl w),kf _ _⟩
def LF.trans {B w w1 w' own e own'} (a:LF B w w1 own e) (d:LF B w1 w' e own'):LF B w w' own own':=by
 have g:=a.keep.size;refine ⟨fun b c=>(d.old b oM).trans (a.old b c),a.vis.trans' d.vis fun b c f=>?_,a.keep.trans d.keep⟩;rw [<-a.old b c];exact f
def LF.of_vb {B w w' own} (a:VB B w w'):LF B w w' own own:=⟨fun _ _=>rfl,VisF.of_vis a.1,a.2⟩
structure LiveM (w:World) (B:Nat) (own:Nat->Nat) (gl gk gp rate:Nat) (mv:Int) (R P:Nat) (L T:List Nat) (pr:List (Nat×Nat)):Prop where
 blk:Bk w gl 89 #[gk,gp,(rate:Int),(mv:Int)]
 col:own gl=3
 walk:WalkE w B own gk L T
 perm:PermE w (fun b=>own b=1) gp R P pr
section
variable {w w' : World} {B : Nat} {own own' : Nat -> Nat} {gl gk gp rate : Nat} {mv : Int} {R P R' P' : Nat} {L T L' T' : List Nat} {pr pr' : List (Nat × Nat)}
def LiveM.bnd (b:LiveM w B own gl gk gp rate mv R P L T pr):∀a,own a≠0->B<=a/\a < w.heap.size:=b.walk.bnd
def LiveM.lo (a:LiveM w B own gl gk gp rate mv R P L T pr):B<=gl:=(a.bnd gl (by rw [a.col];decide)).1
def LiveM.gw (c:LiveM w B own gl gk gp rate mv R P L T pr):∃a b,Bk w gk 135 #[.pointer (some ⟨a,0,none⟩),.pointer (some ⟨b,0,none⟩)]/\WaveAt w B a L:=by
 obtain ⟨a,b,d,_,e,_⟩:=c.walk;exact ⟨a,b,d,e.at⟩
def LiveM.vis (a:LiveM w B own gl gk gp rate mv R P L T pr) (b:Vis w w'):LiveM w' B own gl gk gp rate mv R P L T pr:=
 ⟨b.bk a.blk dC dC,a.col,a.walk.vis b,a.perm.vis b⟩
def LiveM.walkOp (c:LiveM w B own gl gk gp rate mv R P L T pr) (f:WalkE w' B own' gk L' T') (a:Grew w w' own own'):LiveM w' B own' gl gk gp rate mv R P L' T' pr/\LF B w w' own own':=by
 have e:=c.bnd;refine ⟨⟨a.keep.bk c.blk (fun d=>by have:=c.col;omega),by rw [a.old _ c.blk.lt];exact c.col,f,(c.perm.keep a.keep fun b d=>by omega).mono fun b _ d=>?_⟩,a.old,VisF.of_keep (a.keep.mono fun b _ d=>by omega),a.keep.mono fun b _ d=>(e b oM).1⟩;rw [a.old b (e b oM).2];exact d
def LiveM.permOp (c:LiveM w B own gl gk gp rate mv R P L T pr) (m:PermE w' (Gw (fun a=>own a=1) w.heap.size) gp R' P' pr') (e:Keep (fun a=>own a=1) w w'):LiveM w' B (dB own w.heap.size w'.heap.size 1) gl gk gp rate mv R' P' L T pr'/\LF B w w' own (dB own w.heap.size w'.heap.size 1):=by
 have g:=c.bnd;have k:∀a,a < w.heap.size->dB own w.heap.size w'.heap.size 1 a=own a:=fun a i=>by unfold dB;rw [zBx i]
 have o:B<=w.heap.size:=by have:=c.lo;have:=c.blk.lt;omega
 have p:=e.size;refine ⟨⟨e.bk c.blk (fun b=>by have:=c.col;omega),by rw [k _ c.blk.lt];exact c.col,(c.walk.far e fun a b=>⟨by omega,by omega⟩).paint (fun a i n=>?_) (fun a d=>?_),m.mono fun a i b=>?_⟩,k,VisF.of_keep (e.mono fun a _ b=>by omega),e.mono fun a _ b=>(g a oM).1⟩;by_cases f:a < w.heap.size;exact k a f;have:=(g a oM).2;omega;unfold dB at d;by_cases f:a < w.heap.size;rw [zBx f] at d;have:=g a d;exact ⟨this.1,by omega⟩;rw [zBw f] at d;by_cases l:a < w'.heap.size;exact ⟨by omega,l⟩;rw [zBw l] at d;exact absurd rfl d
 · rcases b with b | b;rw [k a (g a oM).2];exact b
   · unfold dB;rw [zBw oM,zBx i]
def LiveM.setMv (c:LiveM w B own gl gk gp rate mv R P L T pr) (f):LiveM (w.setCell ⟨gl,3,none⟩ (.int .i64 f)) B own gl gk gp rate f R P L T pr/\LF B w (w.setCell ⟨gl,3,none⟩ (.int .i64 f)) own own:=by
 have e:Keep (fun a=>a=gl) w (w.setCell ⟨gl,3,none⟩ (.int .i64 f)):=ka (F:=fun a=>a=gl) (kf _ _) (p:=⟨gl,3,none⟩) (.inl rfl) _;have i:=c.col;refine ⟨⟨c.blk.set 3 _,c.col,c.walk.far e fun a b=>?_,c.perm.keep e fun a b g=>?_⟩,fun _ _=>rfl,VisF.of_keep (e.mono fun a _ b=>?_),e.mono fun a _ b=>?_⟩;have g:a=gl:=b;subst g;exact ⟨by omega,by omega⟩;have d:a=gl:=g;subst d;omega;have d:a=gl:=b;subst d;show own a≠0;omega;have d:a=gl:=b;subst d;exact c.lo
def LiveM.len (b:LiveM w B own gl gk gp rate mv R P L T pr):LvW w B gl L∨¬T.Perm L:=by
 by_cases a:T.Perm L;exact .inl ⟨gk,_,_,_,b.blk,b.walk.at a⟩;exact .inr a
def LiveM.permR (g:LiveM w B own gl gk gp rate mv R P L T pr):PermR w gp R P pr:=by
 obtain ⟨⟨f,n,o,p,m,k,d,l,e,a,b⟩,c,q⟩:=g.perm;rw [b] at c;have i:=List.pairwise_map.1 c;have r:=iK a.nd a.at_.lt;exact ⟨0,f,n,o,p,m,k,d,l,e,a.at_,i,a.sz,by have:=a.sz;omega,b⟩
def LiveM.g (a:LiveM w B own gl gk gp rate mv R R L T pr) (b:T.Perm L):LiveG w B gl gk gp rate R L pr:=⟨⟨mv,a.blk⟩,a.walk.at b,a.permR⟩
end
section
variable {w : World} {B : Nat} {own : Nat -> Nat} {gl gk gp rate : Nat} {mv : Int} {R P : Nat} {L T : List Nat} {pr : List (Nat × Nat)}
def wP (a b:Nat) (c:LiveM w B own gl gk gp rate mv R P L T pr) (g:L[a]?=some b) (f:∀o∈L,o < 257) (n:L.length<=1000) (m:T.length<=1000):
 Calls prog 103 #[gl,(a:Int)] w fun e w'=>e=.returned (.int .i64 ((rS L T b a:Nat):Int))/\VB B w w':=by
 have d:=pY B gk L T a b w c.walk.atT g f n m;have p:=c.blk.cell 0;obtain ⟨q,i⟩:=eqx (rS L T b a);rw [i] at d⊢;clear c g f i;go_enter func103,ntmps103;go_wp2_with fail;refine d.mono ?_;rintro e w' ⟨rfl,k⟩;have l:=lhd k;clear d k;go_wp2_with fail;go_ret;exact ⟨rfl,l.out⟩
def oH (b:Nat) (w) (gl:Nat):
 Calls prog 92 #[gl,o0,(b:Int)] w fun a w'=>a=.returned (.int .i64 (-1))/\w=w':=by
 go_enter func92,ntmps92;go_wp2_with fail;go_ret;exact ⟨rfl,rfl⟩
def qY (c a b:Nat) (d:LiveM w B own gl gk gp rate mv R P L T pr) (r:0 < c) (i:L[a]?=some b) (g:∀p∈L,p < 257) (o:L.length<=1000) (n:T.length<=1000):
 Calls prog 92 #[gl,(c:Int),(a:Int)] w fun f w'=>f=.returned (.int .i64 ((rS L T b a:Nat):Int))/\VB B w w':=by
 have e:=pY B gk L T a b w d.walk.atT i g o n;have q:=d.blk.cell 0;have s:((c:Int)==0)=false:=by rw [zCb];omega
 obtain ⟨t,k⟩:=eqx (rS L T b a);rw [k] at e⊢;clear d i g k;go_enter func92,ntmps92;go_wp2_with fail;refine e.mono ?_;rintro f w' ⟨rfl,l⟩;have m:=lhd l;clear e l;go_wp2_with fail;go_ret;exact ⟨rfl,m.out⟩
end
def inI (a b:Int):Int:=if a>=b then a+1 else a
def aBb (a b:Int):Int:=if a > b then a - 1 else a
def wJ (b a:Nat):inI (b:Int) (a:Int)=((inR b a:Nat):Int):=by
 unfold inI inR;split <;> split <;> omega
def lV (b a:Nat):aBb (b:Int) (a:Int)=((bB b a:Nat):Int):=by
 unfold aBb bB;split <;> split <;> omega
def aFP (a:Nat):inI (-1) (a:Int)=-1:=by unfold inI;rw [zBw oM]
def aCN (a:Nat):aBb (-1) (a:Int)=-1:=by unfold aBb;rw [zBw oM]
def jZ (a b w) (f:-1000000<=a/\a<=1000000):
 Calls prog 106 #[(a:Int),(b:Int)] w fun d w'=>d=.returned (.int .i64 (inI a b))/\w=w':=by
 unfold inI;by_cases c:a>=b
 · rw [zBx c];have e:wrap64 (a+1)=a+1:=dN oM oM;go_enter func106,ntmps106;go_wp2_with fail;go_ret;exact ⟨rfl,rfl⟩
 · rw [zBw c];go_enter func106,ntmps106;go_wp2_with fail;go_ret;exact ⟨rfl,rfl⟩
def mI (a b w) (f:-1000000<=a/\a<=1000000):
 Calls prog 100 #[(a:Int),(b:Int)] w fun d w'=>d=.returned (.int .i64 (aBb a b))/\w=w':=by
 unfold aBb;by_cases c:a > b
 · rw [zBx c];have e:IntKind.i64.wrap (a - 1)=a - 1:=(by rw [wI0];omega);go_enter func100,ntmps100;go_wp2_with fail;go_ret;exact ⟨rfl,rfl⟩
 · rw [zBw c];go_enter func100,ntmps100;go_wp2_with fail;go_ret;exact ⟨rfl,rfl⟩
def aFv (a d b:Nat) (w) (r:0 < a∨¬d < b) (q:a<=1000000):
 Calls prog 163 #[(a:Int),(d:Int),(b:Int)] w fun l w'=>l=.returned (.int .i64 ((aJl a d b:Nat):Int))/\w=w':=by
 unfold aJl;by_cases k:d < b
 · obtain ⟨c,p⟩:∃c,a=c+1:=⟨a - 1,by omega⟩;subst p;have o:(d:Int) < (b:Int):=oM;have m:IntKind.i64.wrap (((c+1:Nat):Int) - 1)=(c:Int):=(by rw [wI0];omega);obtain ⟨a,i⟩:=eqx (c+1);rw [i] at m⊢;have e:(if d < b then a - 1 else a)=c:=(by rw [zBx k];omega);simp only [e];by_cases f:b<=c
   · have g:(c:Int)>=(b:Int):=oM;have n:wrap64 ((c:Int)+1)=((c+1:Nat):Int):=(by rw [dN oM oM];rfl);rw [zBx f];clear e i;go_enter func163,ntmps163;go_wp2_with fail;go_ret;exact ⟨rfl,rfl⟩
   · have g:¬(c:Int)>=(b:Int):=oM;rw [zBw f];clear e i;go_enter func163,ntmps163;go_wp2_with fail;go_ret;exact ⟨rfl,rfl⟩
 · have o:¬(d:Int) < (b:Int):=oM;have e:(if d < b then a - 1 else a)=a:=(by rw [zBw k]);simp only [e];by_cases f:b<=a
   · have g:(a:Int)>=(b:Int):=oM;have n:wrap64 ((a:Int)+1)=((a+1:Nat):Int):=(by rw [dN oM oM];rfl);rw [zBx f];clear e;go_enter func163,ntmps163;go_wp2_with fail;go_ret;exact ⟨rfl,rfl⟩
   · have g:¬(a:Int)>=(b:Int):=oM;rw [zBw f];clear e;go_enter func163,ntmps163;go_wp2_with fail;go_ret;exact ⟨rfl,rfl⟩
def aCb (gl d e f mv a b w) (c:Bk w gl 89 #[d,e,f,(mv:Int)]) (l:0<=a) (m:a<=b):
 Calls prog 91 #[gl,(a:Int),(b:Int)] w fun g w'=>g=.returned (.int .i64 0)/\w'=w.setCell ⟨gl,3,none⟩ (.int .i64 0):=by
 have i:w.cell? ⟨gl,3,none⟩=some (.int .i64 mv):=(c.cell 3).trans rfl;have k:=c.frozen 3;have n:decide (a < 0)=false:=zBy oM;have o:¬a > b:=oM;have p:¬b < a:=oM;clear c;go_enter func91,ntmps91;go_wp2_with fail;go_ret;exact ⟨rfl,rfl⟩
def aOf (R:List Nat) (a:Nat):Int:=if a=0 then -1 else ((ro R (a - 1):Nat):Int)
def aDe (R j):aOf R (j+1)=((ro R j:Nat):Int):=by unfold aOf;rw [zBw oM,zBb]
structure ReoI (w0 wr:World) (B:Nat) (lM own:Nat->Nat) (gl gk gp rate:Nat) (mv:Int) (S T:List Nat) (N i:Nat) (R:List Nat) (pr0 pr:List (Nat×Nat)):Prop where
 near:Near S R N i
 live:LiveM wr B own gl gk gp rate mv (N+1) (N+1) (aH S R) T pr
 tal:T.Perm (aH S R)
 right:∀x∈pr,R[x.1]?=some x.2
 plc:∀p,(∃x∈pr,x.2=p)↔∃x∈pr0,x.2=p
 ne:0 < i->pr≠ []
 lf:LF B w0 wr lM own
def lX {L T} (c:T.Perm L) (b a):rS L T b a=cL L b a:=by
 unfold rS cL;rw [c.countP_eq]
section
variable {w0 wr : World} {B : Nat} {lM own : Nat -> Nat} {gl gk gp rate : Nat} {mv : Int} {S T : List Nat} {N j : Nat} {R : List Nat} {pr0 pr : List (Nat × Nat)}
def aIn (b:Near S R N j) {a} (c:a<=N):(aH S R)[ro R a]?=some (bM S a):=by
 unfold aH;rw [zAf,cE (b.mem.2 c)];rfl
def aIm (b:Near S R N (j+1)) (d:j < N) (a:ro R j=tgt S R j):Near S R N 0:=by
 refine aFJ b d rfl (List.Perm.refl R) a (fun g e f=>?_) 0 (.inr ⟨a,rfl⟩);have i:ro R g≠ro R j:=fun c=>f (fC e (b.mem.2 oM) c);rw [<-a];unfold inR bB;split <;> split <;> omega
def lR (a:Near S R N (j+1)) (c:j < N):Near S (aV (aF R (ro R j)) (tgt S R j) j) N j/\ro (aV (aF R (ro R j)) (tgt S R j) j) j=tgt S R j/\(∀b,b<=N->b≠j->ro (aV (aF R (ro R j)) (tgt S R j) j) b=inR (bB (ro R b) (ro R j)) (tgt S R j))/\(aV (aF R (ro R j)) (tgt S R j) j).Perm R:=by
 have k:=aHP a c;obtain ⟨d,e,f⟩:=vY a.nodup (t:=tgt S R j) (cE (a.mem.2 (show j<=N by omega))) (by rw [a.len];exact k);exact ⟨aFJ a c rfl d e f j (.inl rfl),e,fun b g i=>f b (a.mem.2 g) i,d⟩
def aGu (d:Near S R N (j+1)) (k:j < N) (l:∀b∈pr,R[b.1]?=some b.2):∀b∈pr.map (fun b=>(mvR (ro R j) (tgt S R j) b.1,b.2)),(aV (aF R (ro R j)) (tgt S R j) j)[b.1]?=some b.2:=fun b m=>by
 obtain ⟨a,n,rfl⟩:=zAy.1 m;have i:=l a n;have f:ro R a.2=a.1:=gJ d.nodup i;have g:a.2<=N:=d.mem.1 (zAd i);obtain ⟨p,q,r,s⟩:=lR d k;show (aV (aF R (ro R j)) (tgt S R j) j)[mvR (ro R j) (tgt S R j) a.1]?=some a.2;have o:mvR (ro R j) (tgt S R j) a.1=ro (aV (aF R (ro R j)) (tgt S R j) j) a.2:=by
  unfold mvR;by_cases e:a.1=ro R j
  · have c:a.2=j:=fC (d.mem.2 g) (d.mem.2 oM) (by rw [f,e]);rw [zBx e,c,q]
  · have c:a.2≠j:=fun c=>e (by rw [<-f,c]);rw [zBw e,r _ g c,f]
 rw [o];exact cE (p.mem.2 g)
def xE {w' own' g pr'} (a:ReoI w0 wr B lM own gl gk gp rate mv S T N (j+1) R pr0 pr) (f:j < N) (k:LiveM w' B own' gl gk gp rate g (N+1) (N+1) (aV (aF (aH S R) (ro R j)) (tgt S R j) (bM S j)) T pr') (d:pr'.Perm (pr.map fun b=>(mvR (ro R j) (tgt S R j) b.1,b.2))) (i:LF B wr w' own own'):
 ReoI w0 w' B lM own' gl gk gp rate g S T N j (aV (aF R (ro R j)) (tgt S R j) j) pr0 pr':=by
 obtain ⟨n,s,t,o⟩:=lR a.near f;have l:aH S (aV (aF R (ro R j)) (tgt S R j) j)=aV (aF (aH S R) (ro R j)) (tgt S R j) (bM S j):=aEI (cE (a.near.mem.2 oM));refine ⟨n,by rw [l];exact k,a.tal.trans ?_,fun b c=>aGu a.near f a.right b (d.subset c),fun p=>?_,fun r e=>?_,a.lf.trans i⟩;unfold aH;exact (o.map _).symm;rw [<-a.plc p];constructor;rintro ⟨b,c,rfl⟩;obtain ⟨q,m,e⟩:=zAy.1 (d.subset c);exact ⟨q,m,by rw [<-e]⟩;rintro ⟨b,c,rfl⟩;exact ⟨_,d.symm.subset (zAy.2 ⟨b,c,rfl⟩),rfl⟩;subst e;have:=d.length_eq;simp at this;exact a.ne oM (zBk this.symm)
end
def aKb {S R N a} (b:Near S R N (a+2)) (c:a+1 < N):((inR (bB (ro R a) (ro R (a+1))) (tgt S R (a+1)):Nat):Int)=aOf (aV (aF R (ro R (a+1))) (tgt S R (a+1)) (a+1)) (a+1):=by
 rw [aDe,(lR b c).2.2.1 a oM oM]
def Grew.after {w c f own e} (k:∀a,own a≠0->a < w.heap.size) (d:Keep (fun a=>own a=2∨16<=own a) w c) (b:Grew c f own e):Grew w f own e:=by
 have l:=d.size;refine ⟨fun a p=>b.old a oM,fun a o i=>?_,d.trans b.keep⟩;by_cases g:a < c.heap.size;have m:=b.old a g;have n:=k a oM;omega;exact b.new a oM i
def jC (w0:World) (B:Nat) (lM:Nat->Nat) (gl gk gp rate:Nat) (S T:List Nat) (N:Nat) (pr0:List (Nat×Nat)) (a:Ending) (w':World):Prop:=
 a=.returned (.tuple #[])/\∃own mv R pr,ReoI w0 w' B lM own gl gk gp rate mv S T N 0 R pr0 pr
def fA (w0 w B lM cp gl gk gp rate co S T N aE bn pr0 cq) (a8:ReoI w0 w B lM cp gl gk gp rate co S T N aE bn pr0 cq) (cF:aE<=N) (cW:N<=127) (b:∀aB∈S,aB < 257):
 Calls prog 99 #[gl,(aE:Int),.int .i64 ((ro bn aE:Nat):Int),(aOf bn aE:Int)] w (jC w0 B lM gl gk gp rate S T N pr0):=by
 obtain ⟨c0,cs⟩:=hqq2 a8 b;clear a8 b;unfold jC;go_enter func99,ntmps99;go_wp2_with fail;go_loopw [1,2,3] (fun aB cS cT wr=>∃(W:Nat) (own:Nat->Nat) (mv:Int) (R:List Nat) (pr:List (Nat×Nat)),W<=N/\aB=.int .i64 (W:Int)/\cS=.int .i64 ((ro R W:Nat):Int)/\cT=.int .i64 (aOf R W)/\ReoI w0 wr B lM own gl gk gp rate mv S T N W R pr0 pr) (fun aB _ _ _=>(intOf aB).toNat)
 case atStart=>exact ⟨aE,cp,co,bn,cq,cF,rfl,rfl,rfl,c0.out⟩
 case round=>
  clear c0;obtain ⟨W,own,mv,R,pr,cX,rfl,rfl,rfl,ak⟩:=hrel;rcases W with _ | j
  · have v:=lhd ak;clear ak;go_wp2_with fail;go_end0;exact ⟨rfl,own,mv,R,pr,v.out⟩
  · have Y:j < N:=oM;have K:=ak.near;obtain ⟨L,ae⟩:=eqx (aH S R);have bw:L.length=N+1:=(by rw [<-ae,bW,K.len]);have bv:∀aB∈L,aB < 257:=(by rw [<-ae];exact dR cs.out);have c7:T.length=N+1:=(by rw [ak.tal.length_eq,ae,bw]);have c6:S.length=N+1:=K.endk.len;have ax:=aIn K (show j+1<=N by omega);have aZ:=aIn K (show j<=N by omega);rw [bE oM] at ax;rw [ae] at ax aZ;have bf:rS L T (S.getD j 0) (ro R (j+1))=tgt S R j:=(by rw [<-ae,lX ak.tal];rfl);have cn:=aHP K Y;have cm:=fun q=>aIm K Y q;have bs:=ak.live;rw [ae] at bs;rw [aDe];have bx:ro R j < N+1:=(by have:=List.idxOf_lt_length_iff.2 (K.mem.2 (show j<=N by omega));rw [K.len] at this;exact this);have bC:ro R (j+1) < N+1:=(by have:=List.idxOf_lt_length_iff.2 (K.mem.2 (show j+1<=N by omega));rw [K.len] at this;exact this);obtain ⟨o,bK⟩:=eqx (tgt S R j);obtain ⟨c,bp⟩:=eqx (ro R j);obtain ⟨aO,br⟩:=eqx (ro R (j+1));obtain ⟨aN,bA⟩:=eqx (S.getD j 0);obtain ⟨g,bD⟩:=eqx (bM S j);rw [bK] at bf cn;rw [bp] at aZ bx;rw [br] at bf ax bC;rw [bA] at bf ax;rw [bD] at aZ;rw [bp,br];have bL:=wP aO aN bs ax bv oM oM;rw [bf] at bL;have cA:IntKind.i64.wrap (((j+1:Nat):Int) - 1)=(j:Int):=(by rw [wI0];omega);obtain ⟨aG,bG⟩:=eqx (j+1);rw [bG] at cA⊢;have cZ:decide ((aG:Int) > 0)=true:=zBz oM;have cY:0 < aG:=oM;obtain ⟨v,cx,aD,r,A,cr,a3,z,C⟩:=hqq9 ak bs ae bw bv ax aZ bK bp;obtain ⟨cw,cv,bk,aw,cu,ct,cz⟩:=hqq7 br bA bD bG c7 c6 cm;have d1:o<=N:=oM;clear ak bs ae bw bv ax aZ bK bp br bA bD bG c7 c6 cm K bf cn;go_wp2_with fail;refine bL.mono ?_;clear bL;rintro q w1 ⟨rfl,bN⟩;have ch:=cx.out.vis bN.1;have cb:=LF.of_vb (own:=own) bN;obtain ⟨aK,bu⟩:=hqq2 ch cb;clear ch cb bN;by_cases c9:c=o
    · have cD:((c:Int)==(o:Int))=true:=(by rw [c9];simp);go_wp2_with fail;refine bodyPost_ret (results_none rfl _ _ _) rfl ?_;have bo:=v.out;exact ⟨rfl,own,mv,R,pr,cz.out (by rw [C.out,z.out];exact c9),by rw [aD.out];exact aK.out,bo.tal,bo.right,bo.plc,fun V=>absurd V (zCl 0),bo.lf.trans bu.out⟩
    · have cD:((c:Int)==(o:Int))=false:=(by rw [zCb];omega);obtain ⟨cB,cU,b6,bg⟩:=aK.out.gw;have bU:=aK.out.blk.cell 0;have bZ:=b6.cell 0;have cf:=eI B cB L aO aN w1 bg (by rw [r.out];exact bC) (by have V:=cr.out;rw [zAa (by rw [r.out];exact bC)] at V;injection V) A.out (by rw [r.out];omega);clear b6 bg;go_wp2_with fail;refine cf.mono ?_;clear cf;rintro q e ⟨rfl,bO⟩;have ci:=aK.out.vis bO.1;have cc:=bu.out.trans (LF.of_vb (own:=own) bO);obtain ⟨bl,c1⟩:=hqq2 ci cc;clear ci cc bO bU bZ;obtain ⟨cC,cV,b6,bg⟩:=bl.out.gw;have bU:=bl.out.blk.cell 0;have bZ:=b6.cell 0;have cg:=eI B cC L c g e bg (by rw [r.out];exact bx) (by have V:=a3.out;rw [zAa (by rw [r.out];exact bx)] at V;injection V) A.out (by rw [r.out];omega);clear b6 bg aK bu;go_wp2_with fail;refine cg.mono ?_;clear cg;rintro q Q ⟨rfl,bP⟩;have cj:=bl.out.vis bP.1;have cd:=c1.out.trans (LF.of_vb (own:=own) bP);obtain ⟨l,aJ⟩:=hqq2 cj cd;clear cj cd bP bU bZ bl c1;rcases zBa j with bF | bF
      · have cG:decide ((aG:Int) > 1)=false:=zBy (by have:=aw.out;omega);have cH:¬(aG:Int) > 1:=(by have:=aw.out;omega);have ay:aOf (aV (aF R (ro R j)) (tgt S R j) j) j=-1:=(by rw [bF];rfl);have bm:=lhd ay;clear ay bF;have F:Q.cell? gl=some (.pointer (some gk)):=(l.out.blk.cell 0).trans rfl;have I:=l.out.blk.lt;have J:¬(own gl=2∨16<=own gl):=(by have:=l.out.col;omega);have bc:∀a,Q.heap.size<=a->own a≠1:=fun a ag q=>by have:=(l.out.bnd a oM).2;omega
        go_wp2_with fail;refine wp_region_any kR ?_;refine cK 11 [60,61,62,63,64,65,66,67,68,69,70] (fun a=>own a=2∨16<=own a) 10 [10] (fun e=>WalkE e B own gk L T) (fun O e=>O=.int .i64 (g:Int)/\∃d,WalkE e B d gk (aF L c) T/\Grew Q e own d) [is gl,is gl,is gl,is gk,is (o:Int),is gl,is gl,is gl,is gk,is (c:Int),cJ] _ _ rfl dC kR kR kR ((l.out.walk.vis (kc (kn bR 1)))) (fun e Q a8 _ b3=>a8.vis (kc b3)) (fun _ _ _ ⟨aW,d,aX,G⟩ ar=>⟨aW,d,aX.vis (kc ar),G.old,G.new,G.keep.trans (kF ar)⟩) tA0 ?_ ?_
        · refine bJ ?_;refine pH3 0 (.pointer (some gl)) ?_;refine pV3 0 60 ?_;refine pV3 1 61 ?_;refine pL3 2 62 (fun k b=>have b:Keep (fun a=>own a=2∨16<=own a) Q k:=kD b;((b.cell (p:=gl) I J).trans F:k.cell? gl=some (.pointer (some gk)))) ?_;refine pH3 8 (.int .i64 (o:Int)) ?_;refine pH3 0 (.pointer (some gl)) ?_;refine pV3 5 65 ?_;refine pV3 6 66 ?_;refine pL3 7 67 (fun k b=>have b:Keep (fun a=>own a=2∨16<=own a) Q k:=kD b;((b.cell (p:=gl) I J).trans F:k.cell? gl=some (.pointer (some gk)))) ?_;refine pH3 3 (.int .i64 (c:Int)) ?_;refine sC3 (fun _ k b b0 _ _ _ n _ _ _ H=>?_) ?_
          · replace b:Keep (fun a=>own a=2∨16<=own a) Q k:=kD b;have bd:=b0 rfl;have c3:_=_:=n 8 68 kR rfl;have c4:_=_:=n 9 69 kR rfl;go_simp;refine (iE B gk own L T c g k bd a3.out A.out (by rw [r.out];omega)).mono ?_;rintro q y ⟨rfl,d,aY,ad⟩;exact H _ _ (aT ad.keep) ⟨rfl,d,aY,Grew.after (fun a ag=>(l.out.bnd a ag).2) b ad⟩
          exact aC
        · intro E x m b n;replace b:Keep (fun a=>own a=2∨16<=own a) Q x:=kD b;have aP:E (.tmp 63)=.pointer (some gk):=n 3 63 dC rfl;have aQ:E (.tmp 64)=.int .i64 (o:Int):=n 4 64 dC rfl;have bj:(fun O e=>O=.int .i64 (g:Int)/\∃d,WalkE e B d gk (aF L c) T/\Grew Q e own d) (E (.tmp 70)) x:=n 10 70 dC rfl;simp only [zqq];rw [aP];rw [aQ];clear n;obtain ⟨c5,d,a9,ab⟩:=bj;obtain ⟨a1,a2⟩:=hqq2 a9 ab;clear a9 ab F I J bc b;change wpAny prog Region.Mode.any _ _ (1+m) (bX 11 12) _ x;rw [zCs 1 m];refine bQ (f:=m) (i:=11) kR ?_;refine bY rfl rfl ?_;generalize H:wpAny prog _ _ _ m _=K5;go_simp;have b2:=dD L (show c < L.length by rw [r.out];omega);refine (eY B gk d (aF L c) T o g x a1.out (A.out g (zAd a3.out)) (by have:=r.out;omega) (pE A.out) (by have:=r.out;omega)).mono ?_;rintro q U ⟨rfl,au,aa,ac⟩;subst H;refine bV kR ?_;obtain ⟨t,ah⟩:=l.out.walkOp aa (a2.out.trans ac);have aq:=cM (fun a=>au a=1) gp (N+1) (N+1) c o pr U t.perm oM oM oM oM (v.out.ne oM);have aS:U.cell? ⟨gl,1,none⟩=some (.pointer (some gp)):=(t.blk.cell 1).trans rfl;have b4:=t.blk.lt;obtain ⟨a6,a4⟩:=hqq2 t (aJ.out.trans ah);clear t ah aa ac a2 a1 b2;go_wp2_with fail;refine aq.mono ?_;clear aq;rintro q y ⟨rfl,⟨pr',ap,af⟩,al⟩;obtain ⟨am,ai⟩:=a6.out.permOp (af.mono fun a _ m=>.inl m) al;obtain ⟨aM,s,D⟩:=hqq3 ap am (a4.out.trans ai);clear am ai af al ap aS b4 a6 a4;obtain ⟨av,ao⟩:=eqx (dB au U.heap.size y.heap.size 1);rw [ao] at s D;have aU:y.cell? ⟨gl,3,none⟩=some (.int .i64 mv):=(s.out.blk.cell 3).trans rfl;have aR:=s.out.blk.frozen 3;have b5:=s.out.blk.lt;go_wp2_with fail;obtain ⟨an,aj⟩:=s.out.setMv (wrap64 (mv+1));obtain ⟨a7,a5⟩:=hqq2 an (D.out.trans aj);clear an aj aU aR b5 s D ao;generalize y.setCell ⟨gl,3,none⟩ (.int .i64 (wrap64 (mv+1)))=w9 at a7 a5⊢;go_wp2_with fail;go_roundw
          case rel=>have b8:LiveM w9 B av gl gk gp rate (wrap64 (mv+1)) (N+1) (N+1) (aV (aF (aH S R) (ro R j)) (tgt S R j) (bM S j)) T pr':=(by rw [aD.out,C.out,z.out,bk.out];exact a7.out);have be:=xE v.out Y b8 (by rw [C.out,z.out];exact aM.out) a5.out;have ba:=(lR v.out.near Y).2.1;exact ⟨j,av,wrap64 (mv+1),_,pr',by omega,rfl,by rw [ba,z.out],by rw [bm.out],be⟩
          case measure=>simp [intOf];have:=aw.out;omega
      · obtain ⟨a0,b9⟩:∃a0,j=a0+1:=⟨j - 1,by omega⟩;have cG:decide ((aG:Int) > 1)=true:=zBz (by have:=aw.out;omega);have cH:(aG:Int) > 1:=(by have:=aw.out;omega);have bb:Near S R N (a0+2):=(by have:=v.out.near;rwa [b9] at this);obtain ⟨aI,bh⟩:=aII bb oM;have ay:((inR (bB (ro R a0) (ro R j)) (tgt S R j):Nat):Int)=aOf (aV (aF R (ro R j)) (tgt S R j) j) j:=(by subst b9;exact aKb bb Y);have ca:S.getD a0 0=g:=(by have:=bk.out;rw [b9,bE (by have:=ct.out;omega)] at this;exact this);rw [<-b9] at aI bh;rw [show a0+2=j+1 by omega,ca,cv.out,C.out,cw.out,aD.out] at aI bh;rw [C.out,z.out] at ay;have bt:=wP c g l.out a3.out A.out (by rw [r.out];omega) (by rw [cu.out];omega);have c8:rS L T g c=cL L g c:=lX (by rw [<-aD.out];exact v.out.tal) g c;rw [c8] at bt;have cI:cL L g c<=N+1:=(by have:=wI L g c;rw [r.out] at this;exact this);obtain ⟨bT,cl⟩:=eqx (cL L g c);rw [cl] at aI bh bt cI;obtain ⟨M,bI⟩:=eqx (ro R a0);rw [bI] at aI ay;have d0:M<=N:=(by have cN:ro R a0 < R.length:=List.idxOf_lt_length_iff.2 (bb.mem.2 (show a0<=N by omega));rw [bb.len,bI] at cN;omega);obtain ⟨bm,c2,cy⟩:=hqq3 ay aI bh;clear ay aI bh bb ca c8 cl bI b9;go_wp2_with fail;refine bt.mono ?_;clear bt;rintro q u ⟨rfl,bS⟩;have ck:=l.out.vis bS.1;have ce:=aJ.out.trans (LF.of_vb (own:=own) bS);obtain ⟨l,aJ⟩:=hqq2 ck ce;clear ck ce bS;by_cases bq:aN=g
        · have cE:((aN:Int)==(g:Int))=true:=(by rw [bq];simp);have b1:aJl bT aO c=M:=by have:=c2.out;rwa [zBx bq] at this
          have bz:=aFv bT aO c u (by
           by_cases V:aO < c;exact .inl (cy.out bq V)
           · exact .inr V) oM
          rw [b1] at bz;clear b1;go_wp2_with fail;refine bz.mono ?_;clear bz;rintro q k ⟨rfl,rfl⟩;have F:u.cell? gl=some (.pointer (some gk)):=(l.out.blk.cell 0).trans rfl;have I:=l.out.blk.lt;have J:¬(own gl=2∨16<=own gl):=(by have:=l.out.col;omega);have bc:∀a,u.heap.size<=a->own a≠1:=fun a ag q=>by have:=(l.out.bnd a oM).2;omega
          go_wp2_with fail;refine wp_region_any kR ?_;refine cK 11 [60,61,62,63,64,65,66,67,68,69,70] (fun a=>own a=2∨16<=own a) 10 [10] (fun e=>WalkE e B own gk L T) (fun O e=>O=.int .i64 (g:Int)/\∃d,WalkE e B d gk (aF L c) T/\Grew u e own d) [is gl,is gl,is gl,is gk,is (o:Int),is gl,is gl,is gl,is gk,is (c:Int),cJ] _ _ rfl dC kR kR kR ((l.out.walk.vis (kc (kn bR 1)))) (fun e Q a8 _ b3=>a8.vis (kc b3)) (fun _ _ _ ⟨aW,d,aX,G⟩ ar=>⟨aW,d,aX.vis (kc ar),G.old,G.new,G.keep.trans (kF ar)⟩) tA0 ?_ ?_
          · refine bJ ?_;refine pH3 0 (.pointer (some gl)) ?_;refine pV3 0 60 ?_;refine pV3 1 61 ?_;refine pL3 2 62 (fun k b=>have b:Keep (fun a=>own a=2∨16<=own a) u k:=kD b;((b.cell (p:=gl) I J).trans F:k.cell? gl=some (.pointer (some gk)))) ?_;refine pH3 8 (.int .i64 (o:Int)) ?_;refine pH3 0 (.pointer (some gl)) ?_;refine pV3 5 65 ?_;refine pV3 6 66 ?_;refine pL3 7 67 (fun k b=>have b:Keep (fun a=>own a=2∨16<=own a) u k:=kD b;((b.cell (p:=gl) I J).trans F:k.cell? gl=some (.pointer (some gk)))) ?_;refine pH3 3 (.int .i64 (c:Int)) ?_;refine sC3 (fun _ k b b0 _ _ _ n _ _ _ H=>?_) ?_
            · replace b:Keep (fun a=>own a=2∨16<=own a) u k:=kD b;have bd:=b0 rfl;have c3:_=_:=n 8 68 kR rfl;have c4:_=_:=n 9 69 kR rfl;go_simp;refine (iE B gk own L T c g k bd a3.out A.out (by rw [r.out];omega)).mono ?_;rintro q y ⟨rfl,d,aY,ad⟩;exact H _ _ (aT ad.keep) ⟨rfl,d,aY,Grew.after (fun a ag=>(l.out.bnd a ag).2) b ad⟩
            exact aC
          · intro E x m b n;replace b:Keep (fun a=>own a=2∨16<=own a) u x:=kD b;have aP:E (.tmp 63)=.pointer (some gk):=n 3 63 dC rfl;have aQ:E (.tmp 64)=.int .i64 (o:Int):=n 4 64 dC rfl;have bj:(fun O e=>O=.int .i64 (g:Int)/\∃d,WalkE e B d gk (aF L c) T/\Grew u e own d) (E (.tmp 70)) x:=n 10 70 dC rfl;simp only [zqq];rw [aP];rw [aQ];clear n;obtain ⟨c5,d,a9,ab⟩:=bj;obtain ⟨a1,a2⟩:=hqq2 a9 ab;clear a9 ab F I J bc b;change wpAny prog Region.Mode.any _ _ (1+m) (bX 11 12) _ x;rw [zCs 1 m];refine bQ (f:=m) (i:=11) kR ?_;refine bY rfl rfl ?_;generalize H:wpAny prog _ _ _ m _=K5;go_simp;have b2:=dD L (show c < L.length by rw [r.out];omega);refine (eY B gk d (aF L c) T o g x a1.out (A.out g (zAd a3.out)) (by have:=r.out;omega) (pE A.out) (by have:=r.out;omega)).mono ?_;rintro q U ⟨rfl,au,aa,ac⟩;subst H;refine bV kR ?_;obtain ⟨t,ah⟩:=l.out.walkOp aa (a2.out.trans ac);have aq:=cM (fun a=>au a=1) gp (N+1) (N+1) c o pr U t.perm oM oM oM oM (v.out.ne oM);have aS:U.cell? ⟨gl,1,none⟩=some (.pointer (some gp)):=(t.blk.cell 1).trans rfl;have b4:=t.blk.lt;obtain ⟨a6,a4⟩:=hqq2 t (aJ.out.trans ah);clear t ah aa ac a2 a1 b2;go_wp2_with fail;refine aq.mono ?_;clear aq;rintro q y ⟨rfl,⟨pr',ap,af⟩,al⟩;obtain ⟨am,ai⟩:=a6.out.permOp (af.mono fun a _ m=>.inl m) al;obtain ⟨aM,s,D⟩:=hqq3 ap am (a4.out.trans ai);clear am ai af al ap aS b4 a6 a4;obtain ⟨av,ao⟩:=eqx (dB au U.heap.size y.heap.size 1);rw [ao] at s D;have aU:y.cell? ⟨gl,3,none⟩=some (.int .i64 mv):=(s.out.blk.cell 3).trans rfl;have aR:=s.out.blk.frozen 3;have b5:=s.out.blk.lt;go_wp2_with fail;obtain ⟨an,aj⟩:=s.out.setMv (wrap64 (mv+1));obtain ⟨a7,a5⟩:=hqq2 an (D.out.trans aj);clear an aj aU aR b5 s D ao;generalize y.setCell ⟨gl,3,none⟩ (.int .i64 (wrap64 (mv+1)))=w9 at a7 a5⊢;have Z:=mI (M:Int) (c:Int) w9 oM;rw [lV] at Z;have bH:bB M c<=200:=(by unfold bB;split <;> omega);obtain ⟨bi,aA⟩:=eqx (bB M c);rw [aA] at Z bH;have X:=jZ (bi:Int) (o:Int) w9 oM;rw [wJ] at X;have az:=bm.out;rw [aA] at az;have cO:decide ((M:Int)>=0)=true:=(by simp);have aL:=lhd az;obtain ⟨cP,b7⟩:=eqx (inR bi o);rw [b7] at X aL;clear az aA b7;go_wp2_with fail;refine Z.mono ?_;rintro q cQ ⟨rfl,rfl⟩;go_wp2_with fail;refine X.mono ?_;rintro q cR ⟨rfl,rfl⟩;clear Z X;go_wp2_with fail;go_roundw
            case rel=>have b8:LiveM w9 B av gl gk gp rate (wrap64 (mv+1)) (N+1) (N+1) (aV (aF (aH S R) (ro R j)) (tgt S R j) (bM S j)) T pr':=(by rw [aD.out,C.out,z.out,bk.out];exact a7.out);have be:=xE v.out Y b8 (by rw [C.out,z.out];exact aM.out) a5.out;have ba:=(lR v.out.near Y).2.1;exact ⟨j,av,wrap64 (mv+1),_,pr',by omega,rfl,by rw [ba,z.out],by rw [aL.out,C.out,z.out],be⟩
            case measure=>simp [intOf];have:=aw.out;omega
        · have cE:((aN:Int)==(g:Int))=false:=(by rw [zCb];omega);have b1:bT=M:=(by have:=c2.out;rwa [zBw bq] at this);rw [b1];clear b1;have F:u.cell? gl=some (.pointer (some gk)):=(l.out.blk.cell 0).trans rfl;have I:=l.out.blk.lt;have J:¬(own gl=2∨16<=own gl):=(by have:=l.out.col;omega);have bc:∀a,u.heap.size<=a->own a≠1:=fun a ag q=>by have:=(l.out.bnd a oM).2;omega
          go_wp2_with fail;refine wp_region_any kR ?_;refine cK 11 [60,61,62,63,64,65,66,67,68,69,70] (fun a=>own a=2∨16<=own a) 10 [10] (fun e=>WalkE e B own gk L T) (fun O e=>O=.int .i64 (g:Int)/\∃d,WalkE e B d gk (aF L c) T/\Grew u e own d) [is gl,is gl,is gl,is gk,is (o:Int),is gl,is gl,is gl,is gk,is (c:Int),cJ] _ _ rfl dC kR kR kR ((l.out.walk.vis (kc (kn bR 1)))) (fun e Q a8 _ b3=>a8.vis (kc b3)) (fun _ _ _ ⟨aW,d,aX,G⟩ ar=>⟨aW,d,aX.vis (kc ar),G.old,G.new,G.keep.trans (kF ar)⟩) tA0 ?_ ?_
          · refine bJ ?_;refine pH3 0 (.pointer (some gl)) ?_;refine pV3 0 60 ?_;refine pV3 1 61 ?_;refine pL3 2 62 (fun k b=>have b:Keep (fun a=>own a=2∨16<=own a) u k:=kD b;((b.cell (p:=gl) I J).trans F:k.cell? gl=some (.pointer (some gk)))) ?_;refine pH3 8 (.int .i64 (o:Int)) ?_;refine pH3 0 (.pointer (some gl)) ?_;refine pV3 5 65 ?_;refine pV3 6 66 ?_;refine pL3 7 67 (fun k b=>have b:Keep (fun a=>own a=2∨16<=own a) u k:=kD b;((b.cell (p:=gl) I J).trans F:k.cell? gl=some (.pointer (some gk)))) ?_;refine pH3 3 (.int .i64 (c:Int)) ?_;refine sC3 (fun _ k b b0 _ _ _ n _ _ _ H=>?_) ?_
            · replace b:Keep (fun a=>own a=2∨16<=own a) u k:=kD b;have bd:=b0 rfl;have c3:_=_:=n 8 68 kR rfl;have c4:_=_:=n 9 69 kR rfl;go_simp;refine (iE B gk own L T c g k bd a3.out A.out (by rw [r.out];omega)).mono ?_;rintro q y ⟨rfl,d,aY,ad⟩;exact H _ _ (aT ad.keep) ⟨rfl,d,aY,Grew.after (fun a ag=>(l.out.bnd a ag).2) b ad⟩
            exact aC
          · intro E x m b n;replace b:Keep (fun a=>own a=2∨16<=own a) u x:=kD b;have aP:E (.tmp 63)=.pointer (some gk):=n 3 63 dC rfl;have aQ:E (.tmp 64)=.int .i64 (o:Int):=n 4 64 dC rfl;have bj:(fun O e=>O=.int .i64 (g:Int)/\∃d,WalkE e B d gk (aF L c) T/\Grew u e own d) (E (.tmp 70)) x:=n 10 70 dC rfl;simp only [zqq];rw [aP];rw [aQ];clear n;obtain ⟨c5,d,a9,ab⟩:=bj;obtain ⟨a1,a2⟩:=hqq2 a9 ab;clear a9 ab F I J bc b;change wpAny prog Region.Mode.any _ _ (1+m) (bX 11 12) _ x;rw [zCs 1 m];refine bQ (f:=m) (i:=11) kR ?_;refine bY rfl rfl ?_;generalize H:wpAny prog _ _ _ m _=K5;go_simp;have b2:=dD L (show c < L.length by rw [r.out];omega);refine (eY B gk d (aF L c) T o g x a1.out (A.out g (zAd a3.out)) (by have:=r.out;omega) (pE A.out) (by have:=r.out;omega)).mono ?_;rintro q U ⟨rfl,au,aa,ac⟩;subst H;refine bV kR ?_;obtain ⟨t,ah⟩:=l.out.walkOp aa (a2.out.trans ac);have aq:=cM (fun a=>au a=1) gp (N+1) (N+1) c o pr U t.perm oM oM oM oM (v.out.ne oM);have aS:U.cell? ⟨gl,1,none⟩=some (.pointer (some gp)):=(t.blk.cell 1).trans rfl;have b4:=t.blk.lt;obtain ⟨a6,a4⟩:=hqq2 t (aJ.out.trans ah);clear t ah aa ac a2 a1 b2;go_wp2_with fail;refine aq.mono ?_;clear aq;rintro q y ⟨rfl,⟨pr',ap,af⟩,al⟩;obtain ⟨am,ai⟩:=a6.out.permOp (af.mono fun a _ m=>.inl m) al;obtain ⟨aM,s,D⟩:=hqq3 ap am (a4.out.trans ai);clear am ai af al ap aS b4 a6 a4;obtain ⟨av,ao⟩:=eqx (dB au U.heap.size y.heap.size 1);rw [ao] at s D;have aU:y.cell? ⟨gl,3,none⟩=some (.int .i64 mv):=(s.out.blk.cell 3).trans rfl;have aR:=s.out.blk.frozen 3;have b5:=s.out.blk.lt;go_wp2_with fail;obtain ⟨an,aj⟩:=s.out.setMv (wrap64 (mv+1));obtain ⟨a7,a5⟩:=hqq2 an (D.out.trans aj);clear an aj aU aR b5 s D ao;generalize y.setCell ⟨gl,3,none⟩ (.int .i64 (wrap64 (mv+1)))=w9 at a7 a5⊢;have Z:=mI (M:Int) (c:Int) w9 oM;rw [lV] at Z;have bH:bB M c<=200:=(by unfold bB;split <;> omega);obtain ⟨bi,aA⟩:=eqx (bB M c);rw [aA] at Z bH;have X:=jZ (bi:Int) (o:Int) w9 oM;rw [wJ] at X;have az:=bm.out;rw [aA] at az;have cO:decide ((M:Int)>=0)=true:=(by simp);have aL:=lhd az;obtain ⟨cP,b7⟩:=eqx (inR bi o);rw [b7] at X aL;clear az aA b7;go_wp2_with fail;refine Z.mono ?_;rintro q cQ ⟨rfl,rfl⟩;go_wp2_with fail;refine X.mono ?_;rintro q cR ⟨rfl,rfl⟩;clear Z X;go_wp2_with fail;go_roundw
            case rel=>have b8:LiveM w9 B av gl gk gp rate (wrap64 (mv+1)) (N+1) (N+1) (aV (aF (aH S R) (ro R j)) (tgt S R j) (bM S j)) T pr':=(by rw [aD.out,C.out,z.out,bk.out];exact a7.out);have be:=xE v.out Y b8 (by rw [C.out,z.out];exact aM.out) a5.out;have ba:=(lR v.out.near Y).2.1;exact ⟨j,av,wrap64 (mv+1),_,pr',by omega,rfl,by rw [ba,z.out],by rw [aL.out,C.out,z.out],be⟩
            case measure=>simp [intOf];have:=aw.out;omega
def rZ (d f):∃a,eO d f a:=by
 have k:∀c,∃a,eO (d.take c) f a:=by
  intro c
  induction c with
  | zero=>exact ⟨-1,.inl ⟨rfl,fun e g=>by simp at g⟩⟩
  | succ c i=>
    obtain ⟨a,b⟩:=i;rw [zAv];cases l:d[c]? with
    | none=>exact ⟨a,by simpa using b⟩
    | some e=>exact ⟨_,xQ b e.1 e.2⟩
 obtain ⟨a,b⟩:=k d.length;rw [List.take_length] at b;exact ⟨a,b⟩
def aIW {g i l m} (n:eO g i l) (e:eO g i m):l=m:=by
 rcases n with ⟨rfl,b⟩|⟨k,f,rfl,b,o⟩;rcases e with ⟨rfl,_⟩|⟨d,c,rfl,a,_⟩;rfl;have:=b d c;omega;rcases e with ⟨rfl,a⟩|⟨d,c,rfl,a,p⟩;have:=a k f;omega;have:=o d c a;have:=p k f b;omega
def jD (gp R P a b d w) (e:PermR w gp R P a) (g:eO a b d):
 Calls prog 110 #[gp,(b:Int)] w fun c w'=>c=.returned (.int .i64 d)/\Below w.heap.size w w':=by
 refine (qA gp R P a b w e).mono ?_;rintro c w' ⟨k,rfl,i,f⟩;exact ⟨by rw [aIW g i],f⟩
def PermE.len {w c gp R P pr} (b:PermE w c gp R P pr):pr.length<=R:=by
 have d:(pr.map fun a=>a.1).Nodup:=by rw [List.Nodup,List.pairwise_map];exact b.2.1.imp fun {k l} f=>Nat.ne_of_lt f
 have e:=iK (n:=R) d fun m g=>by obtain ⟨a,i,rfl⟩:=zAy.1 g;exact (b.2.2 a i).1
 simpa using e
def Smp (pr:List (Nat×Nat)) (a:Nat):Prop:=∃b∈pr,b.2=a
structure FG (S:Nat->Prop) (r N at_:Nat) (q:Int):Prop where
 zero:S 0
 le:∀s,S s->s<=N
 at_q:q=-1∨q=((N+1:Nat):Int)∨∃s:Nat,S s/\q=(s:Int)
 fine:∀s:Nat,S s->((s:Int) < q∨at_<=s)->s+r<=N->∃s',S s'/\s < s'/\s'<=s+r
 gap2:∀s:Nat,S s->s+2*r<=N->∃s',S s'/\s < s'/\s'<=s+2*r
def qD (S:Nat->Prop) (c N:Nat):Prop:=∀a:Nat,S a->a+c<=N->∃b,S b/\a < b/\b<=a+c
structure PreGap (S:Nat->Prop) (r N at_:Nat):Prop where
 le:∀s,S s->s<=N
 fine:∀s:Nat,(S s∨s=0)->(s+r < at_∨at_<=s)->s+r<=N->∃s',S s'/\s < s'/\s'<=s+r
 gap2:∀s:Nat,(S s∨s=0)->s+2*r<=N->∃s',S s'/\s < s'/\s'<=s+2*r
def FG.congr {S b e N c d} (g:FG S e N c d) (f:∀a,b a↔S a):FG b e N c d:=by
 have:b=S:=funext fun a=>propext (f a);rw [this];exact g
def xW {S i d N f t} (m:PreGap S d N f) (g:∀r,i r↔S r∨r=0) (y:1<=d) (c:(t=-1/\∀a,i a->a < f - 2*d)∨∃e:Nat,i e/\t=(e:Int)/\f - 2*d<=e/\∀s,i s->f - 2*d<=s->e<=s):FG i d N f t:=by
 refine ⟨(g 0).2 (.inr rfl),fun a b=>?_,?_,fun a b l q=>?_,fun a b q=>?_⟩;rcases (g a).1 b with b | rfl;exact m.le a b;exact zAp _;rcases c with ⟨c,_⟩|⟨e,u,c,_⟩;exact .inl c;exact .inr (.inr ⟨e,u,c⟩)
 · obtain ⟨k,n,o,p⟩:=m.fine a ((g a).1 b) (by
    rcases l with l | l;rcases c with ⟨c,_⟩|⟨e,u,c,z,x⟩;omega;by_cases v:f - 2*d<=a;have:=x a b v;omega;exact .inl oM
    · exact .inr l) q
   exact ⟨k,(g k).2 (.inl n),o,p⟩
 obtain ⟨k,n,o,p⟩:=m.gap2 a ((g a).1 b) q;exact ⟨k,(g k).2 (.inl n),o,p⟩
def aCY {S b N d a} (e:FG S b N d a) (k:¬a<=min (N:Int) ((d:Int)+(b:Int))):qD S b N:=fun c f i=>by
 refine e.fine c f ?_ i;have:=e.le c f;by_cases g:(c:Int) < a;exact .inl g;right;omega
def aKC (S:Nat->Prop) (N:Nat) (c b:Int):Prop:=c < b/\(∀a:Nat,S a->c < (a:Int)->b<=(a:Int))/\(b=((N+1:Nat):Int)∨∃a:Nat,S a/\b=(a:Int))
def pC {S i N k b g} (a:FG S i N k b) (n:aKC S N b g) (s:g - b<=(i:Int)):FG S i N k g:=by
 obtain ⟨t,p,e⟩:=n;refine ⟨a.zero,a.le,.inr e,fun c f d l=>?_,a.gap2⟩;rcases d with d | d;by_cases m:(c:Int) < b;exact a.fine c f (.inl m) l;by_cases r:(c:Int)=b;rcases e with e |⟨q,o,e⟩;omega;exact ⟨q,o,by omega,by omega⟩;have:=p c f oM;omega;exact a.fine c f (.inr d) l
def jK {S S' e N x l s} (f:FG S e N x l) (D:aKC S N l s) (M:l<=(N:Int)) (Q:1<=e) (O:¬s - l<=(e:Int)):∃n:Nat,l+(e:Int)=(n:Int)/\n<=N/\¬S n/\((∀u,S' u↔u=n∨S u)->FG S' e N x (n:Int)):=by
 obtain ⟨U,q,H⟩:=D;have E:∃d:Nat,S d/\l=(d:Int):=by rcases f.at_q with m | m | m;exfalso;have:=q 0 f.zero oM;omega;omega;exact m
 obtain ⟨d,F,rfl⟩:=E;have K:s<=((N+1:Nat):Int):=by rcases H with m |⟨I,G,m⟩;omega;have:=f.le I G;omega
 refine ⟨d+e,by omega,by omega,fun b=>?_,fun g=>?_⟩;have:=q _ b oM;omega
 · have t:∀ {v y:Nat},(∃a,S a/\v < a/\a<=y)->∃a,S' a/\v < a/\a<=y:=fun ⟨a,C,p⟩=>⟨a,(g a).2 (.inr C),p⟩;have p:d+2*e<=N->∃a,S' a/\d+e < a/\a<=d+2*e:=fun k=>by obtain ⟨a,i,o,r⟩:=f.gap2 d F k;have:=q a i oM;exact ⟨a,(g a).2 (.inr i),by omega,r⟩
   refine ⟨(g 0).2 (.inr f.zero),fun c b=>?_,.inr (.inr ⟨d+e,(g _).2 (.inl rfl),rfl⟩),fun c b J k=>?_,fun c b k=>?_⟩;rcases (g c).1 b with rfl | b;omega;exact f.le c b;rcases (g c).1 b with rfl | b;obtain ⟨a,i,o,r⟩:=p oM;exact ⟨a,i,o,by omega⟩;by_cases z:c=d;subst z;exact ⟨c+e,(g _).2 (.inl rfl),by omega,zAs _⟩;by_cases A:(c:Int) < (d:Int);exact t (f.fine c b (.inl A) k);have:=q c b oM;exact t (f.fine c b (.inr oM) k);rcases (g c).1 b with rfl | b;obtain ⟨a,i,o,r⟩:=p oM;exact ⟨a,i,o,by omega⟩;exact t (f.gap2 c b k)
structure TxM (w:World) (B:Nat) (own:Nat->Nat) (gl gk gp rate:Nat) (mv:Int) (S T:List Nat) (N:Nat) (rs:List Nat) (pr:List (Nat×Nat)):Prop where
 suf:IsSuf S rs
 live:LiveM w B own gl gk gp rate mv (N+1) (N+1) (aH S rs) T pr
 tal:T.Perm (aH S rs)
 right:∀x∈pr,rs[x.1]?=some x.2
def TxM.vis {w w' B own gl gk gp rate mv S T N b pr} (a:TxM w B own gl gk gp rate mv S T N b pr) (c:Vis w w'):TxM w' B own gl gk gp rate mv S T N b pr:=⟨a.suf,a.live.vis c,a.tal,a.right⟩
def nI (w:World) (B:Nat) (own:Nat->Nat) (gl gk gp rate:Nat) (mv:Int) (S T:List Nat) (N:Nat) (d:List Nat) (pr:List (Nat×Nat)) (c:Nat) (b:Ending) (w':World):Prop:=
 b=.returned (.tuple #[])/\∃own' pr',TxM w' B own' gl gk gp rate mv S T N d pr'/\(∀a,Smp pr' a↔a=c∨Smp pr a)/\LF B w w' own own'
def oI (w B own gl gk gp rate mv o T N x pr a) (l:TxM w B own gl gk gp rate mv (aJ o) T N x pr) (s:o.length=N) (O:N<=127) (aa:a<=N) (E:∀c∈pr,c.2≠a):
 Calls prog 164 #[gl,(a:Int)] w (nI w B own gl gk gp rate mv (aJ o) T N x pr a):=by
 subst s;obtain ⟨n,V,X⟩:=l.suf.row (p:=a) (by rw [aR];omega);have v:x[n]?=some a:=by rw [zAa V,X]
 have ab:n < o.length+1:=by have:=l.suf.len;rw [aR] at this;omega
 have W:∀k,VB B w k->Calls prog 58 #[gl,(a:Int)] k fun q w'=>q=.returned (.int .i64 (n:Int))/\VB B k w':=fun k ac=>by have u:=l.vis ac.1;exact gG B gl gk gp rate o x pr n a k (u.live.g u.tal) u.right u.suf O v
 have Q:∀c∈pr,c.1≠n:=fun c b q=>by have:=l.right c b;rw [q,v] at this;injection this with this;exact E c b this.symm
 have M:pr.length<=900:=by have:=l.live.perm.len;omega
 obtain ⟨z,A,a4,a3,a2,a1,a5⟩:=hqq7 l.live l W Q E M v;obtain ⟨N,s⟩:=eqx o.length;rw [s] at O aa ab;have G:=lhd s;clear l W Q E M X v V s;rw [G.out] at z;unfold nI;go_enter func164,ntmps164;go_wp2_with fail;refine wp_region_any kR ?_;refine cB B 8 [4,5,6,7,8,9,10,11] (fun _=>False) 100 [] (fun _=>True) (cJ) [is gl,is gl,is (.pointer (some ⟨gl,1,none⟩)),is gp,is gl,is (a:Int),is (n:Int),is (a:Int)] _ _ rfl dC kR kR kR (trivial) (fun _ _ _ _ _=>trivial) (fun _ _ _ l _=>l) tA1 ?_ ?_
 · refine bJ ?_;refine pH3 0 (.pointer (some gl)) ?_;refine pV3 0 4 ?_;refine pV3 1 5 ?_;refine sC3 (fun _ k e _ _ _ _ m _ _ _ r=>?_) ?_
   · replace e:VFB B (fun _=>False) w k:=fD e;have ag:_=_:=m 2 6 kR rfl;have af:k.cell? ⟨gl,1,none⟩=some (.pointer (some gp)):=((z.out.vis (VFB.to_vb e fun _ _ d=>d).1).blk.cell 1).trans rfl;go_simp;exact r _ _ (aG vR) rfl
   refine pH3 0 (.pointer (some gl)) ?_;refine pH3 1 (.int .i64 (a:Int)) ?_;refine sC3 (fun _ k e _ _ _ _ m _ _ _ r=>?_) ?_
   · replace e:VFB B (fun _=>False) w k:=fD e;have ah:_=_:=m 4 8 kR rfl;have ai:_=_:=m 5 9 kR rfl;go_simp;refine (a4.out k (VFB.to_vb e fun _ _ d=>d)).mono ?_;rintro q ae ⟨rfl,ad⟩;exact r _ _ (aG ad) rfl
   refine pH3 1 (.int .i64 (a:Int)) ?_;exact aC
 · intro C y d e m aj;replace e:VFB B (fun _=>False) w y:=fD e;have a9:C (.tmp 7)=.pointer (some gp):=m 3 7 dC rfl;have a7:C (.tmp 10)=.int .i64 (n:Int):=m 6 10 dC rfl;have a8:C (.tmp 11)=.int .i64 (a:Int):=m 7 11 dC rfl;simp only [zqq];rw [a9];rw [a7];rw [a8];clear m;change wpAny prog Region.Mode.any _ _ (1+d) (bX 8 9) _ y;rw [zCs 1 d];refine bQ (f:=d) (i:=8) kR ?_;refine bY rfl rfl ?_;generalize r:wpAny prog _ _ _ d _=K5;go_simp;have F:VB B w y:=VFB.to_vb e fun _ _ d=>d;have D:=z.out.vis F.1;refine (aB0 (fun a6=>own a6=1) gp (N+1) (N+1) n a pr y D.perm oM oM a3.out a2.out a1.out).mono ?_;rintro q ae ⟨rfl,⟨pr',U,H⟩,J⟩;obtain ⟨K,I⟩:=D.permOp H J;have a0:=lhd K;have Z:=lhd ((LF.of_vb (own:=own) F).trans I);have t:=lhd U;clear K I U H J D F;subst r;refine bV kR ?_;go_wp2_with fail;go_end0;refine ⟨rfl,_,pr',⟨A.out.suf,by rw [G.out];exact a0.out,A.out.tal,fun c b=>?_⟩,fun Y=>?_,Z.out⟩;rcases List.mem_cons.1 (t.out.subset b) with rfl | b;exact a5.out;exact A.out.right c b;unfold Smp;constructor;rintro ⟨c,b,rfl⟩;rcases List.mem_cons.1 (t.out.subset b) with rfl | b;exact .inl rfl;exact .inr ⟨c,b,rfl⟩;rintro (rfl |⟨c,b,rfl⟩);exact ⟨(n,Y),t.out.symm.subset (by simp),rfl⟩;exact ⟨c,t.out.symm.subset (by simp [b]),rfl⟩
def tG (w:World) (B:Nat) (own:Nat->Nat) (gl gk gp rate:Nat) (mv:Int) (S T:List Nat) (N:Nat) (b:List Nat) (a:Ending) (w':World):Prop:=
 a=.returned (.tuple #[])/\∃own' pr',TxM w' B own' gl gk gp rate mv S T N b pr'/\Smp pr' 0/\qD (Smp pr') rate N/\LF B w w' own own'
def tV {pr c i} (l:eO pr c i):(i=-1/\∀g,Smp pr g->g < c)∨∃a:Nat,Smp pr a/\i=(a:Int)/\c<=a/\∀b,Smp pr b->c<=b->a<=b:=by
 rcases l with ⟨e,f⟩|⟨a,o,e,f,m⟩;exact .inl ⟨e,fun g ⟨b,p,d⟩=>by rw [<-d];exact f b p⟩;exact .inr ⟨a.2,⟨a,o,rfl⟩,e,f,fun b ⟨q,n,d⟩ k=>by rw [<-d] at k⊢;exact m q n k⟩
def uO {pr} {N i:Nat} {a b:Int} (k:eO pr i b) (p:a+1=(i:Int)) (q:a<=(N:Int)):(b < 0->aKC (Smp pr) N a ((N+1:Nat):Int))/\(¬b < 0->aKC (Smp pr) N a b):=by
 rcases tV k with ⟨f,g⟩|⟨o,n,f,g,l⟩;refine ⟨fun _=>⟨by omega,fun e d m=>?_,.inl rfl⟩,fun c=>absurd oM c⟩;have:=g e d;omega;refine ⟨fun c=>absurd c oM,fun _=>⟨by omega,fun e d m=>?_,.inr ⟨o,n,f⟩⟩⟩;have:=l e d oM;omega
structure FillI (w0 wr:World) (B:Nat) (lM own:Nat->Nat) (gl gk gp rate:Nat) (mv:Int) (S T:List Nat) (N at_:Nat) (rs:List Nat) (pr:List (Nat×Nat)) (q:Int):Prop where
 tx:TxM wr B own gl gk gp rate mv S T N rs pr
 fg:FG (Smp pr) rate N at_ q
 lf:LF B w0 wr lM own
def TxM.lenc {w B own gl gk gp rate mv b T N f pr} (d:TxM w B own gl gk gp rate mv (aJ b) T N f pr) (l:b.length=N) (o:N<=127):∀a:Nat,Calls prog 26 #[gl] (w.drewN a) fun c w'=>c=.returned (.int .i64 (N:Int))/\∃n,w'=w.drewN n:=fun a=>by
 have e:=d.vis (kc (kn bR a));have m:(aH (aJ b) f).length=N+1:=by rw [bW,d.suf.len,aR,l]
 exact (cD B gl _ N _ (e.live.g e.tal).lvw m oM).mono fun c w' ⟨i,k⟩=>⟨i,a,k.symm⟩
def FG.ge {S f N d a} (c:FG S f N d a):-1<=a/\a<=((N+1:Nat):Int):=by
 rcases c.at_q with b | b |⟨g,e,b⟩;omega;omega;have:=c.le g e;omega
def aDQ (w B own gl gk gp rate mv Z T N i a6 pr) (ae:TxM w B own gl gk gp rate mv (aJ Z) T N a6 pr) (bj:Z.length=N) (a3:N<=127) (bH:i<=N) (Y:1<=rate) (bJ:rate<=64) (bk:PreGap (Smp pr) rate N i):
 Calls prog 101 #[gl,(i:Int)] w (tG w B own gl gk gp rate mv (aJ Z) T N a6):=by
 have bh:w.cell? ⟨gl,1,none⟩=some (.pointer (some gp)):=(ae.live.blk.cell 1).trans rfl;have bE:IntKind.i64.wrap (2*(rate:Int))=((2*rate:Nat):Int):=by rw [wI0];omega
 have bF:IntKind.i64.wrap ((i:Int) -((2*rate:Nat):Int))=(i:Int) -((2*rate:Nat):Int):=by rw [wI0];omega
 have bG:IntKind.i64.wrap ((i:Int)+(rate:Int))=(i:Int)+(rate:Int):=by rw [wI0];omega
 have bi:wrap64 ((N:Int)+1)=((N+1:Nat):Int):=by rw [dN oM oM];rfl
 obtain ⟨aw,a0,aX⟩:=hqq3 ae bj bk;clear ae bj bk;unfold tG;go_enter func101,ntmps101;by_cases ax:∃o∈pr,o.2=0
 · have ay:=sZ gp (N+1) (N+1) pr 0 w aw.out.live.permR ax;unfold yZ at ay;have aE:∀c,Smp pr c↔Smp pr c∨c=0:=fun c=>⟨.inl,fun ae=>by
    rcases ae with ae | rfl;exact ae
    · exact ax⟩
   have aB:=lhd aE;clear aE ax;go_wp2_with fail;refine ay.mono ?_;clear ay;rintro e a1 ⟨bC,bA,rfl,af⟩;have bI:decide ((bC:Int) < 0)=false:=(by simp);have C:=lhd (aw.out.vis (kc af));have az:=lhd (LF.of_vb (B:=B) (own:=own) (kd af));clear af bA bh aw;go_wp2_with fail;obtain ⟨W,an⟩:=rZ pr (i - 2*rate);refine wp_region_any kR ?_;refine aO [14,15,16,17,18,19,20,21,22,23,24,25,26,4] (Grow) (Vs [is gl,is gl,is (.pointer (some ⟨gl,1,none⟩)),is gp,is (i:Int),is gl,is gl,is (.pointer (some ⟨gl,2,none⟩)),is (rate:Int),is (.int .i64 ((2*rate:Nat):Int)),is (.int .i64 ((i:Int) -((2*rate:Nat):Int))),is (.int .i64 ((i - 2*rate:Nat):Int)),is (.int .i64 W),is (.int .i64 W)]) _ _ rfl kR bR (fun _ _=>Grow.trans) (cS tA1) ?_ ?_
   · refine aK ?_;refine pH 0 (.pointer (some gl)) ?_;refine pV 0 14 ?_;refine pV 1 15 ?_;refine pL 2 16 (fun q d=>have d:(Grow) a1 q:=gD d;(((C.out.vis (kc d)).live.blk.cell 1).trans rfl:q.cell? ⟨gl,1,none⟩=some (.pointer (some gp)))) ?_;refine pH 1 (.int .i64 (i:Int)) ?_;refine pH 0 (.pointer (some gl)) ?_;refine pV 5 19 ?_;refine pV 6 20 ?_;refine pL 7 21 (fun q d=>have d:(Grow) a1 q:=gD d;(((C.out.vis (kc d)).live.blk.cell 2).trans rfl:q.cell? ⟨gl,2,none⟩=some (.int .i64 (rate:Int)))) ?_;refine pV 8 22 ?_;refine sC (fun _ _ _ _ _ _ m _ _ _ F=>?_) ?_
     · have bs:_=_:=m 4 18 kR rfl;have bt:_=_:=m 9 23 kR rfl;go_simp;exact F _ _ bR (cO (by rw [wI0];push_cast;omega))
     refine sC (fun _ _ _ _ _ _ m _ _ _ F=>?_) ?_
     · have bu:_=_:=m 10 24 kR rfl;go_simp;exact F _ _ bR (cO oM)
     refine sC (fun _ q d _ _ _ m _ _ _ F=>?_) ?_
     · have br:_=_:=m 3 17 kR rfl;have bv:_=_:=m 11 25 kR rfl;replace d:(Grow) a1 q:=gD d;go_simp;refine (jD gp (N+1) (N+1) pr (i - 2*rate) W q (C.out.vis (kc d)).live.permR an).mono ?_;rintro e bD ⟨rfl,b6⟩;exact F _ _ b6 rfl
     refine pV 12 26 ?_;exact aC
   · intro b5 bf d m;replace d:(Grow) a1 bf:=gD d;have b4:b5 (.tmp 4)=.int .i64 W:=m 13 4 rfl;simp only [zqq];rw [b4];clear m;have aR:=C.out.vis (kc d);have aI:=az.out.trans (LF.of_vb (B:=B) (own:=own) (kd d));have aL:=xW aX.out aB.out Y (tV an);have aA:=lhd (FillI.mk aR aL aI);clear aR aI aL an d C az aB aX;go_wp2_with fail;go_loopw [4] (fun o wr=>∃(a:Int) (n:Nat->Nat) (l:List (Nat×Nat)),o=.int .i64 a/\FillI w wr B own n gl gk gp rate mv (aJ Z) T N i a6 l a) (fun o _=>((N:Int)+2 - intOf o).toNat)
     case atStart=>exact ⟨W,_,_,rfl,aA.out⟩
     case round=>
        clear aA;obtain ⟨a,n,l,rfl,s⟩:=hrel;obtain ⟨bx,bz⟩:=s.fg.ge;have a5:=s.tx.lenc a0.out a3;have aD:wr.cell? ⟨gl,1,none⟩=some (.pointer (some gp)):=(s.tx.live.blk.cell 1).trans rfl;have a2:wr.cell? ⟨gl,2,none⟩=some (.int .i64 (rate:Int)):=(s.tx.live.blk.cell 2).trans rfl;have aM:=s.tx.live.blk.lt;obtain ⟨aq,b8⟩:=eqx (min (N:Int) ((i:Int)+(rate:Int)));obtain ⟨f,aZ⟩:=hqq2 s b8;clear s;by_cases ak:a<=aq
        · have bc:decide (a<=aq)=true:=zBz ak;obtain ⟨V,al⟩:∃V:Nat,a+1=(V:Int):=⟨(a+1).toNat,by omega⟩;have M:a<=(N:Int):=oM;obtain ⟨X,ao⟩:=rZ l V;obtain ⟨aV,aW⟩:=uO (N:=N) ao al M;have bq:wrap64 (a+1)=(V:Int):=(by rw [dN oM oM];exact al);obtain ⟨b1,ab,ac,bo⟩:=hqq4 ao aV aW al;clear ao aV aW;go_wp2_with fail;go_quiet ((with_reducible exact a5 _))
          rename_i nq
          have aS:=f.out.tx.vis (kc (kn bR nq));have aP:=jD gp (N+1) (N+1) l V X (wr.drewN nq) aS.live.permR b1.out;clear aS;go_wp2_with fail;refine aP.mono ?_;clear aP;rintro e w1 ⟨rfl,aF⟩;have u:VB B wr w1:=kd ((kn bR nq).trans aF);have y:=f.out.tx.vis u.1;have x:=f.out.lf.trans (LF.of_vb (own:=n) u);obtain ⟨z,D⟩:=hqq2 y x;clear u y x aF a5 aD a2 aM;by_cases aT:X < 0
          · have aU:decide (X < 0)=true:=zBz aT;have g:=lhd (ab.out oM);have aN:=z.out.lenc a0.out a3 0;clear ab ac;go_wp2_with fail;refine aN.mono ?_;clear aN;rintro e A ⟨rfl,ap,rfl⟩;have aQ:=z.out.vis (kc (kn bR ap));have aH:=D.out.trans (LF.of_vb (B:=B) (own:=n) (kd (kn bR ap)));obtain ⟨k,r⟩:=hqq2 aQ aH;clear aQ aH;generalize w1.drewN ap=A at k r⊢;obtain ⟨b,a4⟩:∃b:Int,((N+1:Nat):Int)=b:=⟨_,rfl⟩;rw [a4] at g;have bw:wrap64 ((N:Int)+1)=b:=(by rw [bi];exact a4);have ba:=g.out.1;have b9:b<=((N+1:Nat):Int):=(by rcases g.out.2.2 with e |⟨av,am,e⟩;omega;have:=f.out.fg.le av am;omega);have b2:IntKind.i64.wrap (b - a)=b - a:=(by rw [wI0];omega);have a2:A.cell? ⟨gl,2,none⟩=some (.int .i64 (rate:Int)):=(k.out.live.blk.cell 2).trans rfl;have b7:=k.out.live.blk.lt;by_cases H:b - a<=(rate:Int)
            · have ag:decide (b - a > (rate:Int))=false:=zBy oM;have ah:¬(rate:Int) < b - a:=oM;have I:=pC f.out.fg g.out H;have a8:=lhd I;clear I;go_wp2_with fail;go_roundw
              case rel=>exact ⟨b,n,l,by first | rfl |(congr 1 <;> omega),k.out,a8.out,r.out⟩
              case measure=>simp [intOf];omega
            · have ag:decide (b - a > (rate:Int))=true:=zBz oM;have ah:(rate:Int) < b - a:=oM;obtain ⟨c,K,aj,t,_⟩:=jK (S':=Smp l) f.out.fg g.out M Y H;have b3:IntKind.i64.wrap (a+(rate:Int))=(c:Int):=(by rw [wI0];omega);have p:=oI A B n gl gk gp rate mv Z T N a6 l c k.out a0.out a3 aj (fun o Q e=>t ⟨o,Q,e⟩);unfold nI at p;obtain ⟨E,b0⟩:=hqq2 K t;clear K t;go_wp2_with fail;refine p.mono ?_;clear p;rintro e be ⟨rfl,ar,v,U,O,G⟩;have J:FG (Smp v) rate N i (c:Int):=(by obtain ⟨au,bb,_,_,ai⟩:=jK (S':=Smp v) f.out.fg g.out M Y oM;have:au=c:=(by have:=E.out;omega);subst this;exact ai O);obtain ⟨a9,ad,a7⟩:=hqq3 J U (r.out.trans G);have aa:=lhd (show a < (c:Int) by have:=E.out;omega);clear J U O G;go_wp2_with fail;go_roundw
              case rel=>exact ⟨(c:Int),ar,v,rfl,ad.out,a9.out,a7.out⟩
              case measure=>simp [intOf];have:=aa.out;omega
          · have aU:decide (X < 0)=false:=zBy aT;have g:=lhd (ac.out oM);clear ab ac;obtain ⟨b,a4⟩:∃b:Int,X=b:=⟨_,rfl⟩;rw [a4] at g aU⊢;have k:=z;have r:=D;clear z D;generalize w1=A at k r⊢;have ba:=g.out.1;have b9:b<=((N+1:Nat):Int):=(by rcases g.out.2.2 with e |⟨av,am,e⟩;omega;have:=f.out.fg.le av am;omega);have b2:IntKind.i64.wrap (b - a)=b - a:=(by rw [wI0];omega);have a2:A.cell? ⟨gl,2,none⟩=some (.int .i64 (rate:Int)):=(k.out.live.blk.cell 2).trans rfl;have b7:=k.out.live.blk.lt;by_cases H:b - a<=(rate:Int)
            · have ag:decide (b - a > (rate:Int))=false:=zBy oM;have ah:¬(rate:Int) < b - a:=oM;have I:=pC f.out.fg g.out H;have a8:=lhd I;clear I;go_wp2_with fail;go_roundw
              case rel=>exact ⟨b,n,l,by first | rfl |(congr 1 <;> omega),k.out,a8.out,r.out⟩
              case measure=>simp [intOf];omega
            · have ag:decide (b - a > (rate:Int))=true:=zBz oM;have ah:(rate:Int) < b - a:=oM;obtain ⟨c,K,aj,t,_⟩:=jK (S':=Smp l) f.out.fg g.out M Y H;have b3:IntKind.i64.wrap (a+(rate:Int))=(c:Int):=(by rw [wI0];omega);have p:=oI A B n gl gk gp rate mv Z T N a6 l c k.out a0.out a3 aj (fun o Q e=>t ⟨o,Q,e⟩);unfold nI at p;obtain ⟨E,b0⟩:=hqq2 K t;clear K t;go_wp2_with fail;refine p.mono ?_;clear p;rintro e be ⟨rfl,ar,v,U,O,G⟩;have J:FG (Smp v) rate N i (c:Int):=(by obtain ⟨au,bb,_,_,ai⟩:=jK (S':=Smp v) f.out.fg g.out M Y oM;have:au=c:=(by have:=E.out;omega);subst this;exact ai O);obtain ⟨a9,ad,a7⟩:=hqq3 J U (r.out.trans G);have aa:=lhd (show a < (c:Int) by have:=E.out;omega);clear J U O G;go_wp2_with fail;go_roundw
              case rel=>exact ⟨(c:Int),ar,v,rfl,ad.out,a9.out,a7.out⟩
              case measure=>simp [intOf];have:=aa.out;omega
        · have bc:decide (a<=aq)=false:=zBy ak;have aG:=aCY f.out.fg (by rw [aZ.out];exact ak);have aY:=lhd aG;clear aG;go_wp2_with fail;go_quiet ((with_reducible exact a5 _))
          rename_i nq
          have u:VB B wr (wr.drewN nq):=kd (kn bR nq);have y:=f.out.tx.vis u.1;have x:=f.out.lf.trans (LF.of_vb (own:=n) u);obtain ⟨z,D⟩:=hqq2 y x;clear u y x a5 aD a2 aM;go_wp2_with fail;go_end0;exact ⟨rfl,n,l,z.out,f.out.fg.zero,aY.out,D.out⟩
 · have ay:=aAb gp (N+1) (N+1) pr 0 w aw.out.live.permR (fun o Q e=>ax ⟨o,Q,e⟩);have bn:=lhd ax;clear ax;go_wp2_with fail;refine ay.mono ?_;clear ay;rintro e bp ⟨rfl,af⟩;have bm:=aw.out.vis (kc af);have p:=oI bp B own gl gk gp rate mv Z T N a6 pr 0 bm a0.out a3 (zAp _) (fun o Q e=>bn.out ⟨o,Q,e⟩);unfold nI at p;have bg:=lhd (LF.of_vb (B:=B) (own:=own) (kd af));clear af bm bh aw;go_wp2_with fail;refine p.mono ?_;clear p;rintro e a1 ⟨rfl,bB,bd,y,bl,x⟩;obtain ⟨C,az⟩:=hqq2 y (bg.out.trans x);have aE:∀c,Smp bd c↔Smp pr c∨c=0:=fun c=>(bl c).trans Or.comm;have aB:=lhd aE;clear aE y bl x bg;go_wp2_with fail;obtain ⟨W,an⟩:=rZ bd (i - 2*rate);refine wp_region_any kR ?_;refine aO [14,15,16,17,18,19,20,21,22,23,24,25,26,4] (Grow) (Vs [is gl,is gl,is (.pointer (some ⟨gl,1,none⟩)),is gp,is (i:Int),is gl,is gl,is (.pointer (some ⟨gl,2,none⟩)),is (rate:Int),is (.int .i64 ((2*rate:Nat):Int)),is (.int .i64 ((i:Int) -((2*rate:Nat):Int))),is (.int .i64 ((i - 2*rate:Nat):Int)),is (.int .i64 W),is (.int .i64 W)]) _ _ rfl kR bR (fun _ _=>Grow.trans) (cS tA1) ?_ ?_
   · refine aK ?_;refine pH 0 (.pointer (some gl)) ?_;refine pV 0 14 ?_;refine pV 1 15 ?_;refine pL 2 16 (fun q d=>have d:(Grow) a1 q:=gD d;(((C.out.vis (kc d)).live.blk.cell 1).trans rfl:q.cell? ⟨gl,1,none⟩=some (.pointer (some gp)))) ?_;refine pH 1 (.int .i64 (i:Int)) ?_;refine pH 0 (.pointer (some gl)) ?_;refine pV 5 19 ?_;refine pV 6 20 ?_;refine pL 7 21 (fun q d=>have d:(Grow) a1 q:=gD d;(((C.out.vis (kc d)).live.blk.cell 2).trans rfl:q.cell? ⟨gl,2,none⟩=some (.int .i64 (rate:Int)))) ?_;refine pV 8 22 ?_;refine sC (fun _ _ _ _ _ _ m _ _ _ F=>?_) ?_
     · have bs:_=_:=m 4 18 kR rfl;have bt:_=_:=m 9 23 kR rfl;go_simp;exact F _ _ bR (cO (by rw [wI0];push_cast;omega))
     refine sC (fun _ _ _ _ _ _ m _ _ _ F=>?_) ?_
     · have bu:_=_:=m 10 24 kR rfl;go_simp;exact F _ _ bR (cO oM)
     refine sC (fun _ q d _ _ _ m _ _ _ F=>?_) ?_
     · have br:_=_:=m 3 17 kR rfl;have bv:_=_:=m 11 25 kR rfl;replace d:(Grow) a1 q:=gD d;go_simp;refine (jD gp (N+1) (N+1) bd (i - 2*rate) W q (C.out.vis (kc d)).live.permR an).mono ?_;rintro e bD ⟨rfl,b6⟩;exact F _ _ b6 rfl
     refine pV 12 26 ?_;exact aC
   · intro b5 bf d m;replace d:(Grow) a1 bf:=gD d;have b4:b5 (.tmp 4)=.int .i64 W:=m 13 4 rfl;simp only [zqq];rw [b4];clear m;have aR:=C.out.vis (kc d);have aI:=az.out.trans (LF.of_vb (B:=B) (own:=bB) (kd d));have aL:=xW aX.out aB.out Y (tV an);have aA:=lhd (FillI.mk aR aL aI);clear aR aI aL an d C az aB aX;go_wp2_with fail;go_loopw [4] (fun o wr=>∃(a:Int) (n:Nat->Nat) (l:List (Nat×Nat)),o=.int .i64 a/\FillI w wr B own n gl gk gp rate mv (aJ Z) T N i a6 l a) (fun o _=>((N:Int)+2 - intOf o).toNat)
     case atStart=>exact ⟨W,_,_,rfl,aA.out⟩
     case round=>
        clear aA;obtain ⟨a,n,l,rfl,s⟩:=hrel;obtain ⟨bx,bz⟩:=s.fg.ge;have a5:=s.tx.lenc a0.out a3;have aD:wr.cell? ⟨gl,1,none⟩=some (.pointer (some gp)):=(s.tx.live.blk.cell 1).trans rfl;have a2:wr.cell? ⟨gl,2,none⟩=some (.int .i64 (rate:Int)):=(s.tx.live.blk.cell 2).trans rfl;have aM:=s.tx.live.blk.lt;obtain ⟨aq,b8⟩:=eqx (min (N:Int) ((i:Int)+(rate:Int)));obtain ⟨f,aZ⟩:=hqq2 s b8;clear s;by_cases ak:a<=aq
        · have bc:decide (a<=aq)=true:=zBz ak;obtain ⟨V,al⟩:∃V:Nat,a+1=(V:Int):=⟨(a+1).toNat,by omega⟩;have M:a<=(N:Int):=oM;obtain ⟨X,ao⟩:=rZ l V;obtain ⟨aV,aW⟩:=uO (N:=N) ao al M;have bq:wrap64 (a+1)=(V:Int):=(by rw [dN oM oM];exact al);obtain ⟨b1,ab,ac,bo⟩:=hqq4 ao aV aW al;clear ao aV aW;go_wp2_with fail;go_quiet ((with_reducible exact a5 _))
          rename_i nq
          have aS:=f.out.tx.vis (kc (kn bR nq));have aP:=jD gp (N+1) (N+1) l V X (wr.drewN nq) aS.live.permR b1.out;clear aS;go_wp2_with fail;refine aP.mono ?_;clear aP;rintro e w1 ⟨rfl,aF⟩;have u:VB B wr w1:=kd ((kn bR nq).trans aF);have y:=f.out.tx.vis u.1;have x:=f.out.lf.trans (LF.of_vb (own:=n) u);obtain ⟨z,D⟩:=hqq2 y x;clear u y x aF a5 aD a2 aM;by_cases aT:X < 0
          · have aU:decide (X < 0)=true:=zBz aT;have g:=lhd (ab.out oM);have aN:=z.out.lenc a0.out a3 0;clear ab ac;go_wp2_with fail;refine aN.mono ?_;clear aN;rintro e A ⟨rfl,ap,rfl⟩;have aQ:=z.out.vis (kc (kn bR ap));have aH:=D.out.trans (LF.of_vb (B:=B) (own:=n) (kd (kn bR ap)));obtain ⟨k,r⟩:=hqq2 aQ aH;clear aQ aH;generalize w1.drewN ap=A at k r⊢;obtain ⟨b,a4⟩:∃b:Int,((N+1:Nat):Int)=b:=⟨_,rfl⟩;rw [a4] at g;have bw:wrap64 ((N:Int)+1)=b:=(by rw [bi];exact a4);have ba:=g.out.1;have b9:b<=((N+1:Nat):Int):=(by rcases g.out.2.2 with e |⟨av,am,e⟩;omega;have:=f.out.fg.le av am;omega);have b2:IntKind.i64.wrap (b - a)=b - a:=(by rw [wI0];omega);have a2:A.cell? ⟨gl,2,none⟩=some (.int .i64 (rate:Int)):=(k.out.live.blk.cell 2).trans rfl;have b7:=k.out.live.blk.lt;by_cases H:b - a<=(rate:Int)
            · have ag:decide (b - a > (rate:Int))=false:=zBy oM;have ah:¬(rate:Int) < b - a:=oM;have I:=pC f.out.fg g.out H;have a8:=lhd I;clear I;go_wp2_with fail;go_roundw
              case rel=>exact ⟨b,n,l,by first | rfl |(congr 1 <;> omega),k.out,a8.out,r.out⟩
              case measure=>simp [intOf];omega
            · have ag:decide (b - a > (rate:Int))=true:=zBz oM;have ah:(rate:Int) < b - a:=oM;obtain ⟨c,K,aj,t,_⟩:=jK (S':=Smp l) f.out.fg g.out M Y H;have b3:IntKind.i64.wrap (a+(rate:Int))=(c:Int):=(by rw [wI0];omega);have p:=oI A B n gl gk gp rate mv Z T N a6 l c k.out a0.out a3 aj (fun o Q e=>t ⟨o,Q,e⟩);unfold nI at p;obtain ⟨E,b0⟩:=hqq2 K t;clear K t;go_wp2_with fail;refine p.mono ?_;clear p;rintro e be ⟨rfl,ar,v,U,O,G⟩;have J:FG (Smp v) rate N i (c:Int):=(by obtain ⟨au,bb,_,_,ai⟩:=jK (S':=Smp v) f.out.fg g.out M Y oM;have:au=c:=(by have:=E.out;omega);subst this;exact ai O);obtain ⟨a9,ad,a7⟩:=hqq3 J U (r.out.trans G);have aa:=lhd (show a < (c:Int) by have:=E.out;omega);clear J U O G;go_wp2_with fail;go_roundw
              case rel=>exact ⟨(c:Int),ar,v,rfl,ad.out,a9.out,a7.out⟩
              case measure=>simp [intOf];have:=aa.out;omega
          · have aU:decide (X < 0)=false:=zBy aT;have g:=lhd (ac.out oM);clear ab ac;obtain ⟨b,a4⟩:∃b:Int,X=b:=⟨_,rfl⟩;rw [a4] at g aU⊢;have k:=z;have r:=D;clear z D;generalize w1=A at k r⊢;have ba:=g.out.1;have b9:b<=((N+1:Nat):Int):=(by rcases g.out.2.2 with e |⟨av,am,e⟩;omega;have:=f.out.fg.le av am;omega);have b2:IntKind.i64.wrap (b - a)=b - a:=(by rw [wI0];omega);have a2:A.cell? ⟨gl,2,none⟩=some (.int .i64 (rate:Int)):=(k.out.live.blk.cell 2).trans rfl;have b7:=k.out.live.blk.lt;by_cases H:b - a<=(rate:Int)
            · have ag:decide (b - a > (rate:Int))=false:=zBy oM;have ah:¬(rate:Int) < b - a:=oM;have I:=pC f.out.fg g.out H;have a8:=lhd I;clear I;go_wp2_with fail;go_roundw
              case rel=>exact ⟨b,n,l,by first | rfl |(congr 1 <;> omega),k.out,a8.out,r.out⟩
              case measure=>simp [intOf];omega
            · have ag:decide (b - a > (rate:Int))=true:=zBz oM;have ah:(rate:Int) < b - a:=oM;obtain ⟨c,K,aj,t,_⟩:=jK (S':=Smp l) f.out.fg g.out M Y H;have b3:IntKind.i64.wrap (a+(rate:Int))=(c:Int):=(by rw [wI0];omega);have p:=oI A B n gl gk gp rate mv Z T N a6 l c k.out a0.out a3 aj (fun o Q e=>t ⟨o,Q,e⟩);unfold nI at p;obtain ⟨E,b0⟩:=hqq2 K t;clear K t;go_wp2_with fail;refine p.mono ?_;clear p;rintro e be ⟨rfl,ar,v,U,O,G⟩;have J:FG (Smp v) rate N i (c:Int):=(by obtain ⟨au,bb,_,_,ai⟩:=jK (S':=Smp v) f.out.fg g.out M Y oM;have:au=c:=(by have:=E.out;omega);subst this;exact ai O);obtain ⟨a9,ad,a7⟩:=hqq3 J U (r.out.trans G);have aa:=lhd (show a < (c:Int) by have:=E.out;omega);clear J U O G;go_wp2_with fail;go_roundw
              case rel=>exact ⟨(c:Int),ar,v,rfl,ad.out,a9.out,a7.out⟩
              case measure=>simp [intOf];have:=aa.out;omega
        · have bc:decide (a<=aq)=false:=zBy ak;have aG:=aCY f.out.fg (by rw [aZ.out];exact ak);have aY:=lhd aG;clear aG;go_wp2_with fail;go_quiet ((with_reducible exact a5 _))
          rename_i nq
          have u:VB B wr (wr.drewN nq):=kd (kn bR nq);have y:=f.out.tx.vis u.1;have x:=f.out.lf.trans (LF.of_vb (own:=n) u);obtain ⟨z,D⟩:=hqq2 y x;clear u y x a5 aD a2 aM;go_wp2_with fail;go_end0;exact ⟨rfl,n,l,z.out,f.out.fg.zero,aY.out,D.out⟩
end
section
open Go.RowKit
def aDw (B gl f v m d a:Nat) (b w) (e:w.ownsRow B 114 2 (.slice (some gl) f v) f (bU b)) (g:a < b.length) (t:Bk w m 3 #[(d:Int)]) (I:aD b a<=1000000000000):
 Calls prog 160 #[.pointer (some ⟨gl,a*2,none⟩),m] w fun G w'=>G=.returned (.tuple #[])/\w'.ownsRow B 114 2 (.slice (some gl) f v) f (bU (b.set a (bB (aD b a) d,aI b a)))/\Keep (fun k=>k=gl) w w':=by
 obtain ⟨x,y⟩:=cH b a g;have J:b.length=f:=by have H:=e.1;rw [dG] at H;omega
 have D:=(ki e (a*2) oM).trans x;have E:=(ki e (a*2+1) oM).trans y;have Z:w.cell? m=some (.int .i64 (d:Int)):=(t.cell 0).trans rfl;obtain ⟨Q,n⟩:=fW e;have V:=n.frozen (a*2);have W:=n.lt;have X:=t.lt;have i:=lU b a g;have s:=fun M=>lE b a M g;obtain ⟨c,r⟩:=eqx (aD b a);obtain ⟨K,q⟩:=eqx (aI b a);rw [r] at D i I;rw [q] at E i s;rw [r,q];obtain ⟨u,A,C⟩:=hqq3 e i s;clear e g t x y n i s J r q;by_cases Y:d < c
 · have O:decide ((c:Int) > (d:Int))=true:=zBz oM;have U:IntKind.i64.wrap ((c:Int) - 1)=((c - 1:Nat):Int):=(by rw [wI0];omega);have o:=(kl u.out (a*2) (.int .i64 ((c - 1:Nat):Int))).1;rw [C.out] at o;have z:=lhd o;clear o;go_enter func160,ntmps160;go_wp2_with fail;go_quiet (fail);go_wp2_with fail;go_end0;refine ⟨rfl,?_,ka (F:=fun k=>k=gl) ((kf _ _).drewN _) (p:=⟨gl,a*2,none⟩) (.inl rfl) _⟩;have l:bB (c) d=c - 1:=(by unfold bB;rw [zBx oM]);rw [l];exact z.out
 · have O:decide ((c:Int) > (d:Int))=false:=zBy oM;go_enter func160,ntmps160;go_wp2_with fail;go_quiet (fail);go_wp2_with fail;go_end0;refine ⟨rfl,?_,(kf _ _).drewN _⟩;have l:bB (c) d=c:=(by unfold bB;rw [zBw oM]);rw [l,A.out];exact u.out
def aDF (B gl f v m d a:Nat) (b w) (e:w.ownsRow B 114 2 (.slice (some gl) f v) f (bU b)) (g:a < b.length) (t:Bk w m 3 #[(d:Int)]) (I:aI b a<=1000000000000):
 Calls prog 162 #[.pointer (some ⟨gl,a*2,none⟩),m] w fun G w'=>G=.returned (.tuple #[])/\w'.ownsRow B 114 2 (.slice (some gl) f v) f (bU (b.set a (aD b a,bB (aI b a) d)))/\Keep (fun k=>k=gl) w w':=by
 obtain ⟨x,y⟩:=cH b a g;have J:b.length=f:=by have H:=e.1;rw [dG] at H;omega
 have D:=(ki e (a*2) oM).trans x;have E:=(ki e (a*2+1) oM).trans y;have Z:w.cell? m=some (.int .i64 (d:Int)):=(t.cell 0).trans rfl;obtain ⟨O,n⟩:=fW e;have U:=n.frozen (a*2+1);have V:=n.lt;have W:=t.lt;have i:=lU b a g;have s:=fun K=>nT b a K g;obtain ⟨Y,r⟩:=eqx (aD b a);obtain ⟨c,q⟩:=eqx (aI b a);rw [r] at D i s;rw [q] at E i I;rw [r,q];obtain ⟨u,A,C⟩:=hqq3 e i s;clear e g t x y n i s J r q;by_cases X:d < c
 · have M:decide ((c:Int) > (d:Int))=true:=zBz oM;have Q:IntKind.i64.wrap ((c:Int) - 1)=((c - 1:Nat):Int):=(by rw [wI0];omega);have o:=(kl u.out (a*2+1) (.int .i64 ((c - 1:Nat):Int))).1;rw [C.out] at o;have z:=lhd o;clear o;go_enter func162,ntmps162;go_wp2_with fail;go_quiet (fail);go_wp2_with fail;go_end0;refine ⟨rfl,?_,ka (F:=fun k=>k=gl) ((kf _ _).drewN _) (p:=⟨gl,a*2+1,none⟩) (.inl rfl) _⟩;have l:bB (c) d=c - 1:=(by unfold bB;rw [zBx oM]);rw [l];exact z.out
 · have M:decide ((c:Int) > (d:Int))=false:=zBy oM;go_enter func162,ntmps162;go_wp2_with fail;go_quiet (fail);go_wp2_with fail;go_end0;refine ⟨rfl,?_,(kf _ _).drewN _⟩;have l:bB (c) d=c:=(by unfold bB;rw [zBw oM]);rw [l,A.out];exact u.out
def zH (B gp u O o:Nat) (l G H F) (R P:Nat) (c f E t w) (v:PermAt w B gp u l G H F R P c f E t) (A:c.Nodup) (aM:c.length<=1000000) (aO:Bk w O 3 #[(o:Int)]) (aL:∀d,l.ownBlock=some d->d≠O) (ag:∀a,a∈c->aD f a<=1000000000000/\aI f a<=1000000000000):
 Calls prog 159 #[gp,.func (.func 160) #[] #[O]] w fun i w'=>i=.returned (.tuple #[])/\Keep (fun d=>l.ownBlock=some d) w w'/\∃I,I.length=f.length/\(∀a,a∈c->(aD I a,aI I a)=(bB (aD f a) o,aI f a))/\PermAt w' B gp u l G H F R P c I E t:=by
 obtain ⟨an,aB,a8,_,_⟩:=aW v.orow;have aC:w.cell? ⟨gp,2,none⟩=some (.slice an c.length aB):=(v.blk.cell 2).trans (by rw [a8];rfl);have aX:=v.blk.lt;obtain ⟨D,a7⟩:=eqx c.length;rw [a7] at aC aM;obtain ⟨ao,a0,az,ax,ap⟩:=hqq5 v a7 a8 A ag;clear v a7 a8 A ag;go_enter func159,ntmps159;go_wp2_with fail;go_loopw [11] (fun a9 wr=>∃(j:Nat) (b:List (Nat×Nat)),j<=D/\a9=.int .i64 (j:Int)/\b.length=f.length/\(∀a,a∈c.take j->(aD b a,aI b a)=(bB (aD f a) o,aI f a))/\(∀a,a∈c.drop j->(aD b a,aI b a)=(aD f a,aI f a))/\PermAt wr B gp u l G H F R P c b E t/\Keep (fun d=>l.ownBlock=some d) w wr) (fun a9 _=>D -(intOf a9).toNat)
 case atStart=>exact ⟨0,f,zAp _,rfl,rfl,fun a n=>by simp at n,fun a _=>rfl,ao.out,kf _ _⟩
 case round=>
  obtain ⟨j,b,aZ,rfl,a6,U,V,e,n⟩:=hrel;by_cases al:j < D
  · have x:j < c.length:=(by rw [a0.out];exact al);obtain ⟨a,y⟩:∃a,c[j]?=some a:=⟨_,zAa x⟩;have a5:=zAd y;have a4:a < b.length:=e.lt a a5;have W:=e.orow;rw [az.out] at W;obtain ⟨aG,b2,aF,_,aV⟩:=kk W oM;injection aF with e2a _ e2c;subst e2a e2c;have z:=e.lrow;obtain ⟨M,am,K,_,aU⟩:=kk z oM;rw [K] at z;have aE:wr.cell? ⟨aG,j,none⟩=some (.int .i64 (a:Int)):=(ki W j oM).trans (by rw [zAf,y];rfl);have af:wr.cell? ⟨gp,1,none⟩=some (.slice (some M) b.length am):=(e.blk.cell 1).trans (by rw [K];rfl);have aY:=e.blk.lt;have b1:=n.size;have aj:a∈c.drop j:=(by rw [zAx x,List.getElem_eq_getElem?_get];simp [y]);have aH:(aD b a,aI b a)=(aD f a,aI f a):=V a aj;injection aH with hCr hCp;have aR:=fun (d:Nat) (i:Value.ownBlock l=some d)=>(World.ownsRow.lt e.lrow d i).2;obtain ⟨N,a2⟩:=eqx b.length;rw [a2] at z af a4;have aS:=n.bk aO (fun i=>aL _ i rfl);have b0:(a:Int) < (N:Int):=oM;obtain ⟨a1,Z,ae,ad,Y,au,J,aw,ac⟩:=hqq9 e n z y U V a2 a6 K;obtain ⟨ab,aq,av⟩:=hqq3 hCr hCp a5;clear e n z y U V a2 a6 K hCr hCp a5 aj W aR;go_wp2_with fail;refine (aDw B M N am O o a b wr ae.out (by rw [J.out];exact a4) aS (by rw [ab.out];exact (ap.out a av.out).1)).mono ?_;rintro i w1 ⟨rfl,ak,q⟩
    have ah:PermAt w1 B gp u l G H F R P c (b.set a (bB (aD b a) o,aI b a)) E t:=by
        have e:=a1.out;have C:∀d aa s,aa≠114->Bk wr d aa s->d≠M:=fun d aa s aN m i=>by subst i;obtain ⟨aT,aJ⟩:=fW ae.out;exact aN (aP m aJ).1
        refine ⟨q.bk e.blk (C _ _ _ dC e.blk),?_,aA e.orow fun d s _ m=>q.bk m (C _ _ _ dC m),q.bk e.ar (C _ _ _ dC e.ar),aA e.trow fun d s _ m=>q.bk m (C _ _ _ dC m),aA e.frow fun d s _ m=>q.bk m (C _ _ _ dC m),e.apart,fun g k=>by rw [zAt];exact e.lt g k,e.lo⟩;rw [zAt,J.out,ac.out,J.out];exact ak
    have ai:Keep (fun d=>l.ownBlock=some d) w w1:=Z.out.trans (q.mono fun d _ i=>by rw [ac.out,show d=M from i];rfl)
    have a3:∀g,(aD (b.set a (bB (aD b a) o,aI b a)) g,aI (b.set a (bB (aD b a) o,aI b a)) g)=if g=a then (bB (aD b a) o,aI b a) else (aD b g,aI b g):=fun g=>by
        unfold aD aI;rw [zAb,zBm];by_cases p:a=g;subst p;rw [zBx rfl,zBx rfl,zBx (by rw [J.out];exact a4)];rfl
        · rw [zBw p,zBw (fun i=>p i.symm),zAb]
    have hrel:∃(X:Nat) (r:List (Nat×Nat)),X<=D/\Value.int .i64 ((j+1:Nat):Int)=.int .i64 (X:Int)/\r.length=f.length/\(∀a,a∈c.take X->(aD r a,aI r a)=(bB (aD f a) o,aI f a))/\(∀a,a∈c.drop X->(aD r a,aI r a)=(aD f a,aI f a))/\PermAt w1 B gp u l G H F R P c r E t/\Keep (fun d=>l.ownBlock=some d) w w1:=by
        refine ⟨j+1,_,by omega,rfl,by rw [zAt];exact aw.out,fun g k=>?_,fun g k=>?_,ah,ai⟩
        · rw [a3];by_cases p:g=a
          · subst p;rw [zBx rfl,ab.out,aq.out]
          rw [zBw p];refine Y.out g ?_;rw [zAv,ad.out] at k;simp at k;rcases k with k | k;exact k;exact absurd k p
        · rw [a3];have aQ:g≠a:=fun i=>by subst i;have aK:c.drop j=g::c.drop (j+1):=(by have x:j < c.length:=(by rw [a0.out];exact al);rw [zAx x];have Q:=ad.out;rw [zAa x] at Q;injection Q with Q;rw [Q]);have A:=(List.drop_sublist j c).nodup ax.out;rw [aK,List.nodup_cons] at A;exact A.1 k
          rw [zBw aQ];exact au.out g (List.mem_of_mem_drop (by rw [<-List.drop_drop] at k;exact k:g∈(c.drop j).drop 1))
    have ay:=lhd hrel;clear ah ai a3 hrel q ak af aE;go_wp2_with fail;go_roundw
    case rel=>exact ay.out
    case measure=>simp [intOf];omega
  · obtain rfl:j=D:=oM;obtain ⟨a1,Z,Y⟩:=hqq3 e n U;clear e n U V;go_wp2_with fail;go_end0;refine ⟨rfl,Z.out,b,a6,fun a n=>Y.out a ?_,a1.out⟩;rw [zAg (by rw [a0.out];exact zAs _)];exact n
def zI (B gp u O o:Nat) (l G H F) (R P:Nat) (c f E t w) (v:PermAt w B gp u l G H F R P c f E t) (A:c.Nodup) (aM:c.length<=1000000) (aO:Bk w O 3 #[(o:Int)]) (aL:∀d,l.ownBlock=some d->d≠O) (ag:∀a,a∈c->aD f a<=1000000000000/\aI f a<=1000000000000):
 Calls prog 159 #[gp,.func (.func 162) #[] #[O]] w fun i w'=>i=.returned (.tuple #[])/\Keep (fun d=>l.ownBlock=some d) w w'/\∃I,I.length=f.length/\(∀a,a∈c->(aD I a,aI I a)=(aD f a,bB (aI f a) o))/\PermAt w' B gp u l G H F R P c I E t:=by
 obtain ⟨an,aB,a8,_,_⟩:=aW v.orow;have aC:w.cell? ⟨gp,2,none⟩=some (.slice an c.length aB):=(v.blk.cell 2).trans (by rw [a8];rfl);have aX:=v.blk.lt;obtain ⟨D,a7⟩:=eqx c.length;rw [a7] at aC aM;obtain ⟨ao,a0,az,ax,ap⟩:=hqq5 v a7 a8 A ag;clear v a7 a8 A ag;go_enter func159,ntmps159;go_wp2_with fail;go_loopw [11] (fun a9 wr=>∃(j:Nat) (b:List (Nat×Nat)),j<=D/\a9=.int .i64 (j:Int)/\b.length=f.length/\(∀a,a∈c.take j->(aD b a,aI b a)=(aD f a,bB (aI f a) o))/\(∀a,a∈c.drop j->(aD b a,aI b a)=(aD f a,aI f a))/\PermAt wr B gp u l G H F R P c b E t/\Keep (fun d=>l.ownBlock=some d) w wr) (fun a9 _=>D -(intOf a9).toNat)
 case atStart=>exact ⟨0,f,zAp _,rfl,rfl,fun a n=>by simp at n,fun a _=>rfl,ao.out,kf _ _⟩
 case round=>
  obtain ⟨j,b,aZ,rfl,a6,U,V,e,n⟩:=hrel;by_cases al:j < D
  · have x:j < c.length:=(by rw [a0.out];exact al);obtain ⟨a,y⟩:∃a,c[j]?=some a:=⟨_,zAa x⟩;have a5:=zAd y;have a4:a < b.length:=e.lt a a5;have W:=e.orow;rw [az.out] at W;obtain ⟨aG,b2,aF,_,aV⟩:=kk W oM;injection aF with e2a _ e2c;subst e2a e2c;have z:=e.lrow;obtain ⟨M,am,K,_,aU⟩:=kk z oM;rw [K] at z;have aE:wr.cell? ⟨aG,j,none⟩=some (.int .i64 (a:Int)):=(ki W j oM).trans (by rw [zAf,y];rfl);have af:wr.cell? ⟨gp,1,none⟩=some (.slice (some M) b.length am):=(e.blk.cell 1).trans (by rw [K];rfl);have aY:=e.blk.lt;have b1:=n.size;have aj:a∈c.drop j:=(by rw [zAx x,List.getElem_eq_getElem?_get];simp [y]);have aH:(aD b a,aI b a)=(aD f a,aI f a):=V a aj;injection aH with hCr hCp;have aR:=fun (d:Nat) (i:Value.ownBlock l=some d)=>(World.ownsRow.lt e.lrow d i).2;obtain ⟨N,a2⟩:=eqx b.length;rw [a2] at z af a4;have aS:=n.bk aO (fun i=>aL _ i rfl);have b0:(a:Int) < (N:Int):=oM;obtain ⟨a1,Z,ae,ad,Y,au,J,aw,ac⟩:=hqq9 e n z y U V a2 a6 K;obtain ⟨aq,ab,av⟩:=hqq3 hCr hCp a5;clear e n z y U V a2 a6 K hCr hCp a5 aj W aR;go_wp2_with fail;refine (aDF B M N am O o a b wr ae.out (by rw [J.out];exact a4) aS (by rw [ab.out];exact (ap.out a av.out).2)).mono ?_;rintro i w1 ⟨rfl,ak,q⟩
    have ah:PermAt w1 B gp u l G H F R P c (b.set a (aD b a,bB (aI b a) o)) E t:=by
        have e:=a1.out;have C:∀d aa s,aa≠114->Bk wr d aa s->d≠M:=fun d aa s aN m i=>by subst i;obtain ⟨aT,aJ⟩:=fW ae.out;exact aN (aP m aJ).1
        refine ⟨q.bk e.blk (C _ _ _ dC e.blk),?_,aA e.orow fun d s _ m=>q.bk m (C _ _ _ dC m),q.bk e.ar (C _ _ _ dC e.ar),aA e.trow fun d s _ m=>q.bk m (C _ _ _ dC m),aA e.frow fun d s _ m=>q.bk m (C _ _ _ dC m),e.apart,fun g k=>by rw [zAt];exact e.lt g k,e.lo⟩;rw [zAt,J.out,ac.out,J.out];exact ak
    have ai:Keep (fun d=>l.ownBlock=some d) w w1:=Z.out.trans (q.mono fun d _ i=>by rw [ac.out,show d=M from i];rfl)
    have a3:∀g,(aD (b.set a (aD b a,bB (aI b a) o)) g,aI (b.set a (aD b a,bB (aI b a) o)) g)=if g=a then (aD b a,bB (aI b a) o) else (aD b g,aI b g):=fun g=>by
        unfold aD aI;rw [zAb,zBm];by_cases p:a=g;subst p;rw [zBx rfl,zBx rfl,zBx (by rw [J.out];exact a4)];rfl
        · rw [zBw p,zBw (fun i=>p i.symm),zAb]
    have hrel:∃(X:Nat) (r:List (Nat×Nat)),X<=D/\Value.int .i64 ((j+1:Nat):Int)=.int .i64 (X:Int)/\r.length=f.length/\(∀a,a∈c.take X->(aD r a,aI r a)=(aD f a,bB (aI f a) o))/\(∀a,a∈c.drop X->(aD r a,aI r a)=(aD f a,aI f a))/\PermAt w1 B gp u l G H F R P c r E t/\Keep (fun d=>l.ownBlock=some d) w w1:=by
        refine ⟨j+1,_,by omega,rfl,by rw [zAt];exact aw.out,fun g k=>?_,fun g k=>?_,ah,ai⟩
        · rw [a3];by_cases p:g=a
          · subst p;rw [zBx rfl,aq.out,ab.out]
          rw [zBw p];refine Y.out g ?_;rw [zAv,ad.out] at k;simp at k;rcases k with k | k;exact k;exact absurd k p
        · rw [a3];have aQ:g≠a:=fun i=>by subst i;have aK:c.drop j=g::c.drop (j+1):=(by have x:j < c.length:=(by rw [a0.out];exact al);rw [zAx x];have Q:=ad.out;rw [zAa x] at Q;injection Q with Q;rw [Q]);have A:=(List.drop_sublist j c).nodup ax.out;rw [aK,List.nodup_cons] at A;exact A.1 k
          rw [zBw aQ];exact au.out g (List.mem_of_mem_drop (by rw [<-List.drop_drop] at k;exact k:g∈(c.drop j).drop 1))
    have ay:=lhd hrel;clear ah ai a3 hrel q ak af aE;go_wp2_with fail;go_roundw
    case rel=>exact ay.out
    case measure=>simp [intOf];omega
  · obtain rfl:j=D:=oM;obtain ⟨a1,Z,Y⟩:=hqq3 e n U;clear e n U V;go_wp2_with fail;go_end0;refine ⟨rfl,Z.out,b,a6,fun a n=>Y.out a ?_,a1.out⟩;rw [zAg (by rw [a0.out];exact zAs _)];exact n
end
end Go.Proofs.YtecdldbdednahaaGreatDoor
