/- Lemmas of the walk. Conditions: each its own. -/
import Derived.Test.YthldmddkfbijhaaGreatDoorPsl0
import Derived.Test.YthldmddkfbijhaaGreatDoorProg
set_option linter.all false
set_option maxRecDepth 100000
set_option maxHeartbeats 4000000
namespace Go.Proofs.YthldmddkfbijhaaGreatDoor
open Tryz
section
open Go.RowKit
def oJ:(prog.info? 4).map (fun b=>(b.zero,b.size,b.bytes))=some (some (.bool false),1,1):=by kernel_rfl
def sI (b:World):
 Calls prog 142 #[.int .i64 268435456] b fun d c=>d=.returned (.pointer (some b.heap.size))/\Bk c b.heap.size 221 #[.slice none 0 0,.slice none 0 0,.int .i64 268435456]/\Below b.heap.size b c:=by
 go_enter func142,ntmps142;go_wp2;go_ret;exact ⟨rfl,Bk.new _ _ _,bR.alloc nL _⟩
def aFb (c:Nat) (b:World) (d:Bk b c 221 #[.slice none 0 0,.slice none 0 0,.int .i64 268435456]):
 Calls prog 198 #[c] b fun e f=>e=.returned (.int .i64 0)/\Below b.heap.size b f:=by
 have g:b.cell? c=some (.slice none 0 0):=(d.cell 0).trans rfl;have i:b.cell? ⟨c,1,none⟩=some (.slice none 0 0):=(d.cell 1).trans rfl;go_enter func198,ntmps198;go_wp2;go_quiet (fail);go_wp2;go_ret;exact ⟨rfl,below_drewN bR _⟩
def aD7 {d:World} {b:Nat} {i:TypeId} {g:Value} (e:Bk d b i #[g]):Rd d d.heap.size 1 (some ⟨b,0,none⟩) 1 [g]:=by
 refine ⟨rfl,fun _=>⟨b,0,rfl,e.lt,fun c j f=>?_⟩⟩;rw [zBi,e.cell c];rcases c with _ | c;exact f
 · simp at f
def aEP (b:Nat) (d:World) (j:Bk d b 221 #[.slice none 0 0,.slice none 0 0,.int .i64 268435456]):
 Calls prog 150 #[b] d fun z t=>z=.returned (.tuple #[.int .i64 0,.int .i64 0])/\Keep (fun i=>i=b) d t/\∃u w,Bk t b 221 #[.slice u 1 w,.slice none 0 0,.int .i64 268435456]/\Made t d.heap.size 4 1 u 1 w [.bool true]:=by
 obtain ⟨S,K,N,O,R⟩:=info_parts oJ;have J:=j.lt;obtain ⟨f,U⟩:=hqq2 j (Below.refl d.heap.size d);clear j;go_enter func150,ntmps150;go_wp2;refine wp_region_any kR ?_;refine aV [10,11,12,13,14,15,16,9] Grow (Vs [is b,is (.int .i64 0),is b,is b,is (.pointer (some ⟨b,2,none⟩)),is (.int .i64 268435456),is (.bool false),is (.bool false)]) _ _ rfl kR bR (fun _ _=>Grow.trans) (nP tA2) ?_ ?_
 · refine aO ?_;refine pH 0 (.pointer (some b)) ?_;refine sC (fun _ e c _ _ _ n _ _ _ H=>?_) ?_
   · have Y:_=_:=n 0 10 kR rfl;replace c:Grow d e:=gD c;go_simp;refine (aFb b e (f.out.below c f.out.lt)).mono ?_;rintro z a2 ⟨rfl,I⟩;exact H _ _ I rfl
   refine pH 0 (.pointer (some b)) ?_;refine pV 2 12 ?_;refine pV 3 13 ?_;refine pL 4 14 (fun e c=>have c:Grow d e:=gD c;(((f.out.below c f.out.lt).cell 2).trans rfl:e.cell? ⟨b,2,none⟩=some (.int .i64 268435456))) ?_;refine pW 1 11 5 15 ?_;refine pV 6 16 ?_;exact aD
 · intro G l c n;replace c:Grow d l:=gD c;have E:G (.tmp 9)=.bool false:=n 7 9 rfl;simp only [zqq];rw [E];clear n;have g:=lhd (f.out.below c f.out.lt);have s:=Below.size c;have o:=lhd c;have x:l.cell? ⟨b,1,none⟩=some (.slice none 0 0):=(g.out.cell 1).trans rfl;clear c;have q:l.cell? b=some (.slice none 0 0):=(g.out.cell 0).trans rfl;have A:=g.out.frozen 0;have m:b < l.heap.size:=oM;revert g s q x A o m;generalize l=W2;intro g s o x q A m;have V:=(World.cell?_alloc_lt W2 (Obj.cells #[.bool true] 4) ⟨b,0,none⟩ m).trans q;go_wp2_with (at_builtin;refine bO _ rfl (.tmp 53) (.tmp 54) _ rfl d.heap.size 4 S (.bool false) 1 1 underlying175 K N O R rfl dC (.slice none 0 0) 0 [] rfl (World.ownsRow_nil _ _ _ _) rfl rfl (by simp [Value.oneCell']) (by unfold maxLen;omega) oM s ?_;intro a1 e C k a0 Z;rw [zBi,List.nil_append] at C;obtain ⟨v,y,rfl,M⟩:=aT C;have B:Below W2.heap.size W2 e:=⟨k.os,k.tape,k.output,k.size,fun T L=>k.block T L (by simp [Value.ownBlock])⟩;have r:=g.out.below B m;have W:e.cell? b=some (.slice none 0 0):=(r.cell 0).trans rfl;have X:=r.frozen 0);go_ret2;have D:=Keep.setCell (F:=fun i=>i=b) (Keep.refl (fun i=>i=b) e) (p:=b) (.inl rfl) (.slice v 1 y);exact ⟨rfl,((Keep.of_below o.out).trans (Keep.of_below B)).trans D,v,y,r.set 0 _,(M.mono oM).keepF D (fun i j=>by subst j;exact J)⟩
def aAk (c d:Int) (b:Nat):List Value:= [.int .i64 (-1),.int .i64 (-1),.int .i64 0,.int .i64 c,.int .i64 d,.int .i64 0,.int .i64 0,.pointer (some b)]
def RowS (b e c d:Nat) (g i:Int) (f:World):Prop:=f.ownsRow b 205 8 (.slice (some e) 1 c) 1 (aAk g i d)
def RowS.grow {c f d e:Nat} {i j:Int} {b g:World} (k:RowS c f d e i j b) (l:Below b.heap.size b g):RowS c f d e i j g:=aR k l
def RowS.at3 {d b e f:Nat} {k i:Int} {g:World} (j:RowS d b e f k i g) (c:Int):RowS d b e f c i (g.setCell ⟨b,3,none⟩ (.int .i64 c)):=(World.ownsRow.stored j 3 (.int .i64 c)).1
def RowS.at4 {d b e f:Nat} {i k:Int} {g:World} (j:RowS d b e f i k g) (c:Int):RowS d b e f i c (g.setCell ⟨b,4,none⟩ (.int .i64 c)):=(World.ownsRow.stored j 4 (.int .i64 c)).1
def RowS.lt {c b e f:Nat} {i j:Int} {d:World} (g:RowS c b e f i j d):c<=b/\b < d.heap.size:=World.ownsRow.lt g b rfl
def RowS.bk_ne {e c f j b:Nat} {n o:Int} {d:World} {t:TypeId} {g:Array Value} (k:RowS e c f j n o d) (l:Bk d b t g) (m:205≠t):b≠c:=fun i=>bF k l m (by rw [i];rfl)
def aKw (d:World) (c b f g:Nat) (w1:World):Prop:=Keep (fun e=>e=b) d w1/\∃i j,RowS c b f g i j w1
def aKv (d b e f:Nat) (l m:Int) (g:Nat) (w1 c:World):Prop:=
 (g=14->Keep (fun k=>k=b) w1 c/\∀i j,RowS d b e f i j w1->RowS d b e f l j c)/\(g=17->Keep (fun k=>k=b) w1 c/\∀i j,RowS d b e f i j w1->RowS d b e f i m c)/\(g≠14->g≠17->Grow w1 c)
def cU {e k i j:Nat} {f g:Int} {c:Nat} {w1 d:World} (m:c≠14) (n:c≠17) (l:Grow w1 d):aKv e k i j f g c w1 d:=⟨fun b=>absurd b m,fun b=>absurd b n,fun _ _=>l⟩
def aGq {o w1 s:World} {b e c d i:Nat} {t u:Int} (v:aKw o b e c d w1) (j:aKv b e c d t u i w1 s):aKw o b e c d s:=by
 obtain ⟨f,m,n,g⟩:=v;by_cases p:i=14;obtain ⟨k,l⟩:=j.1 p;exact ⟨f.trans k,_,_,l m n g⟩;by_cases q:i=17;obtain ⟨k,l⟩:=j.2.1 q;exact ⟨f.trans k,_,_,l m n g⟩;have r:=j.2.2 p q;exact ⟨f.trans (Keep.of_below r),m,n,g.grow r⟩
def N3 (b f d e:Nat) (c:Int):Value->World->Prop:=fun _ w1=>∃g,RowS b f d e c g w1
def N4 (b f d e:Nat) (c:Int):Value->World->Prop:=fun _ w1=>∃g,RowS b f d e g c w1
def rE (G a2 b n m r:Nat) (a8 y:Int) (t:List Bool) (v:World) (T:Bk v G 202 #[a2,.slice (some b) 1 n,.int .i64 a8,.int .i64 y]) {ab ac:Int} (C:RowS r b n m ab ac v) (K:Bk v m 230 (hQ t)) (a5:t.length<=128):
 Calls prog 250 #[G,.int .i64 0] v fun i V=>i=.returned (.tuple #[])/\Keep (fun z=>z=b) v V/\RowS r b n m (t.length:Int) ((t.count true:Nat):Int) V:=by
 obtain ⟨s,H⟩:∃s:Int,(t.length:Int)=s:=⟨_,rfl⟩;obtain ⟨q,I⟩:∃q:Int,((t.count true:Nat):Int)=q:=⟨_,rfl⟩;rw [H,I];obtain ⟨Y,Z⟩:=hqq2 H I;have ae:v.cell? ⟨G,1,none⟩=some (.slice (some b) 1 n):=(T.cell 1).trans rfl;have af:v.cell? ⟨b,7,none⟩=some (.pointer (some m)):=(World.ownsRow.cellAt C 7 oM).trans rfl;have aF:=C.lt;have R:=C.bk_ne K dC;obtain ⟨O,a0⟩:=hqq2 K C;clear H I T K C;go_enter func250,ntmps250;go_wp2;refine wp_region_any kR ?_;refine qA [18,19,20,21,22,23,24,25,26,27,28,29,30,31,32,33] (aKw v r b n m) (aKv r b n m s q) (fun _ _=>True) (Vs [is b,is b,is b,is b,is (.pointer (some ⟨b,7,none⟩)),is m,is (.int .i64 s),is b,is b,is (.pointer (some ⟨b,7,none⟩)),is m,is (.int .i64 q),is b,is (.pointer (some ⟨b,3,none⟩)),N3 r b n m s,is b,is (.pointer (some ⟨b,4,none⟩)),N4 r b n m q]) _ _ rfl kR ⟨⟨rfl,rfl,rfl,zAs _,fun _ _ _=>rfl⟩,_,_,a0.out⟩ (fun _=>trivial) (fun M w1 a9 A x=>aGq A x) (fun _ _ _ _ _ _ _ _ _=>trivial) ?_ ?_ ?_;intro U M y w1 a9 S aE g aC x;rcases U with _ | _ | _ | _ | _ | _ | _ | _ | _ | _ | _ | _ | _ | _ | _ | _ | _ | _ | U;exact g;exact g;exact g;exact g;exact g;exact g;exact g;exact g;exact g;exact g;exact g;exact g;exact g;exact g;obtain ⟨X,g⟩:=g;by_cases D:M=17;exact ⟨_,(x.2.1 D).2 _ _ g⟩;exact ⟨_,RowS.grow g (x.2.2 (fun i=>S i.symm) D)⟩;exact g;exact g;obtain ⟨W,g⟩:=g;by_cases B:M=14;exact ⟨_,(x.1 B).2 _ _ g⟩;exact ⟨_,RowS.grow g (x.2.2 B (fun i=>S i.symm))⟩;exact trivial
 · refine aO ?_;refine sC3 (fun u _ c _ _ _ w _ _ _ _ d=>?_) ?_
   · obtain ⟨j,k,l,f⟩:=c;have E:u (.tmp 4)=.pointer (some b):=w 4 kR;go_simp;exact d _ _ (cU dC dC bR) rfl
   refine sC3 (fun u _ c _ _ _ w _ _ _ _ d=>?_) ?_
   · obtain ⟨j,k,l,f⟩:=c;have E:u (.tmp 4)=.pointer (some b):=w 4 kR;go_simp;exact d _ _ (cU dC dC bR) rfl
   refine sC3 (fun u _ c _ _ _ w _ _ _ _ d=>?_) ?_
   · obtain ⟨j,k,l,f⟩:=c;have E:u (.tmp 4)=.pointer (some b):=w 4 kR;go_simp;exact d _ _ (cU dC dC bR) rfl
   refine sC3 (fun _ _ c _ _ _ _ e _ _ _ d=>?_) ?_
   · obtain ⟨j,k,l,f⟩:=c;have ak:_=_:=e 2 20 kR rfl;go_simp;exact d _ _ (cU dC dC bR) rfl
   refine sC3 (fun _ _ c _ _ _ _ e _ _ _ d=>?_) ?_
   · obtain ⟨j,k,l,f⟩:=c;have al:_=_:=e 3 21 kR rfl;go_simp;exact d _ _ (cU dC dC bR) rfl
   refine sC3 (fun _ o c _ _ _ _ e _ _ _ d=>?_) ?_
   · obtain ⟨j,k,l,f⟩:=c;have am:_=_:=e 4 22 kR rfl;have a1:o.cell? ⟨b,7,none⟩=some (.pointer (some m)):=(World.ownsRow.cellAt f 7 oM).trans rfl;go_simp;exact d _ _ (cU dC dC bR) rfl
   refine sC3 (fun _ o c _ _ _ _ e _ _ _ d=>?_) ?_
   · obtain ⟨j,k,l,f⟩:=c;have an:_=_:=e 5 23 kR rfl;have L:=j.bk O.out (fun i=>R i);go_simp;refine (sE m t o L).mono ?_;rintro i aa ⟨rfl,rfl⟩;exact d _ _ (cU dC dC bR) (dI Y.out)
   refine sC3 (fun u _ c _ _ _ w _ _ _ _ d=>?_) ?_
   · obtain ⟨j,k,l,f⟩:=c;have E:u (.tmp 4)=.pointer (some b):=w 4 kR;go_simp;exact d _ _ (cU dC dC bR) rfl
   refine sC3 (fun _ _ c _ _ _ _ e _ _ _ d=>?_) ?_
   · obtain ⟨j,k,l,f⟩:=c;have ap:_=_:=e 7 25 kR rfl;go_simp;exact d _ _ (cU dC dC bR) rfl
   refine sC3 (fun _ _ c _ _ _ _ e _ _ _ d=>?_) ?_
   · obtain ⟨j,k,l,f⟩:=c;have aq:_=_:=e 8 26 kR rfl;go_simp;exact d _ _ (cU dC dC bR) rfl
   refine sC3 (fun _ o c _ _ _ _ e _ _ _ d=>?_) ?_
   · obtain ⟨j,k,l,f⟩:=c;have ar:_=_:=e 9 27 kR rfl;have a1:o.cell? ⟨b,7,none⟩=some (.pointer (some m)):=(World.ownsRow.cellAt f 7 oM).trans rfl;go_simp;exact d _ _ (cU dC dC bR) rfl
   refine sC3 (fun _ o c _ _ _ _ e _ _ _ d=>?_) ?_
   · obtain ⟨j,k,l,f⟩:=c;have au:_=_:=e 10 28 kR rfl;have L:=j.bk O.out (fun i=>R i);go_simp;refine (zT m t o L a5).mono ?_;rintro i aa ⟨rfl,rfl⟩;exact d _ _ (cU dC dC bR) (dI Z.out)
   refine sC3 (fun _ _ c _ _ _ _ e _ _ _ d=>?_) ?_
   · obtain ⟨j,k,l,f⟩:=c;have ai:_=_:=e 0 18 kR rfl;go_simp;exact d _ _ (cU dC dC bR) rfl
   refine sC3 (fun _ _ c _ _ _ _ e _ _ _ d=>?_) ?_
   · obtain ⟨j,k,l,f⟩:=c;have aw:_=_:=e 12 30 kR rfl;go_simp;exact d _ _ (cU dC dC bR) rfl
   refine sC3 (fun _ o c _ _ _ _ e _ _ _ d=>?_) ?_
   · obtain ⟨j,k,l,f⟩:=c;have ax:_=_:=e 13 31 kR rfl;have ao:_=_:=e 6 24 kR rfl;have ag:o.cell? ⟨b,3,none⟩=some (.int .i64 k):=(World.ownsRow.cellAt f 3 oM).trans rfl;have aA:=World.ownsRow.frozenAt f 3;go_simp;exact d (.bool true) _ ⟨fun _=>⟨Keep.setCell (F:=fun z=>z=b) (Keep.refl _ _) (p:=⟨b,3,none⟩) (.inl rfl) _,fun W X A=>A.at3 s⟩,fun i=>absurd i dC,fun i=>absurd rfl i⟩ ⟨l,f.at3 s⟩
   refine sC3 (fun _ _ c _ _ _ _ e _ _ _ d=>?_) ?_
   · obtain ⟨j,k,l,f⟩:=c;have aj:_=_:=e 1 19 kR rfl;go_simp;exact d _ _ (cU dC dC bR) rfl
   refine sC3 (fun _ _ c _ _ _ _ e _ _ _ d=>?_) ?_
   · obtain ⟨j,k,l,f⟩:=c;have ay:_=_:=e 15 32 kR rfl;go_simp;exact d _ _ (cU dC dC bR) rfl
   refine sC3 (fun _ o c _ _ _ _ e _ _ _ d=>?_) ?_
   · obtain ⟨j,k,l,f⟩:=c;have az:_=_:=e 16 33 kR rfl;have av:_=_:=e 11 29 kR rfl;have ah:o.cell? ⟨b,4,none⟩=some (.int .i64 l):=(World.ownsRow.cellAt f 4 oM).trans rfl;have aB:=World.ownsRow.frozenAt f 4;go_simp;exact d (.bool true) _ ⟨fun i=>absurd i dC,fun _=>⟨Keep.setCell (F:=fun z=>z=b) (Keep.refl _ _) (p:=⟨b,4,none⟩) (.inl rfl) _,fun W X A=>A.at4 q⟩,fun _ i=>absurd rfl i⟩ ⟨k,f.at4 q⟩
   exact aD
 · intro u N c e J;obtain ⟨a4,_⟩:=c;obtain ⟨_,ad,B⟩:∃y,N3 r b n m s y N:=J 14 dC;obtain ⟨_,aG,D⟩:∃y,N4 r b n m q y N:=J 17 dC;have a3:RowS r b n m s q N:=(by have a6:=(World.ownsRow.cellAt B 4 oM).symm.trans (World.ownsRow.cellAt D 4 oM);have a7:ad=q:=(by simpa [aAk] using a6);rw [<-a7];exact B);simp only [zqq];clear e J;go_wp2;exact bodyPost_ret (results_none rfl _ _ _) rfl ⟨rfl,a4,a3⟩
def aGe:(prog.info? 205).map (fun b=>(b.zero,b.size,b.bytes))=some (some (.agg #[.int .i64 0,.int .i64 0,.int .i64 0,.int .i64 0,.int .i64 0,.int .i64 0,.int .i64 0,.pointer none]),8,64):=by kernel_rfl
def vW {d:World} {c f:Nat} {g:TypeId} {b:Array Value} (e:Bk d c g b) (i:b.size=f):Rd d d.heap.size f (some ⟨c,0,none⟩) 1 b.toList:=by
 refine ⟨by simp [i],fun _=>⟨c,0,rfl,e.lt,fun k l j=>?_⟩⟩;rw [zBi,e.cell k];rw [<-j];simp
structure Leaf (w:World) (B gt ga gl cl gb:Nat) (rt v:Int) (bs:List Bool):Prop where
 tree:Bk w gt 202 #[ga,.slice (some gl) 1 cl,.int .i64 rt,.int .i64 v]
 row:RowS B gl cl gb (bs.length:Int) ((bs.count true:Nat):Int) w
 blk:Bk w gb 230 (hQ bs)
 arena:∃A c,Bk w ga 221 #[.slice A 1 c,.slice none 0 0,.int .i64 268435456]/\Made w B 4 1 A 1 c [.bool true]
def aI9 {l:World} {d:Nat} {c:Option Addr} {e:Nat} {m:List Value} {f:TypeId} {k:Nat} (j:l.ownsRow d f k (.slice c 1 e) 1 m):∃i,c=some ⟨i,0,none⟩:=by
 obtain ⟨g,n,b,_,_⟩:=World.ownsRow.form j oM;injection b with b;exact ⟨g,b⟩
def aJk {j k:World} {p e n s w:Nat} {B C:Int} {d:Option Addr} {c f:Nat} {l:List Value} (z:RowS p n s w B C j) (A:Keep (fun q=>q=n) j k) (b:Made j e 4 1 d c f l):Made k e 4 1 d c f l:=by
 have o:k.ownsRow e 4 1 (.slice d c f) c l:=by refine ⟨b.own.1,?_⟩;rcases b.own.2 with g |⟨m,r,u,g,x,i,y⟩;exact .inl g;refine .inr ⟨m,r,u,g,x,(A.block m (lt_of_block i) (fun v=>?_)).trans i,y⟩;exact z.bk_ne (t:=4) i dC v
 exact ⟨o,Rd.of_own o,b.cap,b.max⟩
def aEk (b j i:Nat) (A:Int) (H:List Bool) (k:World) (z:Bk k b 202 #[j,.slice none 0 0,.int .i64 (-1),.int .i64 A]) (w:Bk k j 221 #[.slice none 0 0,.slice none 0 0,.int .i64 268435456]) (l:Bk k i 230 (hQ H)) (ap:H.length<=128):
 Calls prog 246 #[b,.agg #[.int .i64 (-1),.int .i64 (-1),.int .i64 0,.int .i64 0,.int .i64 0,.int .i64 0,.int .i64 0,i]] k fun n a2=>n=.returned (.int .i64 0)/\Keep (fun c=>c=j∨c=b) k a2/\∃o a9,Leaf a2 k.heap.size b j o a9 i (-1) A H:=by
 obtain ⟨aG,am,aC,aE,aF⟩:=info_parts aGe;have b4:=z.lt;have b1:=w.lt;have b2:=l.lt;have a0:b≠j:=Bk.ne z w dC;have aA:b≠i:=Bk.ne z l dC;have ah:j≠i:=Bk.ne w l dC;have b6:k.cell? b=some (.pointer (some j)):=(z.cell 0).trans rfl;obtain ⟨a8,a6,a7⟩:=hqq3 z w l;clear z w l;go_enter func246,ntmps246;go_wp2_with fail;obtain ⟨g,W⟩:=eqx k.heap.size;refine (aEP j _ (a6.out.alloc _)).mono ?_;rintro n w1 ⟨rfl,y,O,R,ae,V⟩;have au:Bk w1 g 205 #[.int .i64 (-1),.int .i64 (-1),.int .i64 0,.int .i64 0,.int .i64 0,.int .i64 0,.int .i64 0,i]:=by rw [<-W];exact y.bk (Bk.new k _ _) (fun e=>absurd (show k.heap.size=j from e) oM)
 have Y:=y.bk (a8.out.alloc _) (fun e=>a0 e);have ai:=y.bk (a7.out.alloc _) (fun e=>ah e.symm);have ay:=y.size;rw [World.size_alloc] at ay V;have b7:w1.cell? ⟨b,1,none⟩=some (.slice none 0 0):=(Y.cell 1).trans rfl;have a4:=lhd y;clear y;go_wp2_with fail;refine wp_region_any kR ?_;refine bH [22,23,24,25,26,27,28,29,30,31] (fun c=>c=b) 10 [4,10] (fun s=>Bk s b 202 #[j,.slice none 0 0,.int .i64 (-1),.int .i64 A]) (fun _ s=>∃t u,Bk s b 202 #[j,.slice t 1 u,.int .i64 (-1),.int .i64 A]/\Made s (g+1) 205 8 t 1 u (aAk 0 0 i)) [is b,is b,is b,is (.pointer (some ⟨b,1,none⟩)),is (.slice none 0 0),is (.agg #[.int .i64 (-1),.int .i64 (-1),.int .i64 0,.int .i64 0,.int .i64 0,.int .i64 0,.int .i64 0,i]),qS (fun c=>c=b) 205 #[.int .i64 (-1),.int .i64 (-1),.int .i64 0,.int .i64 0,.int .i64 0,.int .i64 0,.int .i64 0,i] fun J=>.slice (some ⟨J,0,none⟩) 1 1,qW (g+1) 205 8 1 (aAk 0 0 i),is b,is (.pointer (some ⟨b,1,none⟩)),dA] _ _ rfl kR kR (Y) (fun s ba e _ al=>Bk.below e al e.lt) (fun _ _ _ ⟨t,u,S,ad⟩ I=>⟨t,u,Bk.below S I S.lt,ad.below I⟩) (by repeat' (first | exact jZ _ _ | exact iL _ | exact vK _ _ _ _ | exact aAa (fun c l=>by subst l;omega) _ _ _ _ |(refine zAe.2 ⟨?_,?_⟩)|(intro a1 aw;cases aw))) ?_ ?_
 · refine aO ?_;refine pH3 0 (.pointer (some b)) ?_;refine pH3 0 (.pointer (some b)) ?_;refine pV3 1 23 ?_;refine pV3 2 24 ?_;refine sC3 (fun _ d _ K _ _ _ m _ _ _ q=>?_) ?_
   · have D:=K rfl;have aR:_=_:=m 3 25 kR rfl;have aP:d.cell? ⟨b,1,none⟩=some (.slice none 0 0):=(D.cell 1).trans rfl;go_simp;exact kq q rfl
   refine sC3 (fun x d f _ _ _ av _ _ _ _ q=>?_) ?_
   · replace f:Keep (fun c=>c=b) w1 d:=kD f;have aW:x (.tmp 3)=.pointer (some ⟨g,0,none⟩):=av 3 kR;have r:=f.bk au (fun e=>absurd (show g=b from e) oM);have bb:d.cell? ⟨g,0,none⟩=some (.int .i64 (-1)):=(r.cell 0).trans rfl;have bc:d.cell? ⟨g,1,none⟩=some (.int .i64 (-1)):=(r.cell 1).trans rfl;have bd:d.cell? ⟨g,2,none⟩=some (.int .i64 0):=(r.cell 2).trans rfl;have be:d.cell? ⟨g,3,none⟩=some (.int .i64 0):=(r.cell 3).trans rfl;have bf:d.cell? ⟨g,4,none⟩=some (.int .i64 0):=(r.cell 4).trans rfl;have bg:d.cell? ⟨g,5,none⟩=some (.int .i64 0):=(r.cell 5).trans rfl;have bh:d.cell? ⟨g,6,none⟩=some (.int .i64 0):=(r.cell 6).trans rfl;have bi:d.cell? ⟨g,7,none⟩=some (.pointer (some i)):=(r.cell 7).trans rfl;go_simp;exact kq q rfl
   refine sC3 (fun _ d f _ _ _ _ m _ _ _ q=>?_) ?_
   · replace f:Keep (fun c=>c=b) w1 d:=kD f;have aS:_=_:=m 5 27 kR rfl;go_simp;exact q _ _ (aJ (bR.alloc nL _)) ⟨_,rfl,Bk.new _ _ _,fun e=>by have:=f.size;have aZ:d.heap.size=b:=e;omega⟩
   refine sC3 (fun x d f _ _ _ _ m _ _ w q=>?_) ?_;replace f:Keep (fun c=>c=b) w1 d:=kD f;have aa:_=_:=m 4 26 kR rfl;have aK:(qS (fun c=>c=b) 205 #[.int .i64 (-1),.int .i64 (-1),.int .i64 0,.int .i64 0,.int .i64 0,.int .i64 0,.int .i64 0,i] fun J=>.slice (some ⟨J,0,none⟩) 1 1) (x (.tmp 28)) d:=m 6 28 kR rfl;obtain ⟨ac,ab,aj,b5⟩:=aK;subst w;have aB:g+1<=d.heap.size:=(by have:=f.size;omega);refine eT d (.tmp 26) (.tmp 28) _ rfl (g+1) 205 aG _ 8 64 underlying200 am aC aE aF rfl dC (.slice none 0 0) 0 [] aa (World.ownsRow_nil _ _ _ _) d.heap.size (some ⟨ac,0,none⟩) 1 1 _ ab (vW aj rfl) (by simp [Value.oneCell']) (by unfold maxLen;omega) oM aB ?_;intro b8 E X B b0;rw [zBi,List.nil_append] at X;obtain ⟨G,v,rfl,M⟩:=aT X;exact q _ _ (aJ ⟨B.os,B.tape,B.output,B.size,fun I an=>B.block I an (by simp [Value.ownBlock])⟩) ⟨G,v,rfl,M⟩;refine pV3 0 22 ?_;refine pV3 8 30 ?_;refine sC3 (fun x d _ K _ _ _ m _ _ _ q=>?_) ?_
   · have D:=K rfl;have aX:_=_:=m 9 31 kR rfl;have aL:(qW (g+1) 205 8 1 (aAk 0 0 i)) (x (.tmp 29)) d:=m 7 29 kR rfl;obtain ⟨G,v,aV,M⟩:=aL;have aQ:d.cell? ⟨b,1,none⟩=some (.slice none 0 0):=(D.cell 1).trans rfl;have aY:=D.frozen 1;go_simp;exact q (.bool true) _ (aU (Keep.setCell (F:=fun c=>c=b) (Keep.refl _ _) (p:=⟨b,1,none⟩) (.inl rfl) _)) ⟨G,v,D.set 1 _,M.keepF (Keep.setCell (F:=fun c=>c=b) (Keep.refl _ _) (p:=⟨b,1,none⟩) (.inl rfl) _) (fun c l=>by subst l;omega)⟩
   exact aD
 · intro x E f m T;replace f:Keep (fun c=>c=b) w1 E:=kD f;obtain ⟨b9,aM⟩:∃aN,(fun _ s=>∃t u,Bk s b 202 #[j,.slice t 1 u,.int .i64 (-1),.int .i64 A]/\Made s (g+1) 205 8 t 1 u (aAk 0 0 i)) aN E:=T 10 dC;simp only [zqq];clear m T;obtain ⟨G,v,Z,L⟩:=aM;obtain ⟨o,rfl⟩:=aI9 L.own;have N:RowS (g+1) o v i 0 0 E:=L.own;have U:=f.bk ai (fun e=>aA e.symm);have af:=f.bk ae (fun e=>a0 e.symm);have aq:=V.keepF f (fun c l=>by subst l;omega);have a5:=lhd f;have b3:=N.lt;clear f L;go_wp2_with fail;refine (rE b j o v i (g+1) (-1) A H E Z N U ap).mono ?_;rintro n a3 ⟨rfl,C,ax⟩;have az:=C.bk Z (fun e=>absurd (show b=o from e) oM);have ak:=C.bk U (fun e=>absurd (show i=o from e) oM);have ag:=C.bk af (fun e=>absurd (show j=o from e) oM);have ar:Made a3 k.heap.size 4 1 O 1 R [.bool true]:=(aJk N C aq).mono oM;have ao:Keep (fun c=>c=j∨c=b) k a3:=(by have aH:Keep (fun c=>c=j∨c=b) k w1:=(Keep.of_below (bR.alloc nL _)).trans (a4.out.mono (fun c _ n=>.inl n));have aI:=aH.trans (a5.out.mono (fun c _ n=>.inr n));exact aI.trans' C (fun c l n=>absurd (show c=o from n) oM));go_wp2_with fail;go_ret;rw [W] at*
   exact ⟨rfl,ao,o,v,az,cB ax oM,ak,O,R,ag,ar⟩
def wP (d c f:Nat) (j:Int) (e:List Bool) (b:World) (s:Bk b d 202 #[c,.slice none 0 0,.int .i64 (-1),.int .i64 j]) (o:Bk b c 221 #[.slice none 0 0,.slice none 0 0,.int .i64 268435456]) (p:Bk b f 230 (hQ e)) (r:e.length<=128):
 Calls prog 212 #[d,f] b fun l m=>l=.returned (.int .i64 0)/\Keep (fun k=>k=c∨k=d) b m/\∃i g,Leaf m b.heap.size d c i g f (-1) j e:=by
 go_enter func212,ntmps212;go_wp2_with fail;refine (aEk d c f j e b s o p r).mono ?_;rintro l w1 ⟨rfl,q,i,g,n⟩;go_wp2_with fail;go_ret;exact ⟨rfl,q,i,g,n⟩
def aGB (c:Nat) (d:List Bool):Value->World->Prop:=fun e f=>∃b,e=.tuple #[.pointer (some ⟨b,0,none⟩),.int .i64 0]/\Bk f b 230 (hQ d)/\c<=b
def aIy (c:Nat) (d:List Bool):Value->World->Prop:=fun e f=>∃b,e=.pointer (some ⟨b,0,none⟩)/\Bk f b 230 (hQ d)/\c<=b
def aFS (b:Nat) (c:List Bool):uJ (fun _=>False) (aGB b c):=fun _ _ _ ⟨d,f,g,i⟩ j=>⟨d,f,j.bk g (fun e=>e),i⟩
def aFT (b:Nat) (c:List Bool):uJ (fun _=>False) (aIy b c):=fun _ _ _ ⟨d,f,g,i⟩ j=>⟨d,f,j.bk g (fun e=>e),i⟩
def Leaf.mono {m:World} {B B' i e g d f:Nat} {k l:Int} {c:List Bool} (b:Leaf m B i e g d f k l c) (j:B'<=B):Leaf m B' i e g d f k l c:=by
 obtain ⟨n,o,p,q⟩:=b.arena;exact ⟨b.tree,cB b.row j,b.blk,n,o,p,q.mono j⟩
def aGA (q p:Nat) (z:Int) (i:Option Addr) (e j A:Nat) (f:List Bool) (c:World) (x:Bk c q 202 #[p,.slice none 0 0,.int .i64 (-1),.int .i64 z]) (o:Bk c p 221 #[.slice none 0 0,.slice none 0 0,.int .i64 268435456]) (w:Rd c A 1 i e (f.map Value.bool)) (S:A<=c.heap.size) (H:e<=128) (an:e<=j):
 Calls prog 258 #[q,.slice i e j,.int .i64 0,.int .i64 1,.int .i64 1] c fun t I=>t=.returned (.int .i64 0)/\Keep (fun B=>B=p∨B=q) c I/\∃v s m,Leaf I c.heap.size q p v s m (-1) z f/\c.heap.size<=m:=by
 have F:f.length=e:=by simpa using w.1
 have ak:((e:Int)*1).tdiv 1=(e:Int):=by rw [Int.mul_one,Int.tdiv_one]
 have am:=x.lt;have al:=o.lt;obtain ⟨N,K,M,L,a7⟩:=hqq5 x o (w.mono S) F (Below.refl c.heap.size c);clear x o w F;go_enter func258,ntmps258;go_wp2_with fail;refine wp_region_any kR ?_;refine bH [20,21,22,23,24,25,26,27,28,29,30,31,32,33,34,19,35,36,11,12] (fun _=>False) 19 [] (fun _=>True) (dA) [is (.slice i e j),is (.slice i e j),is (e:Int),is (.int .i64 0),is (.int .i64 0),is (.int .i64 1),is (.int .i64 0),is (.slice i e j),is (e:Int),is (.int .i64 1),is (e:Int),is (.int .i64 1),is (e:Int),is (.slice i e j),aGB c.heap.size f,aGB c.heap.size f,aIy c.heap.size f,is (.int .i64 0),aIy c.heap.size f,dA] _ _ rfl kR kR (trivial) (fun _ _ _ _ _=>trivial) (fun _ _ _ _ _=>trivial) (by repeat' (first | exact jZ _ _ | exact iL _ | exact aFS _ _ | exact aFT _ _ |(refine zAe.2 ⟨?_,?_⟩)|(intro ao Z;cases Z))) ?_ ?_
 · refine aO ?_;refine pH3 1 (.slice i e j) ?_;refine pH3 1 (.slice i e j) ?_;refine pV3 1 21 ?_;refine pH3 2 (.int .i64 0) ?_;refine sC3 (fun _ _ _ _ _ _ _ b _ _ _ d=>?_) ?_
   · have a9:_=_:=b 2 22 kR rfl;have aa:_=_:=b 3 23 kR rfl;go_simp;exact d _ _ (aJ bR) (dI (by simp [IntKind.wrap_i64] <;> omega))
   refine pH3 4 (.int .i64 1) ?_;refine sC3 (fun _ _ _ _ _ _ _ b _ _ _ d=>?_) ?_
   · have ab:_=_:=b 4 24 kR rfl;have ac:_=_:=b 5 25 kR rfl;go_simp;exact d _ _ (aJ bR) (dI (by simp [IntKind.wrap_i64] <;> omega))
   refine pH3 1 (.slice i e j) ?_;refine pV3 7 27 ?_;refine pH3 3 (.int .i64 1) ?_;refine sC3 (fun _ _ _ _ _ _ _ b _ _ _ d=>?_) ?_
   · have ae:_=_:=b 8 28 kR rfl;have af:_=_:=b 9 29 kR rfl;go_simp;exact d _ _ (aJ bR) (dI (by simp [IntKind.wrap_i64] <;> omega))
   refine pH3 4 (.int .i64 1) ?_;refine sC3 (fun _ _ _ _ _ _ _ b _ _ _ d=>?_) ?_
   · have ag:_=_:=b 10 30 kR rfl;have ah:_=_:=b 11 31 kR rfl;go_simp;exact d _ _ (aJ bR) (dI (by simp [IntKind.wrap_i64] <;> omega))
   refine sC3 (fun _ _ _ _ _ _ _ b _ _ _ d=>?_) ?_
   · have a8:_=_:=b 0 20 kR rfl;have ad:_=_:=b 6 26 kR rfl;have ai:_=_:=b 12 32 kR rfl;go_simp;exact kq d rfl
   refine sC3 (fun _ l g _ _ _ _ b _ _ _ d=>?_) ?_
   · replace g:Keep (fun _=>False) c l:=kD g;have aj:_=_:=b 13 33 kR rfl;go_simp;have a0:=g.rd M.out nL (fun _ _ n=>n);refine (mJ i e j c.heap.size f l a0 g.size H).mono ?_;rintro t au ⟨rfl,V,Y⟩;exact d _ _ (aJ Y) ⟨_,rfl,V,g.size⟩
   refine sC3 (fun k l _ _ _ _ _ b _ _ _ d=>?_) ?_
   · have a4:(aGB c.heap.size f) (k (.tmp 34)) l:=b 14 34 kR rfl;go_simp;exact d _ _ (aJ bR) a4
   refine sC3 (fun k l _ _ _ _ _ b _ _ o d=>?_) ?_
   · have y:(aGB c.heap.size f) (k (.tmp 19)) l:=b 15 19 kR rfl;go_simp;obtain ⟨m,u,E,G⟩:=y;subst o;rw [u];go_simp;exact d _ _ (aJ bR) ⟨m,rfl,E,G⟩
   refine sC3 (fun k l _ _ _ _ _ b _ _ o d=>?_) ?_
   · have y:(aGB c.heap.size f) (k (.tmp 19)) l:=b 15 19 kR rfl;go_simp;obtain ⟨m,u,E,G⟩:=y;subst o;rw [u];go_simp;exact kq d rfl
   refine sC3 (fun k l _ _ _ _ _ b _ _ _ d=>?_) ?_
   · have a5:(aIy c.heap.size f) (k (.tmp 35)) l:=b 16 35 kR rfl;go_simp;exact d _ _ (aJ bR) a5
   refine sC3 (fun _ _ _ _ _ _ _ b _ _ _ d=>?_) ?_
   · have C:_=_:=b 17 36 kR rfl;go_simp;exact d _ _ (aJ bR) trivial
   exact aD
 · intro k r g b D;replace g:Keep (fun _=>False) c r:=kD g;have a3:(aIy c.heap.size f) (k (.tmp 11)) r:=b 18 11 rfl;have C:k (.tmp 36)=.int .i64 0:=b 17 36 rfl;obtain ⟨aq,ap⟩:∃a6,(dA) a6 r:=D 19 dC;simp only [zqq];rw [C];clear b D;obtain ⟨m,O,U,W⟩:=a3;rw [O];have a2:=g.bk N.out (fun n=>n);have T:=g.bk K.out (fun n=>n);have a1:=g.size;have J:=lhd g;clear g;go_wp2_with fail;refine (wP q p m z f r a2 T U (by rw [L.out];exact H)).mono ?_;rintro t ar ⟨rfl,X,v,s,R⟩;go_wp2_with fail;go_ret;exact ⟨rfl,(J.out.mono (fun _ _ n=>n.elim)).trans X,v,s,m,R.mono a1,W⟩
def aA {n w':World} {f:Nat} {b:TypeId} {m l:Nat} {e:Value} {o:List Value} (k:n.ownsRow f b m e l o) (t:∀d g,e.ownBlock=some d->Bk n d b g->Bk w' d b g):w'.ownsRow f b m e l o:=by
 refine ⟨k.1,?_⟩;rcases k.2 with c |⟨j,p,i,c,q,r,s⟩;exact .inl c;exact .inr ⟨j,p,i,c,q,t j i (by rw [c];rfl) r,s⟩
def nZ {n e:World} {i:Nat} {d:TypeId} {m l j:Nat} {g:Option Addr} {o:List Value} (f:Made n i d m g l j o) (p:∀b c,Bk n b d c->Bk e b d c):Made e i d m g l j o:=by
 have k:=aA (w':=e) f.own fun b c _=>p b c;exact ⟨k,Rd.of_own k,f.cap,f.max⟩
structure VisF (F:Nat->Prop) (w w':World):Prop where
 os:w'.os=w.os
 tape:w'.tape=w.tape
 output:w'.output=w.output
 size:w.heap.size<=w'.heap.size
 block:∀b,b < w.heap.size->¬F b->w'.heap[b]?=w.heap[b]?∨(∃cs v,Bk w b 202 cs/\Bk w' b 202 (cs.setIfInBounds 3 (.int .i64 v)))∨(∃cs v,Bk w b 154 cs/\Bk w' b 154 (cs.setIfInBounds 10 (.int .i64 v)))
abbrev Vis:World->World->Prop:=VisF (fun _=>False)
def Vis.refl (b:World):Vis b b:=⟨rfl,rfl,rfl,zAs _,fun _ _ _=>.inl rfl⟩
def VisF.of_vis {e:Nat->Prop} {c d:World} (b:Vis c d):VisF e c d:=⟨b.os,b.tape,b.output,b.size,fun f g _=>b.block f g (fun i=>i)⟩
def VisF.of_keep {c:Nat->Prop} {d e:World} (b:Keep c d e):VisF c d e:=⟨b.os,b.tape,b.output,b.size,fun f g i=>.inl (b.block f g i)⟩
def VisF.to_vis {e:Nat->Prop} {d g:World} (c:VisF e d g) (i:∀b,b < d.heap.size->¬e b):Vis d g:=⟨c.os,c.tape,c.output,c.size,fun b f _=>c.block b f (i b f)⟩
def set_set (c:Array Value) (b:Nat) (e d:Value):(c.setIfInBounds b e).setIfInBounds b d=c.setIfInBounds b d:=by
 apply Array.ext
 · simp
 · intro i f g;simp [Array.getElem_setIfInBounds]
def aL {j:World} {e:Nat} {g i:TypeId} {c d:Array Value} (f:Bk j e g c) (b:Bk j e i d):g=i/\c=d:=by
 unfold Bk at f b;rw [f] at b;injection b with b;injection b with h1 h2;exact ⟨h2,h1⟩
def VisF.trans {F:Nat->Prop} {p w1 q:World} (f:VisF F p w1) (i:VisF F w1 q):VisF F p q:=by
 refine ⟨i.os.trans f.os,i.tape.trans f.tape,i.output.trans f.output,zAk f.size i.size,fun k n o=>?_⟩;have r:k < w1.heap.size:=zAl n f.size;rcases f.block k n o with c |⟨g,m,c,d⟩|⟨g,m,c,d⟩<;> rcases i.block k r o with b |⟨l,j,b,e⟩|⟨l,j,b,e⟩;exact .inl (b.trans c);exact .inr (.inl ⟨l,j,c.symm.trans b,e⟩);exact .inr (.inr ⟨l,j,c.symm.trans b,e⟩);exact .inr (.inl ⟨g,m,c,b.trans d⟩);obtain ⟨_,rfl⟩:=aL d b;rw [set_set] at e;exact .inr (.inl ⟨g,j,c,e⟩);exact absurd (aL d b).1 dC;exact .inr (.inr ⟨g,m,c,b.trans d⟩);exact absurd (aL d b).1 dC;obtain ⟨_,rfl⟩:=aL d b;rw [set_set] at e;exact .inr (.inr ⟨g,j,c,e⟩)
def Vis.trans {b w1 c:World} (d:Vis b w1) (e:Vis w1 c):Vis b c:=VisF.trans d e
def Vis.of_below {c d:World} (b:Below c.heap.size c d):Vis c d:=⟨b.os,b.tape,b.output,b.size,fun e f _=>.inl (b.block e f)⟩
def Vis.set_tree {c:World} {b:Nat} {e:Array Value} (g:Bk c b 202 e) (i:Int):Vis c (c.setCell ⟨b,3,none⟩ (.int .i64 i)):=by
 refine ⟨rfl,rfl,rfl,by simp [World.setCell],fun d k _=>?_⟩;by_cases f:d=b;subst f;exact .inr (.inl ⟨e,i,g,g.set 3 _⟩);exact .inl (heap_setCell_other c ⟨b,3,none⟩ d _ (fun j=>f j))
def Vis.set_wave {c:World} {b:Nat} {e:Array Value} (g:Bk c b 154 e) (i:Int):Vis c (c.setCell ⟨b,10,none⟩ (.int .i64 i)):=by
 refine ⟨rfl,rfl,rfl,by simp [World.setCell],fun d k _=>?_⟩;by_cases f:d=b;subst f;exact .inr (.inr ⟨e,i,g,g.set 10 _⟩);exact .inl (heap_setCell_other c ⟨b,10,none⟩ d _ (fun j=>f j))
def VisF.put {F:Nat->Prop} {l w1:World} (c:VisF F l w1) {p:Addr} (d:F p.block∨l.heap.size<=p.block) (j:Value):VisF F l (w1.setCell p j):=by
 refine ⟨c.os,c.tape,c.output,by simpa [World.setCell] using c.size,fun e n m=>?_⟩;have g:(w1.setCell p j).heap[e]?=w1.heap[e]?:=heap_setCell_other w1 p e j (fun o=>by
  rcases d with d | d;rw [<-o] at d;exact m d
  · omega)
 rcases c.block e n m with b |⟨f,k,b,i⟩|⟨f,k,b,i⟩;exact .inl (g.trans b);exact .inr (.inl ⟨f,k,b,g.trans i⟩);exact .inr (.inr ⟨f,k,b,g.trans i⟩)
def Vis.fresh {b w1:World} (d:Vis b w1) {p:Addr} (e:b.heap.size<=p.block) (c:Value):Vis b (w1.setCell p c):=VisF.put d (.inr e) c
def Vis.alloc {b w1:World} (c:Vis b w1) (d:Obj):Vis b (w1.alloc d):=c.trans (Vis.of_below (bR.alloc nL _))
def Vis.below {b w1 c:World} (d:Vis b w1) (e:Below w1.heap.size w1 c):Vis b c:=d.trans (Vis.of_below e)
def VisF.bk {f:Nat->Prop} {i j:World} {c:Nat} {e:TypeId} {g:Array Value} (m:VisF f i j) (d:Bk i c e g) (n:e≠202) (o:e≠154) (p:¬f c):Bk j c e g:=by
 rcases m.block c d.lt p with b |⟨k,q,b,l⟩|⟨k,q,b,l⟩;exact b.trans d;exact absurd (aL d b).1 n;exact absurd (aL d b).1 o
def VisF.tree {f:Nat->Prop} {l m:World} {c:Nat} {a g i:Value} {k:Int} (o:VisF f l m) (d:Bk l c 202 #[a,g,i,.int .i64 k]) (p:¬f c):∃e,Bk m c 202 #[a,g,i,.int .i64 e]:=by
 rcases o.block c d.lt p with b |⟨n,e,b,j⟩|⟨n,e,b,j⟩;exact ⟨k,b.trans d⟩;obtain ⟨_,rfl⟩:=aL d b;exact ⟨e,j⟩;exact absurd (aL d b).1 dC
def VisF.wave {i:Nat->Prop} {k g:World} {c:Nat} {f:Array Value} (m:VisF i k g) (d:Bk k c 154 f) (n:¬i c):Bk g c 154 f∨∃e,Bk g c 154 (f.setIfInBounds 10 (.int .i64 e)):=by
 rcases m.block c d.lt n with b |⟨l,e,b,j⟩|⟨l,e,b,j⟩;exact .inl (b.trans d);exact absurd (aL d b).1 dC;obtain ⟨_,rfl⟩:=aL d b;exact .inr ⟨e,j⟩
def Vis.bk {e f:World} {d:Nat} {b:TypeId} {c:Array Value} (g:Vis e f) (k:Bk e d b c) (i:b≠202) (j:b≠154):Bk f d b c:=VisF.bk g k i j (fun l=>l)
def Vis.tree {e f:World} {d:Nat} {a b c:Value} {j:Int} (g:Vis e f) (i:Bk e d 202 #[a,b,c,.int .i64 j]):∃k,Bk f d 202 #[a,b,c,.int .i64 k]:=VisF.tree g i (fun l=>l)
def Vis.wave {e d:World} {c:Nat} {b:Array Value} (f:Vis e d) (g:Bk e c 154 b):Bk d c 154 b∨∃i,Bk d c 154 (b.setIfInBounds 10 (.int .i64 i)):=VisF.wave f g (fun j=>j)
def VisK (d:Nat->Prop) (b c:World):Prop:=Vis b c/\Keep d b c
def VisK.refl (c:Nat->Prop) (b:World):VisK c b b:=⟨Vis.refl b,Keep.refl c b⟩
def vR {c:Nat->Prop} {b:World}:VisK c b b:=VisK.refl c b
def VisK.trans {F:Nat->Prop} {d w1 e:World} (b:VisK F d w1) (c:VisK F w1 e):VisK F d e:=⟨b.1.trans c.1,b.2.trans c.2⟩
def VisK.below {b:Nat->Prop} {e w1 f:World} (c:VisK b e w1) (d:Below w1.heap.size w1 f):VisK b e f:=⟨c.1.trans (Vis.of_below d),c.2.trans (Keep.of_below d)⟩
def VisK.of_below {F:Nat->Prop} {b c:World} (d:Below b.heap.size b c):VisK F b c:=(VisK.refl F b).below d
def VisK.alloc {b:Nat->Prop} {c w1:World} (d:VisK b c w1) (e:Obj):VisK b c (w1.alloc e):=d.below (bR.alloc nL _)
def VisK.set_tree {d:World} {b:Nat} {f:Array Value} (g:Bk d b 202 f) (e:Int):VisK (fun c=>c=b) d (d.setCell ⟨b,3,none⟩ (.int .i64 e)):=⟨Vis.set_tree g e,Keep.setCell (F:=fun c=>c=b) (Keep.refl _ _) (p:=⟨b,3,none⟩) (.inl rfl) _⟩
def VisK.mono {F G:Nat->Prop} {d e:World} (c:VisK F d e) (f:∀b,F b->G b):VisK G d e:=⟨c.1,c.2.mono fun b _=>f b⟩
def Vis.own {g i:World} {c:Nat} {b:TypeId} {e d:Nat} {f:Value} {j:List Value} (o:Vis g i) (k:g.ownsRow c b e f d j) (l:b≠202) (m:b≠154):i.ownsRow c b e f d j:=
 aA k fun p q _ n=>o.bk n l m
def Vis.made {i j:World} {d:Nat} {b:TypeId} {g f e:Nat} {c:Option Addr} {k:List Value} (p:Vis i j) (l:Made i d b g c f e k) (m:b≠202) (n:b≠154):Made j d b g c f e k:=
 nZ l fun q r o=>p.bk o m n
def RdT (l:World) (k:TypeId) (j:Option Addr) (e:Nat) (i:List Value):Prop:=
 i.length=e/\(0 < e->∃b f c,j=some ⟨b,f,none⟩/\Bk l b k c/\∀d g,i[d]?=some g->c[f+d]?=some g)
def RdT.rd {b:World} {p:TypeId} {c:Option Addr} {f:Nat} {g:List Value} (d:RdT b p c f g):Rd b b.heap.size 1 c f g:=by
 refine ⟨by rw [d.1,zBl],fun l=>?_⟩;obtain ⟨i,o,r,j,e,k⟩:=d.2 l;exact ⟨i,o,j,e.lt,fun n q m=>(e.cell _).trans (k n q m)⟩
def RdT.same {i w':World} {d:TypeId} {e:Option Addr} {g:Nat} {j:List Value} (f:RdT i d e g j) (o:∀b c,Bk i b d c->Bk w' b d c):RdT w' d e g j:=by
 refine ⟨f.1,fun n=>?_⟩;obtain ⟨b,p,c,k,l,m⟩:=f.2 n;exact ⟨b,p,c,k,o b c l,m⟩
structure LeafV (w:World) (B gt ga gl cl gb:Nat) (rt v:Int) (bs:List Bool):Prop where
 tree:Bk w gt 202 #[ga,.slice (some gl) 1 cl,.int .i64 rt,.int .i64 v]
 row:RowS B gl cl gb (bs.length:Int) ((bs.count true:Nat):Int) w
 blk:Bk w gb 230 (hQ bs)
def Leaf.toV {l:World} {m i e g d f:Nat} {j k:Int} {c:List Bool} (b:Leaf l m i e g d f j k c):LeafV l 0 i e g d f j k c:=⟨b.tree,cB b.row (zAp _),b.blk⟩
def LeafV.vis {n w':World} {e l i k g j:Nat} {m p:Int} {f:List Bool} (b:LeafV n e l i k g j m p f) (c:Vis n w'):∃d,LeafV w' e l i k g j m d f:=by
 obtain ⟨d,o⟩:=c.tree b.tree;exact ⟨d,o,c.own b.row dC dC,c.bk b.blk dC dC⟩
def TreeAt (f:World) (d:Nat) (b:List Bool):Prop:=
 ∃(c:Nat) (e:Int),(b= []/\∃k,Bk f d 202 #[c,k,.int .i64 (-1),.int .i64 e])∨(b≠ []/\b.length<=128/\∃j g i,LeafV f 0 d c j g i 0 e b)
def TreeAt.vis {k w':World} {i:Nat} {f:List Bool} (o:TreeAt k i f) (j:Vis k w'):TreeAt w' i f:=by
 obtain ⟨g,r,⟨b,q,c⟩|⟨b,c,n,l,m,p⟩⟩:=o;obtain ⟨e,d⟩:=j.tree c;exact ⟨g,e,.inl ⟨b,q,d⟩⟩;obtain ⟨e,d⟩:=p.vis j;exact ⟨g,e,.inr ⟨b,c,n,l,m,d⟩⟩
def TreeAt.same {n w':World} {l:Nat} {j:List Bool} (r:TreeAt n l j) (b:∀c i d,i∈ [202,221,205,230,4]->Bk n c i d->Bk w' c i d):TreeAt w' l j:=by
 obtain ⟨k,m,⟨e,t,f⟩|⟨e,f,q,o,p,g⟩⟩:=r;exact ⟨k,m,.inl ⟨e,t,b _ _ _ dC f⟩⟩;exact ⟨k,m,.inr ⟨e,f,q,o,p,b _ _ _ dC g.tree,aA g.row fun c d _ s=>b _ _ _ dC s,b _ _ _ dC g.blk⟩⟩
def TreeAt.below {b f:World} {d:Nat} {c:List Bool} (g:TreeAt b d c) (i:Below b.heap.size b f):TreeAt f d c:=g.same fun j l k _ e=>e.below i e.lt
def TreeAt.lt {d:World} {b:Nat} {e:List Bool} (f:TreeAt d b e):b < d.heap.size:=by
 obtain ⟨k,n,⟨g,o,c⟩|⟨g,c,m,j,l,i⟩⟩:=f;exact c.lt;exact i.tree.lt
def TreeB (f:World) (b e:Nat) (c:List Bool):Prop:=
 ∃(d:Nat) (i:Int),b<=e/\b<=d/\((c= []/\Bk f e 202 #[d,.slice none 0 0,.int .i64 (-1),.int .i64 i]/\Bk f d 221 #[.slice none 0 0,.slice none 0 0,.int .i64 268435456])∨(c≠ []/\c.length<=128/\∃k j g,b<=g/\Leaf f b e d k j g 0 i c))
def TreeB.at {j:World} {k f:Nat} {d:List Bool} (o:TreeB j k f d):TreeAt j f d:=by
 obtain ⟨e,i,_,_,⟨b,c,g⟩|⟨b,c,n,l,m,_,g⟩⟩:=o;exact ⟨e,i,.inl ⟨b,_,c⟩⟩;exact ⟨e,i,.inr ⟨b,c,n,l,m,g.toV⟩⟩
def TreeB.keep {q r:World} {F:Nat->Prop} {f m:Nat} {k:List Bool} (x:TreeB q f m k) (d:Keep F q r) (c:∀j,F j->j < f):TreeB r f m k:=by
 obtain ⟨l,p,n,o,⟨g,i,e⟩|⟨g,i,w,u,v,A,e⟩⟩:=x;exact ⟨l,p,n,o,.inl ⟨g,d.bk i (fun b=>by have:=c _ b;omega),d.bk e (fun b=>by have:=c _ b;omega)⟩⟩;obtain ⟨s,t,y,z⟩:=e.arena;exact ⟨l,p,n,o,.inr ⟨g,i,w,u,v,A,d.bk e.tree (fun b=>by have:=c _ b;omega),sS e.row d c,d.bk e.blk (fun b=>by have:=c _ b;omega),s,t,d.bk y (fun b=>by have:=c _ b;omega),z.keepF d c⟩⟩
def TreeB.below {b e:World} {B d:Nat} {c:List Bool} (g:TreeB b B d c) (i:Below b.heap.size b e):TreeB e B d c:=g.keep (F:=fun _=>False) (Keep.of_below i) (fun _ f=>f.elim)
def TreeB.mono {j:World} {B B' g:Nat} {e:List Bool} (n:TreeB j B g e) (o:B'<=B):TreeB j B' g e:=by
 obtain ⟨f,i,p,q,⟨b,c,d⟩|⟨b,c,m,k,l,r,d⟩⟩:=n;exact ⟨f,i,by omega,by omega,.inl ⟨b,c,d⟩⟩;exact ⟨f,i,by omega,by omega,.inr ⟨b,c,m,k,l,by omega,d.mono o⟩⟩
end
section
def aN (b:List Nat) (c:Nat):Int:=match b[c]? with
 | some d=>(d:Int)
 | none=>-1
def aJM {b:List Nat} {c:Nat} (d:c < b.length):aN b c=(b[c]:Int):=by
 unfold aN;rw [zAa d]
def kI {b:List Nat} {c x:Nat} (d:b[c]?=some x):aN b c=(x:Int):=by
 unfold aN;rw [d]
def mO {l:List Nat} {p:Nat} (b:l.length<=p):aN l p=-1:=by
 unfold aN;rw [zBg b]
def jJ {l:List Nat} {p:Nat} (b:p < l.length):0<=aN l p:=by
 rw [aJM b];omega
section
variable (a : Nat -> Int)
def eqW (e c d:Nat):Prop:=∀b,b < e->a (c+b)=a (d+b)
def ltW (f d e:Nat):Prop:=∃b,b < f/\(∀c,c < b->a (d+c)=a (e+c))/\a (d+b) < a (e+b)
variable {a}
def eqW.symm {d b c:Nat} (e:eqW a d b c):eqW a d c b:=fun g f=>(e g f).symm
def eqW.trans {b d e f:Nat} (i:eqW a b d e) (j:eqW a b e f):eqW a b d f:=fun g c=>(i g c).trans (j g c)
def eqW.refl (c b:Nat):eqW a c b b:=fun _ _=>rfl
def oB (b e f:Nat):ltW a b e f∨eqW a b e f∨ltW a b f e:=by
 induction b with
 | zero=>exact .inr (.inl fun g k=>absurd k oM)
 | succ b l=>
   rcases l with ⟨j,c,d⟩| i |⟨j,c,d⟩;exact .inl ⟨j,by omega,d⟩;rcases Int.lt_trichotomy (a (e+b)) (a (f+b)) with c | c | c;exact .inl ⟨b,by omega,i,c⟩;refine .inr (.inl fun g k=>?_);rcases zBe g b with d | d;exact i g d;have:g=b:=oM;subst this;exact c;exact .inr (.inr ⟨b,by omega,i.symm,c⟩);exact .inr (.inr ⟨j,by omega,d⟩)
def ltW.not_eq {d b c:Nat} (e:ltW a d b c):¬eqW a d b c:=by
 obtain ⟨i,f,j,k⟩:=e;intro g;have:=g i f;omega
def ltW.trans {j k l m:Nat} (q:ltW a j k l) (r:ltW a j l m):ltW a j k m:=by
 obtain ⟨e,n,f,o⟩:=q;obtain ⟨i,s,g,p⟩:=r;rcases Nat.lt_trichotomy e i with d | d | d;exact ⟨e,n,fun b c=>(f b c).trans (g b oM),by rw [<-g e d];exact o⟩;subst d;exact ⟨e,n,fun b c=>(f b c).trans (g b c),Int.lt_trans o p⟩;exact ⟨i,s,fun b c=>(f b oM).trans (g b c),by rw [f i d];exact p⟩
def ltW.irrefl {d b:Nat} (c:ltW a d b b):False:=c.not_eq (eqW.refl _ _)
def ltW.asymm {d b c:Nat} (e:ltW a d b c) (f:ltW a d c b):False:=(e.trans f).irrefl
def ltW.eq_right {b d e f:Nat} (k:ltW a b d e) (c:eqW a b e f):ltW a b d f:=by
 obtain ⟨i,j,m,n⟩:=k;exact ⟨i,j,fun g l=>(m g l).trans (c g oM),by rw [<-c i j];exact n⟩
def ltW.eq_left {b d e f:Nat} (c:eqW a b d e) (k:ltW a b e f):ltW a b d f:=by
 obtain ⟨i,j,m,n⟩:=k;exact ⟨i,j,fun g l=>(c g oM).trans (m g l),by rw [c i j];exact n⟩
def ltW.le_right {c g d e:Nat} (f:ltW a c g d) (i:¬ltW a c e d):ltW a c g e:=by
 rcases oB (a:=a) c d e with b | b | b;exact f.trans b;exact f.eq_right b;exact absurd b i
def aEC (b e f:Nat):eqW a (b+b) e f↔eqW a b e f/\eqW a b (e+b) (f+b):=by
 constructor
 · intro d;refine ⟨fun c g=>d c oM,fun c g=>?_⟩;have:=d (b+c) oM;rwa [<-Nat.add_assoc,<-Nat.add_assoc] at this
 · intro ⟨i,j⟩ c g;rcases zBe c b with d | d;exact i c d
   · have:=j (c - b) oM;rwa [show e+b+(c - b)=e+c by omega,show f+b+(c - b)=f+c by omega] at this
def aEp (b e f:Nat):ltW a (b+b) e f↔ltW a b e f∨(eqW a b e f/\ltW a b (e+b) (f+b)):=by
 constructor
 · intro ⟨c,k,g,j⟩;rcases zBe c b with i | i;exact .inl ⟨c,i,g,j⟩
   · refine .inr ⟨fun d l=>g d oM,c - b,by omega,fun d l=>?_,?_⟩
     · have:=g (b+d) oM;rwa [<-Nat.add_assoc,<-Nat.add_assoc] at this
     · rwa [show e+b+(c - b)=e+c by omega,show f+b+(c - b)=f+c by omega]
 · rintro (⟨c,k,g,j⟩|⟨m,c,k,g,j⟩);exact ⟨c,by omega,g,j⟩
   · refine ⟨b+c,by omega,fun d l=>?_,by rwa [<-Nat.add_assoc,<-Nat.add_assoc]⟩;rcases zBe d b with i | i;exact m d i
     · have:=g (d - b) oM;rwa [show e+b+(d - b)=e+d by omega,show f+b+(d - b)=f+d by omega] at this
def RankOk (a d:Nat->Int) (e:Nat):Prop:=∀b c,d b < d c↔ltW a e b c
def RankOk.eq {d:Nat->Int} {i:Nat} (f:RankOk a d i) (b c:Nat):d b=d c↔eqW a i b c:=by
 constructor;intro g;rcases oB (a:=a) i b c with e | e | e;have:=(f b c).2 e;omega;exact e;have:=(f c b).2 e;omega;intro g;have e:¬(d b < d c):=fun j=>((f b c).1 j).not_eq g;have k:¬(d c < d b):=fun j=>((f c b).1 j).not_eq g.symm;omega
def jW (b:Nat->Int) (e c d:Nat):Int:=if b c≠b d then b c - b d else b (c+e) - b (d+e)
def uW {j:Nat->Int} {e:Nat} (f:RankOk a j e) (c d:Nat):jW j e c d < 0↔ltW a (e+e) c d:=by
 unfold jW;rw [aEp];by_cases i:j c=j d
 · rw [zBw (by simpa using i)];have k:¬ltW a e c d:=fun m=>by have:=(f c d).2 m;omega
   have l:=(f.eq c d).1 i;have g:=f (c+e) (d+e);constructor;intro b;exact .inr ⟨l,g.1 oM⟩;rintro (b |⟨_,b⟩);exact absurd b k;have:=g.2 b;omega
 rw [zBx i];have g:=f c d;constructor;intro b;exact .inl (g.1 oM);rintro (b |⟨b,_⟩);have:=g.2 b;omega;exact absurd ((f.eq c d).2 b) i
def aJd {d:Nat->Int} {i:Nat} (g:RankOk a d i) (b c:Nat):jW d i b c=0↔eqW a (i+i) b c:=by
 unfold jW;rw [aEC];by_cases e:d b=d c;rw [zBw (by simpa using e)];constructor;intro f;exact ⟨(g.eq b c).1 e,(g.eq _ _).1 oM⟩;intro ⟨_,f⟩;have:=(g.eq _ _).2 f;omega;rw [zBx e];constructor;intro f;exact absurd (show d b=d c by omega) e;intro ⟨f,_⟩;exact absurd ((g.eq b c).2 f) e
def cN (c:Nat->Nat->Int) (b:Nat->Nat):Nat->Nat
 | 0=>0
 | i+1=>cN c b i+(if c (b i) (b (i+1))≠0 then 1 else 0)
def aJv (d:Nat->Nat->Int) (b:Nat->Nat) (c:Nat):cN d b c<=cN d b (c+1)/\cN d b (c+1)<=cN d b c+1:=by
 show cN d b c<=cN d b c+_/\cN d b c+_<=cN d b c+1;split <;> omega
def tU (e:Nat->Nat->Int) (c:Nat->Nat) (d b:Nat):cN e c d<=cN e c (d+b)/\cN e c (d+b)<=cN e c d+b:=by
 induction b with
 | zero=>exact ⟨zAs _,zAs _⟩
 | succ b f=>
   have:=aJv e c (d+b);rw [<-Nat.add_assoc];omega
def aBk {f:Nat->Nat->Int} {c:Nat->Nat} {g q:Nat} (n:∀b p,f b p=0↔eqW a g b p) (t:∀b,b+1 < q->¬ltW a g (c (b+1)) (c b)) (b e:Nat) (w:b+e < q):
 (cN f c b < cN f c (b+e)↔ltW a g (c b) (c (b+e)))/\¬ltW a g (c (b+e)) (c b):=by
 induction e with
 | zero=>exact ⟨⟨fun d=>absurd d (by simp),fun d=>d.irrefl.elim⟩,fun d=>d.irrefl⟩
 | succ e u=>
   obtain ⟨r,k⟩:=u oM;have l:=t (b+e) oM;have v:=tU f c b e;have j:cN f c (b+(e+1))=cN f c (b+e)+(if f (c (b+e)) (c (b+e+1))≠0 then 1 else 0):=rfl;rw [show b+(e+1)=b+e+1 from rfl] at j⊢;have s:¬ltW a g (c (b+e+1)) (c b):=fun d=>l (d.le_right k);refine ⟨?_,s⟩;by_cases i:f (c (b+e)) (c (b+e+1))=0;have o:=(n _ _).1 i;rw [j,zBw (by simpa using i),zBq,r];exact ⟨fun d=>d.eq_right o,fun d=>d.eq_right o.symm⟩;rw [j,zBx i];refine ⟨fun _=>?_,fun _=>by omega⟩;have m:ltW a g (c (b+e)) (c (b+e+1)):=(by rcases oB (a:=a) g (c (b+e)) (c (b+e+1)) with d | d | d;exact d;exact absurd ((n _ _).2 d) i;exact absurd d l);rcases oB (a:=a) g (c b) (c (b+e)) with d | d | d;exact d.trans m;exact ltW.eq_left d m;exact absurd d k
end
def aFk {l:List Nat} {f b c:Nat} (m:l.length<=f) (i:b < l.length) (k:c < l.length) (j:b≠c):¬eqW (aN l) f b c:=by
 intro e;rcases zBe b c with g | g;have d:=e (l.length - c) oM;rw [mO (show l.length<=c+(l.length - c) by omega)] at d;have:=jJ (l:=l) (p:=b+(l.length - c)) oM;omega;have d:=e (l.length - b) oM;rw [mO (show l.length<=b+(l.length - b) by omega)] at d;have:=jJ (l:=l) (p:=c+(l.length - b)) oM;omega
def aF8 {c g:List Nat} {w:Nat->Nat->Int} {f:Nat->Nat} {q:Nat} (E:0 < q) (y:∀b d,w b d=0↔eqW (aN c) q b d) (z:∀b,b+1 < c.length->¬ltW (aN c) q (f (b+1)) (f b))
 (o:g.length=c.length) (x:∀b,b < c.length->g[f b]?=some (cN w f b)) (A:∀e,e < c.length->∃b,b < c.length/\f b=e):RankOk (aN c) (aN g) q:=by
 have G:∀b d,b < c.length->d < c.length->(aN g (f b) < aN g (f d)↔ltW (aN c) q (f b) (f d)):=by intro b d t u;rw [kI (x b t),kI (x d u)];rcases zBe b d with C | C;have:=(aBk y z b (d - b) oM).1;rw [show b+(d - b)=d by omega] at this;rw [<-this];omega;have n:=aBk y z d (b - d) oM;rw [show d+(b - d)=b by omega] at n;have s:=(tU w f d (b - d)).1;rw [show d+(b - d)=b by omega] at s;exact ⟨fun j=>absurd j oM,fun j=>absurd j n.2⟩
 intro e k;rcases zBe e c.length with m | m;obtain ⟨b,t,rfl⟩:=A e m;rcases zBe k c.length with i | i;obtain ⟨d,u,rfl⟩:=A k i;exact G b d t u;have n:=jJ (l:=g) (p:=f b) (by rw [o];exact m);have s:=mO (l:=g) (p:=k) (by rw [o];exact i);refine ⟨fun j=>absurd j oM,fun ⟨v,F,B,r⟩=>?_⟩;exfalso;have H:=jJ (l:=c) (p:=f b) m;rcases v with _ | v;rw [zBq,zBq,mO i] at r;omega;have:=B 0 oM;rw [zBq,zBq,mO i] at this;omega;have s:=mO (l:=g) (p:=e) (by rw [o];exact m);rcases zBe k c.length with i | i;have n:=jJ (l:=g) (p:=k) (by rw [o];exact i);refine ⟨fun _=>⟨0,E,fun I D=>absurd D oM,?_⟩,fun _=>by omega⟩;rw [zBq,zBq,mO m];have:=jJ (l:=c) (p:=k) i;omega;have n:=mO (l:=g) (p:=k) (by rw [o];exact i);refine ⟨fun j=>absurd j oM,fun ⟨v,F,B,r⟩=>?_⟩;rw [mO oM,mO oM] at r;exact absurd r oM
def aKj {a:Nat->Int} {f:Nat->Nat->Int} {d:Nat->Nat} {g e:Nat} (m:∀b c,f b c=0↔eqW a g b c) (n:∀b,b+1 < e->¬ltW a g (d (b+1)) (d b)) (s:0 < e) (r:cN f d (e - 1)=e - 1) (b c:Nat) (p:b < c) (q:c < e):ltW a g (d b) (d c):=by
 have j:=tU f d 0 b;have k:=tU f d b (c - b);have l:=tU f d c (e - 1 - c);have o:cN f d 0=0:=rfl;rw [zBi] at j;rw [show b+(c - b)=c by omega] at k;rw [show c+(e - 1 - c)=e - 1 by omega] at l;have i:=(aBk m n b (c - b) oM).1;rw [show b+(c - b)=c by omega] at i;exact i.1 oM
def aJw {d:Nat->Nat->Int} {c:Nat->Nat} {n:Nat} (e:∀b,b+1 < n->d (c b) (c (b+1))≠0) (b:Nat) (f:b < n):cN d c b=b:=by
 induction b with
 | zero=>rfl
 | succ b g=>
   show cN d c b+_=_;rw [zBx (e b f),g oM]
def aD8 (b:List Nat):RankOk (aN b) (aN b) 1:=by
 intro i j;constructor;intro c;exact ⟨0,by omega,fun k e=>absurd e oM,c⟩;rintro ⟨f,g,_,d⟩;have:f=0:=oM;subst this;exact d
end
section
open Go.RowKit Go
section
variable {P : Program} {ops : Array Oper} {Q : Exit -> Act -> World -> Prop} {md : Region.Mode}
def vE (P:Program) (ops:Array Oper) (Q:Exit->Act->World->Prop) (md:Region.Mode) (o:(Operand->Value)->World->Prop) (p:Nat->Value->World->World->Prop) (q:Nat->World->Prop) (k:Nat->(Operand->Value)->Value->World->Prop) (d:Act) (b:Nat) (m:Oper):Prop:=
 ∀a c,o a.eval c->q b c->a.tmps.size=d.tmps.size->a.defers=d.defers->
    (∀f,qR md ops b f=true->a.tmps.getD f undef=d.tmps.getD f undef)->
    (∀e∈m.after,Region.binds md e=true->∀n l,ops[e.on]?=some n->n.dst=some l->k e.on a.eval (a.tmps.getD l undef) c)->
    ∀j:Act->World->Prop,(∀g i,p b g c i->k b a.eval g i->j (a.put m.dst g) i)->wpOp P ops Q b j a c
def cY {q:(Operand->Value)->World->Prop} {r:Nat->Value->World->World->Prop} {s:Nat->World->Prop} {n:Nat->(Operand->Value)->Value->World->Prop} {t:Act} {e:Nat} {c:Oper} (E:ops[e]?=some c) (C:c.guard=none)
 (w:∀b:Operand->Value,∀d,q b d->s e d->(∀f,b (.const f)=f)->(∀u,b (.func u)=.func (.func u) #[] #[])->(∀i,qR md ops e i=true->b (.tmp i)=t.eval (.tmp i))->
  (∀m k,c.after.toList.any (fun g=>Region.binds md g&&g.on==m)=true->((ops[m]?).bind (·.dst))=some k->n m b (b (.tmp k)) d)->
  ∀a j,a.eval=b->(∀f p,r e f d p->n e b f p->j (a.put c.dst f) p)->Oper.upon P c a j Q ((execOp b c).run P d)):vE P ops Q md q r s n t e c:=by
 intro a d z A L K F H j y;unfold wpOp;simp only [E];have I:Region.wanted c (yielded ops a.tmps)=true:=by unfold Region.wanted;rw [C]
 rw [zBx I];refine .inl (w a.eval d z A (fun _=>rfl) (fun _=>rfl) (fun i G=>F i G) (fun m k D l=>?_) a j rfl y);obtain ⟨g,B,v⟩:=List.any_eq_true.1 D;simp only [zBd,zCq] at v;obtain ⟨x,rfl⟩:=v;cases o:ops[g.on]? with
 | none=>rw [o] at l;cases l
 | some J=>rw [o] at l;exact H g (Array.mem_toList_iff.1 B) x J k o l
def aJQ {n:Nat} (l:gR md ops n=true):∀d c e,upB md ops d c e=true->e < c:=by
 intro d
 induction d with
 | zero=>intro c e b;cases b
 | succ d m=>
   intro c e b;unfold upB at b;cases g:ops[c]? with
   | none=>rw [g] at b;cases b
   | some p=>
     rw [g] at b;obtain ⟨j,k,f⟩:=List.any_eq_true.1 b;simp only [zBd,Bool.or_eq_true,zCq] at f;have o:=(dY l g).1 j (Array.mem_toList_iff.1 k) f.1;rcases f.2 with i | i;omega;have:=m _ _ i;omega
def aDM {g:Nat} (e:gR md ops g=true) (d b c:Nat) (i:c<=b) (f:upB md ops d c b=true):False:=by
 have:=aJQ e d c b f;omega
structure LooseF (md:Region.Mode) (ops:Array Oper) (C:(Operand->Value)->World->Prop) (U:Nat->World->Prop) (V:Nat->(Operand->Value)->Value->World->Prop) (a0:Act) (listed:Array Bool) (a:Act) (w:World):Prop where
 world:C a.eval w
 pre:∀j o,ops[j]?=some o->listed.getD j false=false->U j w
 size:a.tmps.size=a0.tmps.size
 defers:a.defers=a0.defers
 old:∀t,(∀k p,ops[k]?=some p->p.dst=some t->listed.getD k false=false)->a.tmps.getD t undef=a0.tmps.getD t undef
 val:∀i o,ops[i]?=some o->listed.getD i false=true->∃v,(∀d,o.dst=some d->a.tmps.getD d undef=v)/\V i a.eval v w
 shut:∀k p,ops[k]?=some p->listed.getD k false=true->∀e∈p.after,Region.binds md e=true->listed.getD e.on false=true
def aAH (y:(Operand->Value)->World->Prop) (T:Nat->Value->World->World->Prop) (H:Nat->World->Prop) (z:Nat->(Operand->Value)->Value->World->Prop) (u:Act)
 (Y:World) (W:gR md ops u.tmps.size=true) (ac:y u.eval Y) (ae:∀b,H b Y) (ab:∀c d v w i g t,ops[c]?=some d->(∀l,d.dst=some l->w (.tmp l)=i)->(∀j,d.dst≠some j->w (.tmp j)=v (.tmp j))->y v g->T c i g t->y w t) (ad:∀b c i g t,b≠c->upB md ops ops.size c b=false->H b g->T c i g t->H b t)
 (an:∀c d v w i g,ops[c]?=some d->(∀j,d.dst≠some j->w (.tmp j)=v (.tmp j))->z c v i g->z c w i g)
 (ao:∀b c d v w i a5 g t,ops[c]?=some d->(∀j,d.dst≠some j->w (.tmp j)=v (.tmp j))->b≠c->upB md ops ops.size b c=false->z b v i g->y v g->T c a5 g t->z b w i t)
 (ap:∀c d,ops[c]?=some d->vE P ops Q md y T H z u c d)
 (ai:∀a g,y a.eval g->a.tmps.size=u.tmps.size->a.defers=u.defers->
  (∀j,(∀(r:Nat) (n:Oper),ops[r]?=some n->n.dst≠some j)->a.tmps.getD j undef=u.tmps.getD j undef)->
  (∀b d,ops[b]?=some d->∃i,(∀l,d.dst=some l->a.tmps.getD l undef=i)/\z b a.eval i g)->Q .normal a g):
 wpAny P md ops Q ops.size (Array.replicate ops.size false) u Y:=by
 have a7:∀e a g,e.size=ops.size->(∀b,b < ops.size->e.getD b false=true)->LooseF md ops y H z u e a g->Q .normal a g:=by intro e a g F U f;refine ai a g f.world f.size f.defers (fun j E=>f.old j fun r n k o=>absurd o (E r n k)) fun b d m=>f.val b d m (U b (zAh.1 m).1)
 have aw:∀e:Array Bool,e.size=ops.size->Region.ready md ops e= []->∀b,b < ops.size->e.getD b false=true:=by
  intro e F S b
  induction b using Nat.strongRecOn with
  | _ b a4=>
    intro q;cases I:e.getD b false with
    | true=>rfl
    | false=>
      exfalso;have X:b∈Region.ready md ops e:=(by refine mem_ready.2 ⟨?_,ops[b],zAq q,fun p C B=>?_⟩;have N:b < e.size:=oM;simp [N] at I⊢;exact I;have:=(dY W (zAq q)).1 p C B;exact a4 p.on this oM);rw [S] at X;cases X
 have av:∀K e a g,e.size=ops.size->e.toList.count false<=K->LooseF md ops y H z u e a g->wpAny P md ops Q K e a g:=by
  intro K
  induction K with
  | zero=>
    intro e a g F I f
    have U:∀b,b < ops.size->e.getD b false=true:=by
        intro b q;have N:b < e.size:=oM;cases G:e.getD b false with
        | true=>rfl
        | false=>
          exfalso;have:false∈e.toList:=(by simp [N] at G;exact G ▸(by simp));have:=List.count_pos_iff.2 this;omega
    refine ⟨?_,a7 e a g F U f⟩;cases S:Region.ready md ops e with
    | nil=>rfl
    | cons b ax=>
      exfalso;have q:b∈Region.ready md ops e:=(by rw [S];exact List.mem_cons_self ..);obtain ⟨L,d,m,_⟩:=mem_ready.1 q;have J:b < ops.size:=(zAh.1 m).1;have x:=U b J;have N:b < e.size:=oM;simp [N] at L x;rw [L] at x;cases x
  | succ K a4=>
    intro e a g F I f;refine ⟨fun S=>a7 e a g F (aw e F S) f,fun c ak=>?_⟩;obtain ⟨L,d,m,a0⟩:=mem_ready.1 ak;have J:c < ops.size:=(zAh.1 m).1;have D:c < e.size:=oM;have A:e.getD c false=false:=by simp [D] at L⊢;exact L
    have a3:∀i j,d.dst≠some j->(a.put d.dst i).eval (.tmp j)=a.eval (.tmp j):=by
        intro i j E;cases R:d.dst with
        | none=>rfl
        | some l=>
          have M:l≠j:=fun p=>E (by rw [R,p]);simp [Act.eval,Act.put,zAm,M]
    have ah:∀i l,d.dst=some l->(a.put d.dst i).eval (.tmp l)=i:=(by intro i l o;have a1:=((dY W m).2 l o).1;have:l < a.tmps.size:=(by rw [f.size];exact a1);simp [Act.eval,Act.put,zAm,o,this]);refine ap c d m a g f.world (f.pre c d m A) f.size f.defers (fun j E=>f.old j fun r n k o=>?_) (fun p C B n l k o=>by obtain ⟨i,x,aa⟩:=f.val p.on n k (a0 p C B);rw [x l o];exact aa) _ fun i t Z af=>?_
    · rcases uX E k o with rfl |⟨p,C,B,aj⟩;exact A
      · cases s:e.getD r false with
        | false=>rfl
        | true=>
          have:=f.shut r n k s p C B;rw [aj,A] at this;cases this
    · refine a4 _ _ _ (by simpa using F) ?_ ?_;have G:e.toList[c]'(by simpa using D)=false:=(by simp [D] at A⊢;exact A);rw [Array.toList_setIfInBounds,List.count_set (by simpa using D),G];simp;have X:false∈e.toList:=G ▸ zBj _;have:=List.count_pos_iff.2 X;rw [<-Array.count_toList];omega
      · have aq:(a.put d.dst i).tmps.size=u.tmps.size:=by
          rw [<-f.size];cases d.dst with
          | none=>rfl
          | some l=>simp [Act.put]
        refine ⟨ab c d _ _ i g t m (ah i) (a3 i) f.world Z,fun b n k q=>?_,aq,?_,fun j E=>?_,fun b n k q=>?_,fun r n k s p C B=>?_⟩
        · have a8:b≠c:=fun p=>by rw [p,bM _ _ D] at q;cases q
          rw [getD_set_ne false a8.symm] at q;refine ad b c i g t a8 ?_ (f.pre b n k q) Z;cases au:upB md ops ops.size c b with
          | false=>rfl
          | true=>
            have:=iA f.shut _ c b d m a0 au;rw [q] at this;cases this
        · rw [<-f.defers];cases d.dst <;> rfl
        · have al:d.dst≠some j:=fun o=>by have:=E c d m o;rw [bM _ _ D] at this;cases this
          have am:=f.old j fun r n k o=>by
           have:=E r n k o;cases s:e.getD r false with
           | false=>rfl
           | true=>
             by_cases a9:c=r
             · subst a9;rw [A] at s;cases s
             · rw [getD_set_ne false a9,s] at this;cases this
          rw [<-am];cases R:d.dst with
          | none=>rfl
          | some l=>
            have M:l≠j:=fun f=>al (by rw [R,f]);simp [Act.put,zAm,M]
        · rcases eP _ _ _ q with rfl | V
          · rw [m] at k;injection k with k;subst k;refine ⟨i,fun l o=>?_,an _ _ _ _ _ _ m (a3 i) af⟩;have a1:=((dY W m).2 l o).1;rw [o];have:l < a.tmps.size:=(by rw [f.size];exact a1);simp [Act.put,zAm,this]
          · by_cases a2:b=c
            · subst a2;rw [A] at V;cases V
            obtain ⟨a5,ar,G⟩:=f.val b n k V
            have ag:upB md ops ops.size b c=false:=by
              cases I:upB md ops ops.size b c with
              | false=>rfl
              | true=>
                exfalso;have:=iA f.shut _ b c n k (f.shut b n k V) I;rw [A] at this;cases this
            refine ⟨a5,fun l o=>?_,ao _ _ _ _ _ _ _ _ _ m (a3 i) a2 ag G f.world Z⟩;rw [<-ar l o];cases R:d.dst with
            | none=>rfl
            | some a6=>
              have M:a6≠l:=fun f=>a2 (((dY W m).2 a6 R).2 b n k (f ▸ o));simp [Act.put,zAm,M]
        rcases eP _ _ _ s with rfl | s;rw [m] at k;injection k with k;subst k;have x:=a0 p C B;by_cases O:r=p.on;rw [<-O];exact bM _ _ D _;rw [getD_set_ne false O];exact x;have x:=f.shut r n k s p C B;by_cases O:c=p.on;rw [<-O];exact bM _ _ D _;rw [getD_set_ne false O];exact x
 refine av _ _ _ _ (by simp) (by simp) ⟨ac,fun c _ _ _=>ae c,rfl,rfl,fun _ _=>rfl,fun b d m q=>?_,fun r n k s=>?_⟩
 · have J:b < ops.size:=(zAh.1 m).1;simp [J] at q
 · have J:r < ops.size:=(zAh.1 k).1;simp [J] at s
def aAG (u:List Nat) (n:(Operand->Value)->World->Prop) (q:Nat->Value->World->World->Prop) (r:Nat->World->Prop) (j:Nat->(Operand->Value)->Value->World->Prop) (o:Act) (s:World)
 (E:ops.toList.filterMap (·.dst)=u)
 (H:gR md ops o.tmps.size=true) (z:n o.eval s) (C:∀b,r b s) (y:∀d g e k f c m,ops[d]?=some g->(∀l,g.dst=some l->k (.tmp l)=f)->(∀i,g.dst≠some i->k (.tmp i)=e (.tmp i))->n e c->q d f c m->n k m) (B:∀b d f c m,b≠d->upB md ops ops.size d b=false->r b c->q d f c m->r b m)
 (J:∀d g e k f c,ops[d]?=some g->(∀i,g.dst≠some i->k (.tmp i)=e (.tmp i))->j d e f c->j d k f c)
 (L:∀b d g e k f S c m,ops[d]?=some g->(∀i,g.dst≠some i->k (.tmp i)=e (.tmp i))->b≠d->upB md ops ops.size b d=false->j b e f c->n e c->q d S c m->j b k f m)
 (M:∀d g,ops[d]?=some g->vE P ops Q md n q r j o d g)
 (F:∀(e:Operand->Value) c,n e c->(∀b l,((ops[b]?).bind (·.dst))=some l->j b e (e (.tmp l)) c)->(∀b,b < ops.size->∃f,j b e f c)->Q .normal (dG e u o) c):
 wpAny P md ops Q ops.size (Array.replicate ops.size false) o s:=by
 refine aAH n q r j o s H z C y B J L M fun a c A N D I x=>?_;have t:=F a.eval c A (fun b l p=>by
  cases w:ops[b]? with
  | none=>rw [w] at p;cases p
  | some g=>
    rw [w] at p;obtain ⟨f,t,v⟩:=x b g w;have:=t l p;change j b a.eval (a.tmps.getD l undef) c;rw [this];exact v) (fun b G=>by
  obtain ⟨f,_,v⟩:=x b _ (zAq G);exact ⟨f,v⟩)
 rw [<-lC a o u N D fun i O=>I i fun T R K p=>O ?_] at t;exact t;rw [<-E];exact List.mem_filterMap.2 ⟨R,Array.mem_toList_iff.2 (Array.mem_of_getElem? K),p⟩
end
def blk?:Value->Option Nat
 | .pointer (some a)=>some a.block
 | .slice (some a) _ _=>some a.block
 | _=>none
def aDI (e:List Nat) (d:Operand->Value) (g:World):Prop:=
 (∀c∈e,∀b,blk? (d (.tmp c))=some b->b < g.heap.size)/\∀c∈e,∀f∈e,c≠f->∀b,blk? (d (.tmp c))=some b->blk? (d (.tmp f))≠some b
def xH {e:List Nat} {d:Operand->Value} {k:World} (i:(e.all fun b=>(blk? (d (.tmp b))).isNone)=true):aDI e d k:=by
 have j:∀b∈e,blk? (d (.tmp b))=none:=fun b c=>by simpa using zBf.1 i b c
 refine ⟨fun b c g f=>?_,fun b c _ _ _ g f=>?_⟩<;>(rw [j b c] at f;cases f)
def aIO (c:Value) (d e:World):Prop:=∀b,blk? c=some b->d.heap.size<=b/\b < e.heap.size
def aAC (i:List Nat) (ops:Array Oper) (f:World->World->Prop) (e d:Nat) (j:Value) (b c:World):Prop:=b.heap.size<=c.heap.size/\(d=e->f b c)/\(d≠e->Grow b c)/\∀g∈i,((ops[d]?).bind (·.dst))=some g->aIO j b c
def dQ {e:List Nat} {ops:Array Oper} {j:World->World->Prop} {d c:Nat} {p:Value} {g i:World} (f:Grow g i) (o:(c==d)=false) (n:(e.all fun b=>((ops[c]?).bind (·.dst))!= some b)=true):aAC e ops j d c p g i:=
 ⟨f.size,fun k=>by simp [k] at o,fun _=>f,fun b l m=>by have:=zBf.1 n b l;simp [m] at this⟩
def jG {k:List Nat} {ops:Array Oper} {i:World->World->Prop} {d f:Nat} {g:Value} {b c:World} (e:Grow b c) (m:(f==d)=false) (l:aIO g b c):aAC k ops i d f g b c:=
 ⟨e.size,fun j=>by simp [j] at m,fun _=>e,fun _ _ _=>l⟩
def aH5 {g:List Nat} {ops:Array Oper} {f:World->World->Prop} {b:Nat} {o:Value} {d e:World} (j:f d e) (n:d.heap.size<=e.heap.size) (m:(g.all fun c=>((ops[b]?).bind (·.dst))!= some c)=true):aAC g ops f b b o d e:=
 ⟨n,fun _=>j,fun i=>absurd rfl i,fun c k l=>by have:=zBf.1 m c k;simp [l] at this⟩
abbrev KP:=List Nat×((Operand->Value)->Value->World->Prop)
def k0 (b:Value->World->Prop):KP:=([],fun _ c d=>b c d)
def kEq (b:Nat):KP:=([b],fun c d _=>d=c (.tmp b))
def kLk (c d:Nat) (e:Value->Value->World->Prop):KP:=([c,d],fun b _ f=>e (b (.tmp c)) (b (.tmp d)) f)
def aDC (b:KP):Prop:=∀c d:Operand->Value,(∀e∈b.1,d (.tmp e)=c (.tmp e))->∀f g,b.2 c f g->b.2 d f g
def aED (c:Value->World->Prop):aDC (k0 c):=fun _ _ _ _ _ b=>b
def aFw (b:Nat):aDC (kEq b):=fun g c e f i d=>by
 show f=c (.tmp b);rw [e b (by simp [kEq])];exact d
def aJq (b c:Nat) (f:Value->Value->World->Prop):aDC (kLk b c f):=fun j d e k i g=>by
 show f (d (.tmp b)) (d (.tmp c)) i;rw [e b (by simp [kLk]),e c (by simp [kLk])];exact g
def aEQ (g:World->World->Prop) (c:KP):Prop:=∀b d e f,c.2 b d e->g e f->c.2 b d f
def jB {f:World->World->Prop} {e:Value->World->Prop} (g:∀b c d,e b c->f c d->e b d):aEQ f (k0 e):=fun _ b c d i j=>g b c d i j
def uR (b:World->World->Prop) (c:Value):aEQ b (k0 (is c)):=fun _ _ _ _ d _=>d
def aB6 (b:World->World->Prop):aEQ b (k0 dA):=fun _ _ _ _ _ _=>trivial
def qF (b:World->World->Prop) (d:Nat):aEQ b (kEq d):=fun _ _ _ _ c _=>c
def qE {e:World->World->Prop} {l m:Nat} {d:Value->Value->World->Prop} (i:∀f g b c,d f g b->e b c->d f g c):aEQ e (kLk l m d):=fun _ _ b c j k=>i _ _ b c j k
def VsQ (d:List KP) (c:Nat) (b:Operand->Value) (e:Value) (f:World):Prop:=(d.getD c (k0 dA)).2 b e f
def aFd (b:List KP) (c:Nat):b.getD c (k0 dA)∈b∨b.getD c (k0 dA)=k0 dA:=by
 rw [zAb];cases d:b[c]? with
 | none=>exact .inr rfl
 | some e=>exact .inl (zAd d)
def vH {P:Program} {ops:Array Oper} {Q:Exit->Act->World->Prop} {md:Region.Mode} (O t:List Nat) (C:Nat) (D:World->World->Prop) (B:World->Prop) (i:List KP) (E:Act) (K:World)
 (s:ops.toList.filterMap (·.dst)=O) (V:gR md ops E.tmps.size=true)
 (af:((List.range ops.size).all fun c=>(List.range ops.size).all fun d=>match ops[d]? with
  | some f=>upB md ops ops.size c d||(i.getD c (k0 dA)).1.all fun k=>f.dst != some k
  | none=>true)=true)
 (a4:B K) (a2:aDI t E.eval K) (a3:∀b l,B b->(Grow b l∨D b l)->B l)
 (aa:∀H∈i,aDC H) (N:∀H∈i,aEQ Grow H) (ai:∀H∈i.eraseIdx C,aEQ D H)
 (aj:∀d f,ops[d]?=some f->vE P ops Q md (fun e b=>B b/\aDI t e b) (aAC t ops D C) (fun _ _=>True) (VsQ i) E d f)
 (ac:∀(e:Operand->Value) b,B b->aDI t e b->(∀c F,((ops[c]?).bind (·.dst))=some F->VsQ i c e (e (.tmp F)) b)->(∀c,c < ops.size->∃g,VsQ i c e g b)->Q .normal (dG e O E) b):
 wpAny P md ops Q ops.size (Array.replicate ops.size false) E K:=by
 have a8:∀ {d g b l},aAC t ops D C d g b l->Grow b l∨D b l:=fun {d g b l} q=>by by_cases w:d=C;exact .inr (q.2.1 w);exact .inl (q.2.2.1 w)
 have ah:∀d,upB md ops ops.size d d=false:=by
  intro d;cases T:upB md ops ops.size d d with
  | false=>rfl
  | true=>exact (aDM V _ _ _ nL T).elim
 have ab:∀c,aDC (i.getD c (k0 dA)):=fun c=>by rcases aFd i c with q | q;exact aa _ q;rw [q];exact aED _
 have U:∀c d f (e p:Operand->Value) g b,c < ops.size->ops[d]?=some f->(∀k,f.dst≠some k->p (.tmp k)=e (.tmp k))->upB md ops ops.size c d=false->VsQ i c e g b->VsQ i c p g b:=by intro c d f e p g b z o r S A;have m:=zBf.1 (zBf.1 af c (by simpa using z)) d (by simpa using (zAh.1 o).1);simp only [o,S,Bool.false_or] at m;exact ab c e p (fun k J=>r k (by have:=zBf.1 m k J;simpa using this)) g b A
 refine aAG O (fun e b=>B b/\aDI t e b) (aAC t ops D C) (fun _ _=>True) (fun c e g b=>c < ops.size->VsQ i c e g b) E K s V ⟨a4,a2⟩ (fun _=>trivial) (fun d f e p g b l o y r q G=>⟨a3 b l q.1 (a8 G),?_⟩) (fun _ _ _ _ _ _ _ _ _=>trivial) (fun d f e p g b o r A w=>U d d f e p g b w o r (ah d) (A w)) (fun c d f e p g am b l o r ad S A T G z=>?_) (fun d f o a b m n Y Z a0 a1 X a5=>aj d f o a b m n Y Z a0 (fun L r a9 ak F W y=>a1 L r a9 ak F W y (zAh.1 W).1) X (fun g l a6 a7=>a5 g l a6 fun _=>a7)) (fun e b q m n=>ac e b q.1 q.2 (fun c F y=>m c F y (by
  cases o:ops[c]? with
  | none=>rw [o] at y;cases y
  | some f=>exact (zAh.1 o).1)) (fun c z=>(n c z).imp fun g A=>A z))
 · have al:=G.1;obtain ⟨m,n⟩:=q.2;have R:∀j∈t,f.dst=some j->aIO (p (.tmp j)) b l:=fun j x s=>by rw [y j s];exact G.2.2.2 j x (by rw [o];exact s)
   refine ⟨fun j x u v=>?_,fun j x k J N u v I=>?_⟩;by_cases s:f.dst=some j;exact (R j x s u v).2;rw [r j s] at v;have:=m j x u v;omega;by_cases s:f.dst=some j;have M:f.dst≠some k:=fun L=>N (by rw [s] at L;injection L);rw [r k M] at I;have:=(R j x s u v).1;have:=m k J u I;omega;rw [r j s] at v;by_cases M:f.dst=some k;have:=(R k J M u I).1;have:=m j x u v;omega;rw [r k M] at I;exact n j x k J N u v I
 · have m:=U c d f e p g b z o r S (A z);unfold VsQ at m⊢;by_cases w:d=C
   · subst w
     have ag:i.getD c (k0 dA)∈i.eraseIdx d∨i.getD c (k0 dA)=k0 dA:=by
        rw [zAb];cases ae:i[c]? with
        | none=>exact .inr rfl
        | some H=>exact .inl (List.mem_eraseIdx_iff_getElem?.2 ⟨c,ad,ae⟩)
     rcases ag with n | n;exact ai _ n p g b l m (G.2.1 rfl)
     · rw [n];trivial
   · rcases aFd i c with n | n;exact N _ n p g b l m (G.2.2.1 w)
     · rw [n];trivial
end
end Go.Proofs.YthldmddkfbijhaaGreatDoor
