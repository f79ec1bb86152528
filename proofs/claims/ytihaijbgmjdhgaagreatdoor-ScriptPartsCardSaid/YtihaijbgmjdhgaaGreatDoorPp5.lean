/- Lemmas of the walk. Conditions: each its own. -/
import Derived.Test.YtihaijbgmjdhgaaGreatDoorPp1
import Derived.Test.YtihaijbgmjdhgaaGreatDoorPp2
import Derived.Test.YtihaijbgmjdhgaaGreatDoorPp3
import Derived.Test.YtihaijbgmjdhgaaGreatDoorProg
set_option linter.all false
set_option maxRecDepth 100000
set_option maxHeartbeats 4000000
namespace Go.Proofs.YtihaijbgmjdhgaaGreatDoor
open Tryz
section
open Go.RowKit
theorem aAm:(prog.info? 291).map (fun b=>(b.zero,b.size,b.bytes))=some (some (.agg #[.int .i64 0,.int .i64 0,.int .i64 0,.int .i64 0,.int .i64 0,.int .i64 0,.int .i64 0,.pointer none]),8,64):=by kernel_rfl
theorem uP {d:World} {c f:Nat} {g:TypeId} {b:Array Value} (e:Bk d c g b) (i:b.size=f):Rd d d.heap.size f (some ⟨c,0,none⟩) 1 b.toList:=by
 refine ⟨by simp [i],fun _=>⟨c,0,rfl,e.lt,fun k l j=>?_⟩⟩;rw [zBh,e.cell k];rw [<-j];simp
structure Leaf (w:World) (B gt ga gl cl gb:Nat) (rt v:Int) (bs:List Bool):Prop where
 tree:Bk w gt 288 #[ga,.slice (some gl) 1 cl,.int .i64 rt,.int .i64 v]
 row:RowS B gl cl gb (bs.length:Int) ((bs.count true:Nat):Int) w
 blk:Bk w gb 320 (jQ bs)
 arena:∃A c,Bk w ga 204 #[.slice A 1 c,.slice none 0 0,.int .i64 268435456]/\Made w B 4 1 A 1 c [.bool true]
theorem aCR {l:World} {d:Nat} {c:Option Addr} {e:Nat} {m:List Value} {f:TypeId} {k:Nat} (j:l.ownsRow d f k (.slice c 1 e) 1 m):∃i,c=some ⟨i,0,none⟩:=by
 obtain ⟨g,n,b,_,_⟩:=World.ownsRow.form j oM;injection b with b;exact ⟨g,b⟩
theorem aCZ {j k:World} {p e n s w:Nat} {B C:Int} {d:Option Addr} {c f:Nat} {l:List Value} (z:RowS p n s w B C j) (A:Keep (fun q=>q=n) j k) (b:Made j e 4 1 d c f l):Made k e 4 1 d c f l:=by
 have o:k.ownsRow e 4 1 (.slice d c f) c l:=by refine ⟨b.own.1,?_⟩;rcases b.own.2 with g |⟨m,r,u,g,x,i,y⟩;exact .inl g;refine .inr ⟨m,r,u,g,x,(A.block m (lt_of_block i) (fun v=>?_)).trans i,y⟩;exact z.bk_ne (t:=4) i dC v
 exact ⟨o,Rd.of_own o,b.cap,b.max⟩
theorem xC (b j i:Nat) (A:Int) (H:List Bool) (k:World) (z:Bk k b 288 #[j,.slice none 0 0,.int .i64 (-1),.int .i64 A]) (w:Bk k j 204 #[.slice none 0 0,.slice none 0 0,.int .i64 268435456]) (l:Bk k i 320 (jQ H)) (an:H.length<=128):
 Calls prog 341 #[b,.agg #[.int .i64 (-1),.int .i64 (-1),.int .i64 0,.int .i64 0,.int .i64 0,.int .i64 0,.int .i64 0,i]] k fun n a0=>n=.returned (.int .i64 0)/\Keep (fun c=>c=j∨c=b) k a0/\∃o a7,Leaf a0 k.heap.size b j o a7 i (-1) A H:=by
 obtain ⟨aH,ak,aB,aD,aE⟩:=info_parts aAm;have b3:=z.lt;have b0:=w.lt;have b1:=l.lt;have Y:b≠j:=Bk.ne z w dC;have ay:b≠i:=Bk.ne z l dC;have af:j≠i:=Bk.ne w l dC;have b5:k.cell? b=some (.pointer (some j)):=(z.cell 0).trans rfl;obtain ⟨a6,a4,a5⟩:=hqq3 z w l;clear z w l;go_enter func341,ntmps341;go_wp2_with fail;obtain ⟨g,U⟩:=eqx k.heap.size;refine (yE j _ (a4.out.alloc _)).mono ?_;rintro n w1 ⟨rfl,y,O,P,ac,T⟩;have aq:Bk w1 g 291 #[.int .i64 (-1),.int .i64 (-1),.int .i64 0,.int .i64 0,.int .i64 0,.int .i64 0,.int .i64 0,i]:=by rw [<-U];exact y.bk (Bk.new k _ _) (fun e=>absurd (show k.heap.size=j from e) oM)
 have W:=y.bk (a6.out.alloc _) (fun e=>Y e);have ag:=y.bk (a5.out.alloc _) (fun e=>af e.symm);have aw:=y.size;rw [World.size_alloc] at aw T;have b6:w1.cell? ⟨b,1,none⟩=some (.slice none 0 0):=(W.cell 1).trans rfl;have a2:=lhd y;clear y;go_wp2_with fail;refine wp_region_any kR ?_;refine bB [22,23,24,25,26,27,28,29,30,31] (fun c=>c=b) 10 [4,10] (fun s=>Bk s b 288 #[j,.slice none 0 0,.int .i64 (-1),.int .i64 A]) (fun _ s=>∃t u,Bk s b 288 #[j,.slice t 1 u,.int .i64 (-1),.int .i64 A]/\Made s (g+1) 291 8 t 1 u (qY 0 0 i)) [is b,is b,is b,is (.pointer (some ⟨b,1,none⟩)),is (.slice none 0 0),is (.agg #[.int .i64 (-1),.int .i64 (-1),.int .i64 0,.int .i64 0,.int .i64 0,.int .i64 0,.int .i64 0,i]),oS (fun c=>c=b) 291 #[.int .i64 (-1),.int .i64 (-1),.int .i64 0,.int .i64 0,.int .i64 0,.int .i64 0,.int .i64 0,i] fun J=>.slice (some ⟨J,0,none⟩) 1 1,fV (g+1) 291 8 1 (qY 0 0 i),is b,is (.pointer (some ⟨b,1,none⟩)),dJ] _ _ rfl kR kR (W) (fun s b9 e _ aj=>Bk.below e aj e.lt) (fun _ _ _ ⟨t,u,Q,ab⟩ I=>⟨t,u,Bk.below Q I Q.lt,ab.below I⟩) (by repeat' (first | exact eS _ _ | exact dN _ | exact jV _ _ _ _ | exact gN (fun c l=>by subst l;omega) _ _ _ _ |(refine zAe.2 ⟨?_,?_⟩)|(intro Z au;cases au))) ?_ ?_
 · refine aG ?_;refine pH3 0 (.pointer (some b)) ?_;refine pH3 0 (.pointer (some b)) ?_;refine pV3 1 23 ?_;refine pV3 2 24 ?_;refine sC3 (fun _ d _ K _ _ _ m _ _ _ q=>?_) ?_
   · have D:=K rfl;have aQ:_=_:=m 3 25 kR rfl;have aO:d.cell? ⟨b,1,none⟩=some (.slice none 0 0):=(D.cell 1).trans rfl;go_simp;exact kq q rfl
   refine sC3 (fun x d f _ _ _ ar _ _ _ _ q=>?_) ?_
   · replace f:Keep (fun c=>c=b) w1 d:=kD f;have aT:x (.tmp 3)=.pointer (some ⟨g,0,none⟩):=ar 3 kR;have r:=f.bk aq (fun e=>absurd (show g=b from e) oM);have ba:d.cell? ⟨g,0,none⟩=some (.int .i64 (-1)):=(r.cell 0).trans rfl;have bb:d.cell? ⟨g,1,none⟩=some (.int .i64 (-1)):=(r.cell 1).trans rfl;have bc:d.cell? ⟨g,2,none⟩=some (.int .i64 0):=(r.cell 2).trans rfl;have bd:d.cell? ⟨g,3,none⟩=some (.int .i64 0):=(r.cell 3).trans rfl;have be:d.cell? ⟨g,4,none⟩=some (.int .i64 0):=(r.cell 4).trans rfl;have bf:d.cell? ⟨g,5,none⟩=some (.int .i64 0):=(r.cell 5).trans rfl;have bg:d.cell? ⟨g,6,none⟩=some (.int .i64 0):=(r.cell 6).trans rfl;have bh:d.cell? ⟨g,7,none⟩=some (.pointer (some i)):=(r.cell 7).trans rfl;go_simp;exact kq q rfl
   refine sC3 (fun _ d f _ _ _ _ m _ _ _ q=>?_) ?_
   · replace f:Keep (fun c=>c=b) w1 d:=kD f;have aR:_=_:=m 5 27 kR rfl;go_simp;exact q _ _ (aA (bR.alloc nL _)) ⟨_,rfl,Bk.new _ _ _,fun e=>by have:=f.size;have aX:d.heap.size=b:=e;omega⟩
   refine sC3 (fun x d f _ _ _ _ m _ _ w q=>?_) ?_;replace f:Keep (fun c=>c=b) w1 d:=kD f;have a8:_=_:=m 4 26 kR rfl;have aK:(oS (fun c=>c=b) 291 #[.int .i64 (-1),.int .i64 (-1),.int .i64 0,.int .i64 0,.int .i64 0,.int .i64 0,.int .i64 0,i] fun J=>.slice (some ⟨J,0,none⟩) 1 1) (x (.tmp 28)) d:=m 6 28 kR rfl;obtain ⟨aa,a9,ah,b4⟩:=aK;subst w;have az:g+1<=d.heap.size:=(by have:=f.size;omega);refine dG d (.tmp 26) (.tmp 28) _ rfl (g+1) 291 aH _ 8 64 underlying286 ak aB aD aE rfl dC (.slice none 0 0) 0 [] a8 (World.ownsRow_nil _ _ _ _) d.heap.size (some ⟨aa,0,none⟩) 1 1 _ a9 (uP ah rfl) (by simp [Value.oneCell']) (by unfold maxLen;omega) oM az ?_;intro b7 E V B aY;rw [zBh,List.nil_append] at V;obtain ⟨G,v,rfl,M⟩:=aF V;exact q _ _ (aA ⟨B.os,B.tape,B.output,B.size,fun I al=>B.block I al (by simp [Value.ownBlock])⟩) ⟨G,v,rfl,M⟩;refine pV3 0 22 ?_;refine pV3 8 30 ?_;refine sC3 (fun x d _ K _ _ _ m _ _ _ q=>?_) ?_
   · have D:=K rfl;have aU:_=_:=m 9 31 kR rfl;have aL:(fV (g+1) 291 8 1 (qY 0 0 i)) (x (.tmp 29)) d:=m 7 29 kR rfl;obtain ⟨G,v,aS,M⟩:=aL;have aP:d.cell? ⟨b,1,none⟩=some (.slice none 0 0):=(D.cell 1).trans rfl;have aW:=D.frozen 1;go_simp;exact q (.bool true) _ (aV (Keep.setCell (F:=fun c=>c=b) (Keep.refl _ _) (p:=⟨b,1,none⟩) (.inl rfl) _)) ⟨G,v,D.set 1 _,M.keepF (Keep.setCell (F:=fun c=>c=b) (Keep.refl _ _) (p:=⟨b,1,none⟩) (.inl rfl) _) (fun c l=>by subst l;omega)⟩
   exact aC
 · intro x E f m R;replace f:Keep (fun c=>c=b) w1 E:=kD f;obtain ⟨b8,aM⟩:∃aN,(fun _ s=>∃t u,Bk s b 288 #[j,.slice t 1 u,.int .i64 (-1),.int .i64 A]/\Made s (g+1) 291 8 t 1 u (qY 0 0 i)) aN E:=R 10 dC;simp only [zqq];clear m R;obtain ⟨G,v,X,L⟩:=aM;obtain ⟨o,rfl⟩:=aCR L.own;have N:RowS (g+1) o v i 0 0 E:=L.own;have S:=f.bk ag (fun e=>ay e.symm);have ad:=f.bk ac (fun e=>Y e.symm);have ao:=T.keepF f (fun c l=>by subst l;omega);have a3:=lhd f;have b2:=N.lt;clear f L;go_wp2_with fail;refine (aBX b j o v i (g+1) (-1) A H E X N S an).mono ?_;rintro n a1 ⟨rfl,C,av⟩;have ax:=C.bk X (fun e=>absurd (show b=o from e) oM);have ai:=C.bk S (fun e=>absurd (show i=o from e) oM);have ae:=C.bk ad (fun e=>absurd (show j=o from e) oM);have ap:Made a1 k.heap.size 4 1 O 1 P [.bool true]:=(aCZ N C ao).mono oM;have am:Keep (fun c=>c=j∨c=b) k a1:=(by have aI:Keep (fun c=>c=j∨c=b) k w1:=(Keep.of_below (bR.alloc nL _)).trans (a2.out.mono (fun c _ n=>.inl n));have aJ:=aI.trans (a3.out.mono (fun c _ n=>.inr n));exact aJ.trans' C (fun c l n=>absurd (show c=o from n) oM));go_wp2_with fail;go_ret;rw [U] at*
   exact ⟨rfl,am,o,v,ax,aZ av oM,ai,O,P,ae,ap⟩
theorem xH (d c f:Nat) (j:Int) (e:List Bool) (b:World) (s:Bk b d 288 #[c,.slice none 0 0,.int .i64 (-1),.int .i64 j]) (o:Bk b c 204 #[.slice none 0 0,.slice none 0 0,.int .i64 268435456]) (p:Bk b f 320 (jQ e)) (r:e.length<=128):
 Calls prog 323 #[d,f] b fun l m=>l=.returned (.int .i64 0)/\Keep (fun k=>k=c∨k=d) b m/\∃i g,Leaf m b.heap.size d c i g f (-1) j e:=by
 go_enter func323,ntmps323;go_wp2_with fail;refine (xC d c f j e b s o p r).mono ?_;rintro l w1 ⟨rfl,q,i,g,n⟩;go_wp2_with fail;go_ret;exact ⟨rfl,q,i,g,n⟩
def aAH (c:Nat) (d:List Bool):Value->World->Prop:=fun e f=>∃b,e=.tuple #[.pointer (some ⟨b,0,none⟩),.int .i64 0]/\Bk f b 320 (jQ d)/\c<=b
def aCi (c:Nat) (d:List Bool):Value->World->Prop:=fun e f=>∃b,e=.pointer (some ⟨b,0,none⟩)/\Bk f b 320 (jQ d)/\c<=b
theorem zW (b:Nat) (c:List Bool):pG (fun _=>False) (aAH b c):=fun _ _ _ ⟨d,f,g,i⟩ j=>⟨d,f,j.bk g (fun e=>e),i⟩
theorem zX (b:Nat) (c:List Bool):pG (fun _=>False) (aCi b c):=fun _ _ _ ⟨d,f,g,i⟩ j=>⟨d,f,j.bk g (fun e=>e),i⟩
theorem Leaf.mono {m:World} {B B' i e g d f:Nat} {k l:Int} {c:List Bool} (b:Leaf m B i e g d f k l c) (j:B'<=B):Leaf m B' i e g d f k l c:=by
 obtain ⟨n,o,p,q⟩:=b.arena;exact ⟨b.tree,aZ b.row j,b.blk,n,o,p,q.mono j⟩
theorem aAG (q p:Nat) (z:Int) (i:Option Addr) (e j A:Nat) (f:List Bool) (c:World) (x:Bk c q 288 #[p,.slice none 0 0,.int .i64 (-1),.int .i64 z]) (o:Bk c p 204 #[.slice none 0 0,.slice none 0 0,.int .i64 268435456]) (w:Rd c A 1 i e (f.map Value.bool)) (Q:A<=c.heap.size) (H:e<=128) (al:e<=j):
 Calls prog 301 #[q,.slice i e j,.int .i64 0,.int .i64 1,.int .i64 1] c fun t I=>t=.returned (.int .i64 0)/\Keep (fun B=>B=p∨B=q) c I/\∃v s m,Leaf I c.heap.size q p v s m (-1) z f/\c.heap.size<=m:=by
 have F:f.length=e:=by simpa using w.1
 have ai:((e:Int)*1).tdiv 1=(e:Int):=by rw [Int.mul_one,Int.tdiv_one]
 have ak:=x.lt;have aj:=o.lt;obtain ⟨N,K,M,L,a5⟩:=hqq5 x o (w.mono Q) F (Below.refl c.heap.size c);clear x o w F;go_enter func301,ntmps301;go_wp2_with fail;refine wp_region_any kR ?_;refine bB [20,21,22,23,24,25,26,27,28,29,30,31,32,33,34,19,35,36,11,12] (fun _=>False) 19 [] (fun _=>True) (dJ) [is (.slice i e j),is (.slice i e j),is (e:Int),is (.int .i64 0),is (.int .i64 0),is (.int .i64 1),is (.int .i64 0),is (.slice i e j),is (e:Int),is (.int .i64 1),is (e:Int),is (.int .i64 1),is (e:Int),is (.slice i e j),aAH c.heap.size f,aAH c.heap.size f,aCi c.heap.size f,is (.int .i64 0),aCi c.heap.size f,dJ] _ _ rfl kR kR (trivial) (fun _ _ _ _ _=>trivial) (fun _ _ _ _ _=>trivial) (by repeat' (first | exact eS _ _ | exact dN _ | exact zW _ _ | exact zX _ _ |(refine zAe.2 ⟨?_,?_⟩)|(intro am X;cases X))) ?_ ?_
 · refine aG ?_;refine pH3 1 (.slice i e j) ?_;refine pH3 1 (.slice i e j) ?_;refine pV3 1 21 ?_;refine pH3 2 (.int .i64 0) ?_;refine sC3 (fun _ _ _ _ _ _ _ b _ _ _ d=>?_) ?_
   · have a7:_=_:=b 2 22 kR rfl;have a8:_=_:=b 3 23 kR rfl;go_simp;exact d _ _ (aA bR) (cS (by simp [IntKind.wrap_i64] <;> omega))
   refine pH3 4 (.int .i64 1) ?_;refine sC3 (fun _ _ _ _ _ _ _ b _ _ _ d=>?_) ?_
   · have a9:_=_:=b 4 24 kR rfl;have aa:_=_:=b 5 25 kR rfl;go_simp;exact d _ _ (aA bR) (cS (by simp [IntKind.wrap_i64] <;> omega))
   refine pH3 1 (.slice i e j) ?_;refine pV3 7 27 ?_;refine pH3 3 (.int .i64 1) ?_;refine sC3 (fun _ _ _ _ _ _ _ b _ _ _ d=>?_) ?_
   · have ac:_=_:=b 8 28 kR rfl;have ad:_=_:=b 9 29 kR rfl;go_simp;exact d _ _ (aA bR) (cS (by simp [IntKind.wrap_i64] <;> omega))
   refine pH3 4 (.int .i64 1) ?_;refine sC3 (fun _ _ _ _ _ _ _ b _ _ _ d=>?_) ?_
   · have ae:_=_:=b 10 30 kR rfl;have af:_=_:=b 11 31 kR rfl;go_simp;exact d _ _ (aA bR) (cS (by simp [IntKind.wrap_i64] <;> omega))
   refine sC3 (fun _ _ _ _ _ _ _ b _ _ _ d=>?_) ?_
   · have a6:_=_:=b 0 20 kR rfl;have ab:_=_:=b 6 26 kR rfl;have ag:_=_:=b 12 32 kR rfl;go_simp;exact kq d rfl
   refine sC3 (fun _ l g _ _ _ _ b _ _ _ d=>?_) ?_
   · replace g:Keep (fun _=>False) c l:=kD g;have ah:_=_:=b 13 33 kR rfl;go_simp;have Y:=g.rd M.out nL (fun _ _ n=>n);refine (tO i e j c.heap.size f l Y g.size H).mono ?_;rintro t aq ⟨rfl,T,W⟩;exact d _ _ (aA W) ⟨_,rfl,T,g.size⟩
   refine sC3 (fun k l _ _ _ _ _ b _ _ _ d=>?_) ?_
   · have a2:(aAH c.heap.size f) (k (.tmp 34)) l:=b 14 34 kR rfl;go_simp;exact d _ _ (aA bR) a2
   refine sC3 (fun k l _ _ _ _ _ b _ _ o d=>?_) ?_
   · have y:(aAH c.heap.size f) (k (.tmp 19)) l:=b 15 19 kR rfl;go_simp;obtain ⟨m,u,E,G⟩:=y;subst o;rw [u];go_simp;exact d _ _ (aA bR) ⟨m,rfl,E,G⟩
   refine sC3 (fun k l _ _ _ _ _ b _ _ o d=>?_) ?_
   · have y:(aAH c.heap.size f) (k (.tmp 19)) l:=b 15 19 kR rfl;go_simp;obtain ⟨m,u,E,G⟩:=y;subst o;rw [u];go_simp;exact kq d rfl
   refine sC3 (fun k l _ _ _ _ _ b _ _ _ d=>?_) ?_
   · have a3:(aCi c.heap.size f) (k (.tmp 35)) l:=b 16 35 kR rfl;go_simp;exact d _ _ (aA bR) a3
   refine sC3 (fun _ _ _ _ _ _ _ b _ _ _ d=>?_) ?_
   · have C:_=_:=b 17 36 kR rfl;go_simp;exact d _ _ (aA bR) trivial
   exact aC
 · intro k r g b D;replace g:Keep (fun _=>False) c r:=kD g;have a1:(aCi c.heap.size f) (k (.tmp 11)) r:=b 18 11 rfl;have C:k (.tmp 36)=.int .i64 0:=b 17 36 rfl;obtain ⟨ao,an⟩:∃a4,(dJ) a4 r:=D 19 dC;simp only [zqq];rw [C];clear b D;obtain ⟨m,O,S,U⟩:=a1;rw [O];have a0:=g.bk N.out (fun n=>n);have R:=g.bk K.out (fun n=>n);have Z:=g.size;have J:=lhd g;clear g;go_wp2_with fail;refine (xH q p m z f r a0 R S (by rw [L.out];exact H)).mono ?_;rintro t ap ⟨rfl,V,v,s,P⟩;go_wp2_with fail;go_ret;exact ⟨rfl,(J.out.mono (fun _ _ n=>n.elim)).trans V,v,s,m,P.mono Z,U⟩
theorem aB {n w':World} {f:Nat} {b:TypeId} {m l:Nat} {e:Value} {o:List Value} (k:n.ownsRow f b m e l o) (t:∀d g,e.ownBlock=some d->Bk n d b g->Bk w' d b g):w'.ownsRow f b m e l o:=by
 refine ⟨k.1,?_⟩;rcases k.2 with c |⟨j,p,i,c,q,r,s⟩;exact .inl c;exact .inr ⟨j,p,i,c,q,t j i (by rw [c];rfl) r,s⟩
theorem jL {n e:World} {i:Nat} {d:TypeId} {m l j:Nat} {g:Option Addr} {o:List Value} (f:Made n i d m g l j o) (p:∀b c,Bk n b d c->Bk e b d c):Made e i d m g l j o:=by
 have k:=aB (w':=e) f.own fun b c _=>p b c;exact ⟨k,Rd.of_own k,f.cap,f.max⟩
structure VisF (F:Nat->Prop) (w w':World):Prop where
 os:w'.os=w.os
 tape:w'.tape=w.tape
 output:w'.output=w.output
 size:w.heap.size<=w'.heap.size
 block:∀b,b < w.heap.size->¬F b->w'.heap[b]?=w.heap[b]?∨(∃cs v,Bk w b 288 cs/\Bk w' b 288 (cs.setIfInBounds 3 (.int .i64 v)))∨(∃cs v,Bk w b 229 cs/\Bk w' b 229 (cs.setIfInBounds 10 (.int .i64 v)))
abbrev Vis:World->World->Prop:=VisF (fun _=>False)
theorem Vis.refl (b:World):Vis b b:=⟨rfl,rfl,rfl,zAs _,fun _ _ _=>.inl rfl⟩
theorem VisF.of_vis {e:Nat->Prop} {c d:World} (b:Vis c d):VisF e c d:=⟨b.os,b.tape,b.output,b.size,fun f g _=>b.block f g (fun i=>i)⟩
theorem VisF.of_keep {c:Nat->Prop} {d e:World} (b:Keep c d e):VisF c d e:=⟨b.os,b.tape,b.output,b.size,fun f g i=>.inl (b.block f g i)⟩
theorem VisF.to_vis {e:Nat->Prop} {d g:World} (c:VisF e d g) (i:∀b,b < d.heap.size->¬e b):Vis d g:=⟨c.os,c.tape,c.output,c.size,fun b f _=>c.block b f (i b f)⟩
theorem sB (c:Array Value) (b:Nat) (e d:Value):(c.setIfInBounds b e).setIfInBounds b d=c.setIfInBounds b d:=by
 apply Array.ext
 · simp
 · intro i f g;simp [Array.getElem_setIfInBounds]
theorem bL {j:World} {e:Nat} {g i:TypeId} {c d:Array Value} (f:Bk j e g c) (b:Bk j e i d):g=i/\c=d:=by
 unfold Bk at f b;rw [f] at b;injection b with b;injection b with h1 h2;exact ⟨h2,h1⟩
theorem VisF.trans {F:Nat->Prop} {p w1 q:World} (f:VisF F p w1) (i:VisF F w1 q):VisF F p q:=by
 refine ⟨i.os.trans f.os,i.tape.trans f.tape,i.output.trans f.output,zAk f.size i.size,fun k n o=>?_⟩;have r:k < w1.heap.size:=zAl n f.size;rcases f.block k n o with c |⟨g,m,c,d⟩|⟨g,m,c,d⟩<;> rcases i.block k r o with b |⟨l,j,b,e⟩|⟨l,j,b,e⟩;exact .inl (b.trans c);exact .inr (.inl ⟨l,j,c.symm.trans b,e⟩);exact .inr (.inr ⟨l,j,c.symm.trans b,e⟩);exact .inr (.inl ⟨g,m,c,b.trans d⟩);obtain ⟨_,rfl⟩:=bL d b;rw [sB] at e;exact .inr (.inl ⟨g,j,c,e⟩);exact absurd (bL d b).1 dC;exact .inr (.inr ⟨g,m,c,b.trans d⟩);exact absurd (bL d b).1 dC;obtain ⟨_,rfl⟩:=bL d b;rw [sB] at e;exact .inr (.inr ⟨g,j,c,e⟩)
theorem Vis.trans {b w1 c:World} (d:Vis b w1) (e:Vis w1 c):Vis b c:=VisF.trans d e
theorem Vis.of_below {c d:World} (b:Below c.heap.size c d):Vis c d:=⟨b.os,b.tape,b.output,b.size,fun e f _=>.inl (b.block e f)⟩
theorem Vis.set_tree {c:World} {b:Nat} {e:Array Value} (g:Bk c b 288 e) (i:Int):Vis c (c.setCell ⟨b,3,none⟩ (.int .i64 i)):=by
 refine ⟨rfl,rfl,rfl,by simp [World.setCell],fun d k _=>?_⟩;by_cases f:d=b;subst f;exact .inr (.inl ⟨e,i,g,g.set 3 _⟩);exact .inl (heap_setCell_other c ⟨b,3,none⟩ d _ (fun j=>f j))
theorem Vis.set_wave {c:World} {b:Nat} {e:Array Value} (g:Bk c b 229 e) (i:Int):Vis c (c.setCell ⟨b,10,none⟩ (.int .i64 i)):=by
 refine ⟨rfl,rfl,rfl,by simp [World.setCell],fun d k _=>?_⟩;by_cases f:d=b;subst f;exact .inr (.inr ⟨e,i,g,g.set 10 _⟩);exact .inl (heap_setCell_other c ⟨b,10,none⟩ d _ (fun j=>f j))
theorem VisF.put {F:Nat->Prop} {l w1:World} (c:VisF F l w1) {p:Addr} (d:F p.block∨l.heap.size<=p.block) (j:Value):VisF F l (w1.setCell p j):=by
 refine ⟨c.os,c.tape,c.output,by simpa [World.setCell] using c.size,fun e n m=>?_⟩;have g:(w1.setCell p j).heap[e]?=w1.heap[e]?:=heap_setCell_other w1 p e j (fun o=>by
  rcases d with d | d;rw [<-o] at d;exact m d
  · omega)
 rcases c.block e n m with b |⟨f,k,b,i⟩|⟨f,k,b,i⟩;exact .inl (g.trans b);exact .inr (.inl ⟨f,k,b,g.trans i⟩);exact .inr (.inr ⟨f,k,b,g.trans i⟩)
theorem Vis.fresh {b w1:World} (d:Vis b w1) {p:Addr} (e:b.heap.size<=p.block) (c:Value):Vis b (w1.setCell p c):=VisF.put d (.inr e) c
theorem Vis.alloc {b w1:World} (c:Vis b w1) (d:Obj):Vis b (w1.alloc d):=c.trans (Vis.of_below (bR.alloc nL _))
theorem Vis.below {b w1 c:World} (d:Vis b w1) (e:Below w1.heap.size w1 c):Vis b c:=d.trans (Vis.of_below e)
theorem VisF.bk {f:Nat->Prop} {i j:World} {c:Nat} {e:TypeId} {g:Array Value} (m:VisF f i j) (d:Bk i c e g) (n:e≠288) (o:e≠229) (p:¬f c):Bk j c e g:=by
 rcases m.block c d.lt p with b |⟨k,q,b,l⟩|⟨k,q,b,l⟩;exact b.trans d;exact absurd (bL d b).1 n;exact absurd (bL d b).1 o
theorem VisF.tree {f:Nat->Prop} {l m:World} {c:Nat} {a g i:Value} {k:Int} (o:VisF f l m) (d:Bk l c 288 #[a,g,i,.int .i64 k]) (p:¬f c):∃e,Bk m c 288 #[a,g,i,.int .i64 e]:=by
 rcases o.block c d.lt p with b |⟨n,e,b,j⟩|⟨n,e,b,j⟩;exact ⟨k,b.trans d⟩;obtain ⟨_,rfl⟩:=bL d b;exact ⟨e,j⟩;exact absurd (bL d b).1 dC
theorem VisF.wave {i:Nat->Prop} {k g:World} {c:Nat} {f:Array Value} (m:VisF i k g) (d:Bk k c 229 f) (n:¬i c):Bk g c 229 f∨∃e,Bk g c 229 (f.setIfInBounds 10 (.int .i64 e)):=by
 rcases m.block c d.lt n with b |⟨l,e,b,j⟩|⟨l,e,b,j⟩;exact .inl (b.trans d);exact absurd (bL d b).1 dC;obtain ⟨_,rfl⟩:=bL d b;exact .inr ⟨e,j⟩
theorem Vis.bk {e f:World} {d:Nat} {b:TypeId} {c:Array Value} (g:Vis e f) (k:Bk e d b c) (i:b≠288) (j:b≠229):Bk f d b c:=VisF.bk g k i j (fun l=>l)
theorem Vis.tree {e f:World} {d:Nat} {a b c:Value} {j:Int} (g:Vis e f) (i:Bk e d 288 #[a,b,c,.int .i64 j]):∃k,Bk f d 288 #[a,b,c,.int .i64 k]:=VisF.tree g i (fun l=>l)
theorem Vis.wave {e d:World} {c:Nat} {b:Array Value} (f:Vis e d) (g:Bk e c 229 b):Bk d c 229 b∨∃i,Bk d c 229 (b.setIfInBounds 10 (.int .i64 i)):=VisF.wave f g (fun j=>j)
def VisK (d:Nat->Prop) (b c:World):Prop:=Vis b c/\Keep d b c
theorem VisK.refl (c:Nat->Prop) (b:World):VisK c b b:=⟨Vis.refl b,Keep.refl c b⟩
theorem vR {c:Nat->Prop} {b:World}:VisK c b b:=VisK.refl c b
theorem VisK.trans {F:Nat->Prop} {d w1 e:World} (b:VisK F d w1) (c:VisK F w1 e):VisK F d e:=⟨b.1.trans c.1,b.2.trans c.2⟩
theorem VisK.below {b:Nat->Prop} {e w1 f:World} (c:VisK b e w1) (d:Below w1.heap.size w1 f):VisK b e f:=⟨c.1.trans (Vis.of_below d),c.2.trans (Keep.of_below d)⟩
theorem VisK.of_below {c:Nat->Prop} {b d:World} (e:Below b.heap.size b d):VisK c b d:=(VisK.refl c b).below e
theorem VisK.alloc {b:Nat->Prop} {c w1:World} (d:VisK b c w1) (e:Obj):VisK b c (w1.alloc e):=d.below (bR.alloc nL _)
theorem VisK.set_tree {d:World} {b:Nat} {f:Array Value} (g:Bk d b 288 f) (e:Int):VisK (fun c=>c=b) d (d.setCell ⟨b,3,none⟩ (.int .i64 e)):=⟨Vis.set_tree g e,Keep.setCell (F:=fun c=>c=b) (Keep.refl _ _) (p:=⟨b,3,none⟩) (.inl rfl) _⟩
theorem VisK.mono {c G:Nat->Prop} {e f:World} (d:VisK c e f) (g:∀b,c b->G b):VisK G e f:=⟨d.1,d.2.mono fun b _=>g b⟩
theorem Vis.own {g i:World} {c:Nat} {b:TypeId} {e d:Nat} {f:Value} {j:List Value} (o:Vis g i) (k:g.ownsRow c b e f d j) (l:b≠288) (m:b≠229):i.ownsRow c b e f d j:=
 aB k fun p q _ n=>o.bk n l m
theorem Vis.made {i j:World} {d:Nat} {b:TypeId} {g f e:Nat} {c:Option Addr} {k:List Value} (p:Vis i j) (l:Made i d b g c f e k) (m:b≠288) (n:b≠229):Made j d b g c f e k:=
 jL l fun q r o=>p.bk o m n
def RdT (l:World) (k:TypeId) (j:Option Addr) (e:Nat) (i:List Value):Prop:=
 i.length=e/\(0 < e->∃b f c,j=some ⟨b,f,none⟩/\Bk l b k c/\∀d g,i[d]?=some g->c[f+d]?=some g)
theorem RdT.rd {b:World} {p:TypeId} {c:Option Addr} {f:Nat} {g:List Value} (d:RdT b p c f g):Rd b b.heap.size 1 c f g:=by
 refine ⟨by rw [d.1,zBk],fun l=>?_⟩;obtain ⟨i,o,r,j,e,k⟩:=d.2 l;exact ⟨i,o,j,e.lt,fun n q m=>(e.cell _).trans (k n q m)⟩
theorem RdT.same {i w':World} {d:TypeId} {e:Option Addr} {g:Nat} {j:List Value} (f:RdT i d e g j) (o:∀b c,Bk i b d c->Bk w' b d c):RdT w' d e g j:=by
 refine ⟨f.1,fun n=>?_⟩;obtain ⟨b,p,c,k,l,m⟩:=f.2 n;exact ⟨b,p,c,k,o b c l,m⟩
structure LeafV (w:World) (B gt ga gl cl gb:Nat) (rt v:Int) (bs:List Bool):Prop where
 tree:Bk w gt 288 #[ga,.slice (some gl) 1 cl,.int .i64 rt,.int .i64 v]
 row:RowS B gl cl gb (bs.length:Int) ((bs.count true:Nat):Int) w
 blk:Bk w gb 320 (jQ bs)
theorem Leaf.toV {l:World} {m i e g d f:Nat} {j k:Int} {c:List Bool} (b:Leaf l m i e g d f j k c):LeafV l 0 i e g d f j k c:=⟨b.tree,aZ b.row (zAp _),b.blk⟩
theorem LeafV.vis {n w':World} {e l i k g j:Nat} {m p:Int} {f:List Bool} (b:LeafV n e l i k g j m p f) (c:Vis n w'):∃d,LeafV w' e l i k g j m d f:=by
 obtain ⟨d,o⟩:=c.tree b.tree;exact ⟨d,o,c.own b.row dC dC,c.bk b.blk dC dC⟩
def TreeAt (f:World) (d:Nat) (b:List Bool):Prop:=
 ∃(c:Nat) (e:Int),(b= []/\∃k,Bk f d 288 #[c,k,.int .i64 (-1),.int .i64 e])∨(b≠ []/\b.length<=128/\∃j g i,LeafV f 0 d c j g i 0 e b)
theorem TreeAt.vis {k w':World} {i:Nat} {f:List Bool} (o:TreeAt k i f) (j:Vis k w'):TreeAt w' i f:=by
 obtain ⟨g,r,⟨b,q,c⟩|⟨b,c,n,l,m,p⟩⟩:=o;obtain ⟨e,d⟩:=j.tree c;exact ⟨g,e,.inl ⟨b,q,d⟩⟩;obtain ⟨e,d⟩:=p.vis j;exact ⟨g,e,.inr ⟨b,c,n,l,m,d⟩⟩
theorem TreeAt.same {n w':World} {l:Nat} {j:List Bool} (r:TreeAt n l j) (b:∀c i d,i∈ [288,204,291,320,4]->Bk n c i d->Bk w' c i d):TreeAt w' l j:=by
 obtain ⟨k,m,⟨e,t,f⟩|⟨e,f,q,o,p,g⟩⟩:=r;exact ⟨k,m,.inl ⟨e,t,b _ _ _ dC f⟩⟩;exact ⟨k,m,.inr ⟨e,f,q,o,p,b _ _ _ dC g.tree,aB g.row fun c d _ s=>b _ _ _ dC s,b _ _ _ dC g.blk⟩⟩
theorem TreeAt.below {b f:World} {d:Nat} {c:List Bool} (g:TreeAt b d c) (i:Below b.heap.size b f):TreeAt f d c:=g.same fun j l k _ e=>e.below i e.lt
theorem TreeAt.lt {d:World} {b:Nat} {e:List Bool} (f:TreeAt d b e):b < d.heap.size:=by
 obtain ⟨k,n,⟨g,o,c⟩|⟨g,c,m,j,l,i⟩⟩:=f;exact c.lt;exact i.tree.lt
def TreeB (f:World) (b e:Nat) (c:List Bool):Prop:=
 ∃(d:Nat) (i:Int),b<=e/\b<=d/\((c= []/\Bk f e 288 #[d,.slice none 0 0,.int .i64 (-1),.int .i64 i]/\Bk f d 204 #[.slice none 0 0,.slice none 0 0,.int .i64 268435456])∨(c≠ []/\c.length<=128/\∃k j g,b<=g/\Leaf f b e d k j g 0 i c))
theorem TreeB.at {j:World} {k f:Nat} {d:List Bool} (o:TreeB j k f d):TreeAt j f d:=by
 obtain ⟨e,i,_,_,⟨b,c,g⟩|⟨b,c,n,l,m,_,g⟩⟩:=o;exact ⟨e,i,.inl ⟨b,_,c⟩⟩;exact ⟨e,i,.inr ⟨b,c,n,l,m,g.toV⟩⟩
theorem TreeB.keep {q r:World} {F:Nat->Prop} {f m:Nat} {k:List Bool} (x:TreeB q f m k) (d:Keep F q r) (c:∀j,F j->j < f):TreeB r f m k:=by
 obtain ⟨l,p,n,o,⟨g,i,e⟩|⟨g,i,w,u,v,A,e⟩⟩:=x;exact ⟨l,p,n,o,.inl ⟨g,d.bk i (fun b=>by have:=c _ b;omega),d.bk e (fun b=>by have:=c _ b;omega)⟩⟩;obtain ⟨s,t,y,z⟩:=e.arena;exact ⟨l,p,n,o,.inr ⟨g,i,w,u,v,A,d.bk e.tree (fun b=>by have:=c _ b;omega),mL e.row d c,d.bk e.blk (fun b=>by have:=c _ b;omega),s,t,d.bk y (fun b=>by have:=c _ b;omega),z.keepF d c⟩⟩
theorem TreeB.below {b f:World} {c e:Nat} {d:List Bool} (i:TreeB b c e d) (j:Below b.heap.size b f):TreeB f c e d:=i.keep (F:=fun _=>False) (Keep.of_below j) (fun _ g=>g.elim)
theorem TreeB.mono {j:World} {B B' g:Nat} {e:List Bool} (n:TreeB j B g e) (o:B'<=B):TreeB j B' g e:=by
 obtain ⟨f,i,p,q,⟨b,c,d⟩|⟨b,c,m,k,l,r,d⟩⟩:=n;exact ⟨f,i,by omega,by omega,.inl ⟨b,c,d⟩⟩;exact ⟨f,i,by omega,by omega,.inr ⟨b,c,m,k,l,by omega,d.mono o⟩⟩
theorem LeafV.cells {b:World} {n e j c i k:Nat} {l m:Int} {g:List Bool} (f:LeafV b n e j c i k l m g):
 b.cell? e=some (.pointer (some j))/\b.cell? ⟨e,1,none⟩=some (.slice (some c) 1 i)/\b.cell? ⟨e,2,none⟩=some (.int .i64 l)/\b.cell? ⟨e,3,none⟩=some (.int .i64 m)/\
 b.cell? c=some (.int .i64 (-1))/\b.cell? ⟨c,1,none⟩=some (.int .i64 (-1))/\b.cell? ⟨c,2,none⟩=some (.int .i64 0)/\b.cell? ⟨c,3,none⟩=some (.int .i64 (g.length:Int))/\b.cell? ⟨c,4,none⟩=some (.int .i64 ((g.count true:Nat):Int))/\b.cell? ⟨c,5,none⟩=some (.int .i64 0)/\b.cell? ⟨c,6,none⟩=some (.int .i64 0)/\b.cell? ⟨c,7,none⟩=some (.pointer (some k)):=by
 have d:=fun p o=>World.ownsRow.cellAt f.row p o;exact ⟨(f.tree.cell 0).trans rfl,(f.tree.cell 1).trans rfl,(f.tree.cell 2).trans rfl,(f.tree.cell 3).trans rfl,(d 0 oM).trans rfl,(d 1 oM).trans rfl,(d 2 oM).trans rfl,(d 3 oM).trans rfl,(d 4 oM).trans rfl,(d 5 oM).trans rfl,(d 6 oM).trans rfl,(d 7 oM).trans rfl⟩
theorem nF (c:Nat) (e:List Bool) (b:World) (j:TreeAt b c e):
 Calls prog 250 #[c] b fun i k=>i=.returned (.int .i64 (e.length:Int))/\Below b.heap.size b k:=by
 obtain ⟨x,B,⟨rfl,C,d⟩|⟨A,d,z,o,y,f⟩⟩:=j
 · have g:b.cell? ⟨c,2,none⟩=some (.int .i64 (-1)):=(d.cell 2).trans rfl;clear d;go_enter func250,ntmps250;go_wp2;go_ret;exact ⟨rfl,Below.refl _ _⟩
 · obtain ⟨l,m,g,n,p,q,r,s,t,u,v,w⟩:=f.cells;clear f;go_enter func250,ntmps250;go_wp2;go_quiet (fail);go_wp2;go_ret;exact ⟨rfl,⟨rfl,rfl,rfl,zAs _,fun _ _=>rfl⟩⟩
theorem TreeAt.visits {e:World} {c:Nat} {f:List Bool} (g:TreeAt e c f):∃b,e.cell? ⟨c,3,none⟩=some (.int .i64 b):=by
 obtain ⟨k,b,⟨rfl,o,d⟩|⟨n,d,m,j,l,i⟩⟩:=g;exact ⟨b,(d.cell 3).trans rfl⟩;exact ⟨b,i.cells.2.2.2.1⟩
theorem iY (c:Nat) (d:Int) (b:World) (g:b.cell? ⟨c,3,none⟩=some (.int .i64 d)):
 Calls prog 281 #[c] b fun e f=>e=.returned (.int .i64 d)/\Below b.heap.size b f:=by
 go_enter func281,ntmps281;go_wp2;go_ret;exact ⟨rfl,Below.refl _ _⟩
theorem aBT (b c:Nat) (d:Bool) (e:World) (i:b<=128) (j:c<=b):
 Calls prog 292 #[(b:Int),(c:Int),.bool d] e fun f g=>f=.returned (.int .i64 ((if d then c else b - c:Nat):Int))/\Below e.heap.size e g:=by
 cases d
 · go_enter func292,ntmps292;go_wp2;go_ret;exact ⟨dR oM,Below.refl _ _⟩
 · go_enter func292,ntmps292;go_wp2;go_ret;exact ⟨dR (by simp),Below.refl _ _⟩
theorem xY (b:List Bool):b.count true+b.count false=b.length:=by
 induction b with
 | nil=>rfl
 | cons c b d=>cases c <;> simp <;> omega
theorem sX (f:Nat) (c:List Bool) (b:Nat) (d:Bool) (m:World) (i:TreeAt m f c) (N:b<=c.length):
 Calls prog 285 #[f,(b:Int),.bool d] m fun q a8=>q=.returned (.int .i64 (((c.take b).count d:Nat):Int))/\VisK (fun d=>d=f) m a8:=by
 have L:c.length<=128:=by
  obtain ⟨G,x,⟨rfl,a7,g⟩|⟨j,g,I⟩⟩:=i
  · simp
  exact g
 have a5:∃p,Bk m f 288 p/\3 < p.size:=by obtain ⟨G,x,⟨rfl,a7,g⟩|⟨j,g,H,Y,s,I⟩⟩:=i;exact ⟨_,g,by simp⟩;exact ⟨_,I.tree,by simp⟩
 obtain ⟨p,l,a0⟩:=a5;have v:=VisK.set_tree l 0;have Q:=i.vis v.1;have ap:=l.lt;have E:m.cell? ⟨f,3,none⟩=some p[3]:=by rw [l.cell 3];simp [a0]
 have F:=l.frozen 3;have aw:max (b:Int) 0=(b:Int):=oM;have ax:min (b:Int) (c.length:Int)=(b:Int):=oM;obtain ⟨z,C,W,D⟩:=hqq4 v i L Q;obtain ⟨ad,J⟩:=eqx c.length;obtain ⟨V,n⟩:=hqq2 J N;clear i L v Q l J N;go_enter func285,ntmps285;go_wp2_with fail;clear E F;refine (nF f c _ D.out).mono ?_;rintro q a9 ⟨rfl,k⟩;have w:=z.out.below k;have R:=C.out.vis w.1;obtain ⟨A,X⟩:=hqq2 w R;clear w R z D k C;rcases zAz b with O | O
 · subst O;go_wp2_with fail;go_ret;exact ⟨rfl,A.out⟩
 · have au:¬((b:Int)=0):=oM;obtain ⟨G,x,⟨t,_,_⟩|⟨t,k,H,Y,s,e⟩⟩:=X.out;have j:=n.out;rw [t] at j;simp at j;omega;obtain ⟨ae,af,ag,E,ah,ai,aj,ak,al,am,an,ao⟩:=e.cells;have av:=e.row.lt;have aq:=e.tree.lt;have ar:f≠H:=e.row.bk_ne e.tree dC;have F:=e.tree.frozen 3;obtain ⟨o,U⟩:=hqq2 e k;clear e k t;go_wp2_with fail;go_loopw [1,7,8] (fun aa ab ac wr=>aa=.int .i64 (b:Int)/\ab=.int .i64 0/\ac=.int .i64 0/\wr=a9) (fun _ _ _ _=>0)
   case atStart=>exact ⟨rfl,rfl,rfl,rfl⟩
   case round=>obtain ⟨rfl,rfl,rfl,rfl⟩:=hrel;go_wp2_with fail;have a2:=Bk.ne o.out.blk o.out.tree dC;have S:=(VisK.set_tree o.out.tree (wrap64 (x+1))).alloc (.cells #[.int .i64 (-1),.int .i64 (-1),.int .i64 0,(c.length:Int),.int .i64 ((c.count true:Nat):Int),.int .i64 0,.int .i64 0,s] 291);refine (qI s c b _ ((o.out.blk.far a2 _).alloc _) U.out (by rw [V.out] at*;exact n.out)).mono ?_;rintro q az ⟨rfl,K⟩;have T:=(A.out.trans S).below K;obtain ⟨r,u⟩:=eqx (List.count true (List.take b c));have a4:r<=b:=(by rw [<-u];exact zAk zBt (by rw [zAj];omega));have M:(if d then r else b - r)=(c.take b).count d:=(by have j:=xY (c.take b);have g:(c.take b).length=b:=(by rw [zAj];have:=n.out;omega);cases d;simp;omega;simp;omega);rw [u];obtain ⟨y,B⟩:=hqq2 M T;have a3:b<=128:=zAk n.out W.out;clear u M S K T;go_wp2_with fail;refine (aBT b r d _ a3 a4).mono ?_;rintro q aA ⟨rfl,Z⟩;rw [y.out];have a6:=B.out.below Z;have a1:(c.take b).count d<=128:=zAk zBt (by rw [zAj];omega);obtain ⟨ay,P⟩:=eqx (List.count d (List.take b c));rw [P] at a1⊢;clear y B;go_wp2_with fail;go_ret;exact ⟨dR (by rw [P] <;> omega),a6⟩
theorem sK (e:World) (b:Nat) (c:TypeId) (d:Nat):e.ownsRow b c d (.slice none 0 0) 0 []:=World.ownsRow_nil _ _ _ _
theorem vP (s:Option Addr) (d u y:Nat) (f:List Bool) (b:World) (w:Rd b y 1 s d (f.map Value.bool)) (Y:y<=b.heap.size) (J:d<=128) (a1:d<=u):
 Calls prog 252 #[.slice s d u] b fun c O=>∃E,c=.returned (.pointer (some ⟨E,0,none⟩))/\TreeB O b.heap.size E f/\Below b.heap.size b O:=by
 have I:f.length=d:=by simpa using w.1
 obtain ⟨R,t⟩:=hqq2 w I;clear w I;go_enter func252,ntmps252;go_wp2_with fail;refine (mD _).mono ?_;rintro c w1 ⟨rfl,G,v⟩;obtain ⟨z,B⟩:=hqq2 G v;have l:=v.size;clear G v;rcases zAz d with F | F
 · subst F;have a3:f= []:=zBj t.out;go_wp2_with fail;go_ret;have a0:=B.out.alloc l (.cells #[b.heap.size,.slice none 0 0,.int .i64 (-1),.int .i64 0] 288);exact ⟨_,rfl,⟨_,0,l,zAs _,.inl ⟨a3,Bk.new _ _ _,z.out.alloc _⟩⟩,a0⟩
 · have aa:((d:Int)+128 - 1)/ 128=1:=oM;have a2:f≠ []:=(by intro c;have:=t.out;rw [c] at this;simp at this;omega);have o:=B.out.alloc l (.cells #[b.heap.size,.slice none 0 0,.int .i64 (-1),.int .i64 0] 288);have M:=Bk.new w1 288 #[b.heap.size,.slice none 0 0,.int .i64 (-1),.int .i64 0];have H:=z.out.alloc (.cells #[b.heap.size,.slice none 0 0,.int .i64 (-1),.int .i64 0] 288);have K:=((R.out.mono Y).below o).mono o.size;obtain ⟨x,N⟩:=eqx (w1.alloc (.cells #[b.heap.size,.slice none 0 0,.int .i64 (-1),.int .i64 0] 288));obtain ⟨D,A,C,n⟩:=hqq4 M H K o;clear M H K o;go_wp2_with fail;rw [N] at D A C n;clear N;refine (aAG w1.heap.size b.heap.size 0 s d u x.heap.size f x D.out A.out C.out nL J a1).mono ?_;rintro c m ⟨rfl,p,V,T,U,k,a9⟩;have a5:=k.tree.lt;have a7:=k.tree.frozen 2;have a6:m.cell? ⟨w1.heap.size,2,none⟩=some (.int .i64 (-1)):=(k.tree.cell 2).trans rfl;obtain ⟨i,Q⟩:=hqq2 k p;clear k p;go_wp2_with fail;go_ret;have q:∀e r j,r≠288->Bk m e r j->Bk (m.setCell ⟨w1.heap.size,2,none⟩ (.int .i64 0)) e r j:=fun e r j a4 g=>g.far (Bk.ne g i.out.tree a4) _;obtain ⟨P,S,W,X⟩:=i.out.arena;have p:Below b.heap.size x m:=Q.out.to_below n.out.size (fun e a8 c=>by rcases c with c | c <;> omega);have Z:Below b.heap.size b m:=n.out.trans p;have L:=n.out.size;refine ⟨_,rfl,⟨_,0,l,zAs _,.inr ⟨a2,by rw [t.out];exact J,V,T,U,by omega,i.out.tree.set 2 _,aZ (aB i.out.row fun e j _ g=>q _ _ _ dC g) L,q _ _ _ dC i.out.blk,P,S,q _ _ _ dC W,(jL X fun e j g=>q _ _ _ dC g).mono L⟩⟩,?_⟩;exact Z.setCell l _
end
section
def aN (b:List Nat) (c:Nat):Int:=match b[c]? with
 | some d=>(d:Int)
 | none=>-1
theorem aDn {b:List Nat} {c:Nat} (d:c < b.length):aN b c=(b[c]:Int):=by
 unfold aN;rw [zAa d]
theorem lR {b:List Nat} {c d:Nat} (e:b[c]?=some d):aN b c=(d:Int):=by
 unfold aN;rw [e]
theorem iX {l:List Nat} {p:Nat} (b:l.length<=p):aN l p=-1:=by
 unfold aN;rw [zBf b]
theorem fP {l:List Nat} {p:Nat} (b:p < l.length):0<=aN l p:=by
 rw [aDn b];omega
section
variable (a : Nat -> Int)
def eqW (e c d:Nat):Prop:=∀b,b < e->a (c+b)=a (d+b)
def ltW (f d e:Nat):Prop:=∃b,b < f/\(∀c,c < b->a (d+c)=a (e+c))/\a (d+b) < a (e+b)
variable {a}
theorem eqW.symm {d b c:Nat} (e:eqW a d b c):eqW a d c b:=fun g f=>(e g f).symm
theorem eqW.trans {b d e f:Nat} (i:eqW a b d e) (j:eqW a b e f):eqW a b d f:=fun g c=>(i g c).trans (j g c)
theorem eqW.refl (c b:Nat):eqW a c b b:=fun _ _=>rfl
theorem lF (b e f:Nat):ltW a b e f∨eqW a b e f∨ltW a b f e:=by
 induction b with
 | zero=>exact .inr (.inl fun g k=>absurd k oM)
 | succ b l=>
   rcases l with ⟨j,c,d⟩| i |⟨j,c,d⟩;exact .inl ⟨j,by omega,d⟩;rcases Int.lt_trichotomy (a (e+b)) (a (f+b)) with c | c | c;exact .inl ⟨b,by omega,i,c⟩;refine .inr (.inl fun g k=>?_);rcases zBd g b with d | d;exact i g d;have:g=b:=oM;subst this;exact c;exact .inr (.inr ⟨b,by omega,i.symm,c⟩);exact .inr (.inr ⟨j,by omega,d⟩)
theorem ltW.not_eq {d b c:Nat} (e:ltW a d b c):¬eqW a d b c:=by
 obtain ⟨i,f,j,k⟩:=e;intro g;have:=g i f;omega
theorem ltW.trans {j k l m:Nat} (q:ltW a j k l) (r:ltW a j l m):ltW a j k m:=by
 obtain ⟨e,n,f,o⟩:=q;obtain ⟨i,s,g,p⟩:=r;rcases Nat.lt_trichotomy e i with d | d | d;exact ⟨e,n,fun b c=>(f b c).trans (g b oM),by rw [<-g e d];exact o⟩;subst d;exact ⟨e,n,fun b c=>(f b c).trans (g b c),Int.lt_trans o p⟩;exact ⟨i,s,fun b c=>(f b oM).trans (g b c),by rw [f i d];exact p⟩
theorem ltW.irrefl {d b:Nat} (c:ltW a d b b):False:=c.not_eq (eqW.refl _ _)
theorem ltW.asymm {d b c:Nat} (e:ltW a d b c) (f:ltW a d c b):False:=(e.trans f).irrefl
theorem ltW.eq_right {b d e f:Nat} (k:ltW a b d e) (c:eqW a b e f):ltW a b d f:=by
 obtain ⟨i,j,m,n⟩:=k;exact ⟨i,j,fun g l=>(m g l).trans (c g oM),by rw [<-c i j];exact n⟩
theorem ltW.eq_left {b d e f:Nat} (c:eqW a b d e) (k:ltW a b e f):ltW a b d f:=by
 obtain ⟨i,j,m,n⟩:=k;exact ⟨i,j,fun g l=>(c g oM).trans (m g l),by rw [c i j];exact n⟩
theorem ltW.le_right {c g d e:Nat} (f:ltW a c g d) (i:¬ltW a c e d):ltW a c g e:=by
 rcases lF (a:=a) c d e with b | b | b;exact f.trans b;exact f.eq_right b;exact absurd b i
theorem xR (b e f:Nat):eqW a (b+b) e f↔eqW a b e f/\eqW a b (e+b) (f+b):=by
 constructor
 · intro d;refine ⟨fun c g=>d c oM,fun c g=>?_⟩;have:=d (b+c) oM;rwa [<-Nat.add_assoc,<-Nat.add_assoc] at this
 · intro ⟨i,j⟩ c g;rcases zBd c b with d | d;exact i c d
   · have:=j (c - b) oM;rwa [show e+b+(c - b)=e+c by omega,show f+b+(c - b)=f+c by omega] at this
theorem xE (b e f:Nat):ltW a (b+b) e f↔ltW a b e f∨(eqW a b e f/\ltW a b (e+b) (f+b)):=by
 constructor
 · intro ⟨c,k,g,j⟩;rcases zBd c b with i | i;exact .inl ⟨c,i,g,j⟩
   · refine .inr ⟨fun d l=>g d oM,c - b,by omega,fun d l=>?_,?_⟩
     · have:=g (b+d) oM;rwa [<-Nat.add_assoc,<-Nat.add_assoc] at this
     · rwa [show e+b+(c - b)=e+c by omega,show f+b+(c - b)=f+c by omega]
 · rintro (⟨c,k,g,j⟩|⟨m,c,k,g,j⟩);exact ⟨c,by omega,g,j⟩
   · refine ⟨b+c,by omega,fun d l=>?_,by rwa [<-Nat.add_assoc,<-Nat.add_assoc]⟩;rcases zBd d b with i | i;exact m d i
     · have:=g (d - b) oM;rwa [show e+b+(d - b)=e+d by omega,show f+b+(d - b)=f+d by omega] at this
def RankOk (a d:Nat->Int) (e:Nat):Prop:=∀b c,d b < d c↔ltW a e b c
theorem RankOk.eq {d:Nat->Int} {i:Nat} (f:RankOk a d i) (b c:Nat):d b=d c↔eqW a i b c:=by
 constructor;intro g;rcases lF (a:=a) i b c with e | e | e;have:=(f b c).2 e;omega;exact e;have:=(f c b).2 e;omega;intro g;have e:¬(d b < d c):=fun j=>((f b c).1 j).not_eq g;have k:¬(d c < d b):=fun j=>((f c b).1 j).not_eq g.symm;omega
def gA (b:Nat->Int) (e c d:Nat):Int:=if b c≠b d then b c - b d else b (c+e) - b (d+e)
theorem nS {j:Nat->Int} {e:Nat} (f:RankOk a j e) (c d:Nat):gA j e c d < 0↔ltW a (e+e) c d:=by
 unfold gA;rw [xE];by_cases i:j c=j d
 · rw [zBu (by simpa using i)];have k:¬ltW a e c d:=fun m=>by have:=(f c d).2 m;omega
   have l:=(f.eq c d).1 i;have g:=f (c+e) (d+e);constructor;intro b;exact .inr ⟨l,g.1 oM⟩;rintro (b |⟨_,b⟩);exact absurd b k;have:=g.2 b;omega
 rw [zBv i];have g:=f c d;constructor;intro b;exact .inl (g.1 oM);rintro (b |⟨b,_⟩);have:=g.2 b;omega;exact absurd ((f.eq c d).2 b) i
theorem aCS {d:Nat->Int} {i:Nat} (g:RankOk a d i) (b c:Nat):gA d i b c=0↔eqW a (i+i) b c:=by
 unfold gA;rw [xR];by_cases e:d b=d c;rw [zBu (by simpa using e)];constructor;intro f;exact ⟨(g.eq b c).1 e,(g.eq _ _).1 oM⟩;intro ⟨_,f⟩;have:=(g.eq _ _).2 f;omega;rw [zBv e];constructor;intro f;exact absurd (show d b=d c by omega) e;intro ⟨f,_⟩;exact absurd ((g.eq b c).2 f) e
def cN (c:Nat->Nat->Int) (b:Nat->Nat):Nat->Nat
 | 0=>0
 | i+1=>cN c b i+(if c (b i) (b (i+1))≠0 then 1 else 0)
theorem aC6 (d:Nat->Nat->Int) (b:Nat->Nat) (c:Nat):cN d b c<=cN d b (c+1)/\cN d b (c+1)<=cN d b c+1:=by
 show cN d b c<=cN d b c+_/\cN d b c+_<=cN d b c+1;split <;> omega
theorem nC (e:Nat->Nat->Int) (c:Nat->Nat) (d b:Nat):cN e c d<=cN e c (d+b)/\cN e c (d+b)<=cN e c d+b:=by
 induction b with
 | zero=>exact ⟨zAs _,zAs _⟩
 | succ b f=>
   have:=aC6 e c (d+b);rw [<-Nat.add_assoc];omega
theorem sR {f:Nat->Nat->Int} {c:Nat->Nat} {g q:Nat} (n:∀b p,f b p=0↔eqW a g b p) (t:∀b,b+1 < q->¬ltW a g (c (b+1)) (c b)) (b e:Nat) (w:b+e < q):
 (cN f c b < cN f c (b+e)↔ltW a g (c b) (c (b+e)))/\¬ltW a g (c (b+e)) (c b):=by
 induction e with
 | zero=>exact ⟨⟨fun d=>absurd d (by simp),fun d=>d.irrefl.elim⟩,fun d=>d.irrefl⟩
 | succ e u=>
   obtain ⟨r,k⟩:=u oM;have l:=t (b+e) oM;have v:=nC f c b e;have j:cN f c (b+(e+1))=cN f c (b+e)+(if f (c (b+e)) (c (b+e+1))≠0 then 1 else 0):=rfl;rw [show b+(e+1)=b+e+1 from rfl] at j⊢;have s:¬ltW a g (c (b+e+1)) (c b):=fun d=>l (d.le_right k);refine ⟨?_,s⟩;by_cases i:f (c (b+e)) (c (b+e+1))=0;have o:=(n _ _).1 i;rw [j,zBu (by simpa using i),zBo,r];exact ⟨fun d=>d.eq_right o,fun d=>d.eq_right o.symm⟩;rw [j,zBv i];refine ⟨fun _=>?_,fun _=>by omega⟩;have m:ltW a g (c (b+e)) (c (b+e+1)):=(by rcases lF (a:=a) g (c (b+e)) (c (b+e+1)) with d | d | d;exact d;exact absurd ((n _ _).2 d) i;exact absurd d l);rcases lF (a:=a) g (c b) (c (b+e)) with d | d | d;exact d.trans m;exact ltW.eq_left d m;exact absurd d k
end
theorem aCV {l:List Nat} {f b c:Nat} (m:l.length<=f) (i:b < l.length) (k:c < l.length) (j:b≠c):¬eqW (aN l) f b c:=by
 intro e;rcases zBd b c with g | g;have d:=e (l.length - c) oM;rw [iX (show l.length<=c+(l.length - c) by omega)] at d;have:=fP (l:=l) (p:=b+(l.length - c)) oM;omega;have d:=e (l.length - b) oM;rw [iX (show l.length<=b+(l.length - b) by omega)] at d;have:=fP (l:=l) (p:=c+(l.length - b)) oM;omega
theorem aAh {c g:List Nat} {w:Nat->Nat->Int} {f:Nat->Nat} {q:Nat} (E:0 < q) (y:∀b d,w b d=0↔eqW (aN c) q b d) (z:∀b,b+1 < c.length->¬ltW (aN c) q (f (b+1)) (f b))
 (o:g.length=c.length) (x:∀b,b < c.length->g[f b]?=some (cN w f b)) (A:∀e,e < c.length->∃b,b < c.length/\f b=e):RankOk (aN c) (aN g) q:=by
 have G:∀b d,b < c.length->d < c.length->(aN g (f b) < aN g (f d)↔ltW (aN c) q (f b) (f d)):=by intro b d t u;rw [lR (x b t),lR (x d u)];rcases zBd b d with C | C;have:=(sR y z b (d - b) oM).1;rw [show b+(d - b)=d by omega] at this;rw [<-this];omega;have n:=sR y z d (b - d) oM;rw [show d+(b - d)=b by omega] at n;have s:=(nC w f d (b - d)).1;rw [show d+(b - d)=b by omega] at s;exact ⟨fun j=>absurd j oM,fun j=>absurd j n.2⟩
 intro e k;rcases zBd e c.length with m | m;obtain ⟨b,t,rfl⟩:=A e m;rcases zBd k c.length with i | i;obtain ⟨d,u,rfl⟩:=A k i;exact G b d t u;have n:=fP (l:=g) (p:=f b) (by rw [o];exact m);have s:=iX (l:=g) (p:=k) (by rw [o];exact i);refine ⟨fun j=>absurd j oM,fun ⟨v,F,B,r⟩=>?_⟩;exfalso;have H:=fP (l:=c) (p:=f b) m;rcases v with _ | v;rw [zBo,zBo,iX i] at r;omega;have:=B 0 oM;rw [zBo,zBo,iX i] at this;omega;have s:=iX (l:=g) (p:=e) (by rw [o];exact m);rcases zBd k c.length with i | i;have n:=fP (l:=g) (p:=k) (by rw [o];exact i);refine ⟨fun _=>⟨0,E,fun I D=>absurd D oM,?_⟩,fun _=>by omega⟩;rw [zBo,zBo,iX m];have:=fP (l:=c) (p:=k) i;omega;have n:=iX (l:=g) (p:=k) (by rw [o];exact i);refine ⟨fun j=>absurd j oM,fun ⟨v,F,B,r⟩=>?_⟩;rw [iX oM,iX oM] at r;exact absurd r oM
theorem aDH {a:Nat->Int} {f:Nat->Nat->Int} {d:Nat->Nat} {g e:Nat} (m:∀b c,f b c=0↔eqW a g b c) (n:∀b,b+1 < e->¬ltW a g (d (b+1)) (d b)) (s:0 < e) (r:cN f d (e - 1)=e - 1) (b c:Nat) (p:b < c) (q:c < e):ltW a g (d b) (d c):=by
 have j:=nC f d 0 b;have k:=nC f d b (c - b);have l:=nC f d c (e - 1 - c);have o:cN f d 0=0:=rfl;rw [zBh] at j;rw [show b+(c - b)=c by omega] at k;rw [show c+(e - 1 - c)=e - 1 by omega] at l;have i:=(sR m n b (c - b) oM).1;rw [show b+(c - b)=c by omega] at i;exact i.1 oM
theorem aC7 {d:Nat->Nat->Int} {c:Nat->Nat} {n:Nat} (e:∀b,b+1 < n->d (c b) (c (b+1))≠0) (b:Nat) (f:b < n):cN d c b=b:=by
 induction b with
 | zero=>rfl
 | succ b g=>
   show cN d c b+_=_;rw [zBv (e b f),g oM]
theorem wS (b:List Nat):RankOk (aN b) (aN b) 1:=by
 intro i j;constructor;intro c;exact ⟨0,by omega,fun k e=>absurd e oM,c⟩;rintro ⟨f,g,_,d⟩;have:f=0:=oM;subst this;exact d
end
end Go.Proofs.YtihaijbgmjdhgaaGreatDoor
