/- Lemmas of the walk. Conditions: each its own. -/
import Derived.Test.YtcoooelofcejbaaGreatDoorPd1
import Derived.Test.YtcoooelofcejbaaGreatDoorPd2
import Derived.Test.YtcoooelofcejbaaGreatDoorProg
set_option linter.all false
set_option maxRecDepth 100000
set_option maxHeartbeats 4000000
namespace Go.Proofs.YtcoooelofcejbaaGreatDoor
open Tryz
open Go.RowKit
def tH:(prog.info? 4).map (fun a=>(a.zero,a.size,a.bytes))=some (some (.bool false),1,1):=by kernel_rfl
def sQ (a:World):
 Calls prog 61 #[.int .i64 268435456] a fun c b=>c=.returned (.pointer (some a.heap.size))/\Bk b a.heap.size 154 #[.slice none 0 0,.slice none 0 0,.int .i64 268435456]/\Below a.heap.size a b:=by
 go_enter func61,ntmps61;go_wp2;go_ret;exact ⟨rfl,Bk.new _ _ _,bR.alloc nL _⟩
def aEK {ga:Nat} {w:World} (a:Bk w ga 154 #[.slice none 0 0,.slice none 0 0,.int .i64 268435456]):
 Calls prog 114 #[ga] w fun b c=>b=.returned (.int .i64 0)/\Below w.heap.size w c:=by
 have d:w.cell? ga=some (.slice none 0 0):=(a.cell 0).trans rfl;have e:w.cell? ⟨ga,1,none⟩=some (.slice none 0 0):=(a.cell 1).trans rfl;go_enter func114,ntmps114;go_wp2;go_quiet (fail);go_wp2;go_ret;exact ⟨rfl,below_drewN bR _⟩
def aHE {c:World} {a:Nat} {g:TypeId} {f:Value} (d:Bk c a g #[f]):Rd c c.heap.size 1 (some ⟨a,0,none⟩) 1 [f]:=by
 refine ⟨rfl,fun _=>⟨a,0,rfl,d.lt,fun b i e=>?_⟩⟩;rw [zBi,d.cell b];rcases b with _ | b;exact e
 · simp at e
def aEu {a:Nat} {c:World} (i:Bk c a 154 #[.slice none 0 0,.slice none 0 0,.int .i64 268435456]):
 Calls prog 69 #[a] c fun z s=>z=.returned (.tuple #[.int .i64 0,.int .i64 0])/\Keep (fun g=>g=a) c s/\∃t v,Bk s a 154 #[.slice t 1 v,.slice none 0 0,.int .i64 268435456]/\Made s c.heap.size 4 1 t 1 v [.bool true]:=by
 obtain ⟨R,K,O,P,Q⟩:=info_parts tH;have J:=i.lt;obtain ⟨e,W⟩:=hqq2 i (Below.refl c.heap.size c);clear i;go_enter func69,ntmps69;go_wp2;refine wp_region_any kR ?_;refine aY (S:=Grow) (V:=(Vs [is a,is (.int .i64 0),is a,is a,is (.pointer (some ⟨a,2,none⟩)),is (.int .i64 268435456),is (.bool false),is (.bool false)])) [10,11,12,13,14,15,16,9] _ rfl kR bR (fun _ _=>Grow.trans) (aI4 (by repeat' (first | exact aJ8 _ | exact aI3 _ _ _ |(refine zAe.2 ⟨?_,?_⟩)|(intro U N;cases N)))) ?_ ?_
 · refine aV ?_;refine pH 0 (.pointer (some a)) ?_;refine sC (fun _ d b _ _ _ m _ _ _ H=>?_) ?_
   · have a0:_=_:=m 0 10 kR rfl;replace b:Grow c d:=gD b;go_simp;refine (aEK (ga:=a) (w:=d) (e.out.below b e.out.lt)).mono ?_;rintro z a4 ⟨rfl,I⟩;exact H _ _ I rfl
   refine pH 0 (.pointer (some a)) ?_;refine pV 2 12 ?_;refine pV 3 13 ?_;refine pL 4 14 (fun d b=>have b:Grow c d:=gD b;(((e.out.below b e.out.lt).cell 2).trans rfl:d.cell? ⟨a,2,none⟩=some (.int .i64 268435456))) ?_;refine pW 1 11 5 15 ?_;refine pV 6 16 ?_;exact aH
 · intro G k b m;replace b:Grow c k:=gD b;have E:G (.tmp 9)=.bool false:=m 7 9 rfl;simp only [zqq];rw [E];clear m;have f:=lhd (e.out.below b e.out.lt);have r:=Below.size b;have n:=lhd b;have x:k.cell? ⟨a,1,none⟩=some (.slice none 0 0):=(f.out.cell 1).trans rfl;clear b;have o:k.cell? a=some (.slice none 0 0):=(f.out.cell 0).trans rfl;have A:=f.out.frozen 0;have l:a < k.heap.size:=oM;revert f r o x A n l;generalize k=W2;intro f r n x o A l;have X:=(World.cell?_alloc_lt W2 (Obj.cells #[.bool true] 4) ⟨a,0,none⟩ l).trans o;go_wp2_with (at_builtin;refine bP _ rfl (.tmp 53) (.tmp 54) _ rfl c.heap.size 4 R (.bool false) 1 1 underlying152 K O P Q rfl dC (.slice none 0 0) 0 [] rfl (World.ownsRow_nil _ _ _ _) rfl rfl (by simp [Value.oneCell']) (by unfold maxLen;omega) oM r ?_;intro a3 d C j a2 a1;rw [zBi,List.nil_append] at C;obtain ⟨u,y,rfl,M⟩:=aR C;have B:Below W2.heap.size W2 d:=⟨j.os,j.tape,j.output,j.size,fun T L=>j.block T L (by simp [Value.ownBlock])⟩;have q:=f.out.below B l;have Y:d.cell? a=some (.slice none 0 0):=(q.cell 0).trans rfl;have Z:=q.frozen 0);go_ret2;have D:=Keep.setCell (F:=fun g=>g=a) (Keep.refl (fun g=>g=a) d) (p:=a) (.inl rfl) (.slice u 1 y);exact ⟨rfl,((Keep.of_below n.out).trans (Keep.of_below B)).trans D,u,y,q.set 0 _,(M.mono oM).keepF D (fun g i=>by subst i;exact J)⟩
def zW (b c:Int) (a:Nat):List Value:= [.int .i64 (-1),.int .i64 (-1),.int .i64 0,.int .i64 b,.int .i64 c,.int .i64 0,.int .i64 0,.pointer (some a)]
def RowS (a d b c:Nat) (f g:Int) (e:World):Prop:=e.ownsRow a 276 8 (.slice (some d) 1 b) 1 (zW f g c)
def RowS.grow {b e c d:Nat} {g i:Int} {a f:World} (j:RowS b e c d g i a) (k:Below a.heap.size a f):RowS b e c d g i f:=aM j k
def RowS.at3 {c a d e:Nat} {j g:Int} {f:World} (i:RowS c a d e j g f) (b:Int):RowS c a d e b g (f.setCell ⟨a,3,none⟩ (.int .i64 b)):=(World.ownsRow.stored i 3 (.int .i64 b)).1
def RowS.at4 {c a d e:Nat} {g j:Int} {f:World} (i:RowS c a d e g j f) (b:Int):RowS c a d e g b (f.setCell ⟨a,4,none⟩ (.int .i64 b)):=(World.ownsRow.stored i 4 (.int .i64 b)).1
def RowS.lt {b a d e:Nat} {g i:Int} {c:World} (f:RowS b a d e g i c):b<=a/\a < c.heap.size:=World.ownsRow.lt f a rfl
def RowS.bk_ne {d b e i a:Nat} {m n:Int} {c:World} {t:TypeId} {f:Array Value} (j:RowS d b e i m n c) (k:Bk c a t f) (l:276≠t):a≠b:=fun g=>aS j k l (by rw [g];rfl)
def aKM (c:World) (b a e f:Nat) (w1:World):Prop:=Keep (fun d=>d=a) c w1/\∃g i,RowS b a e f g i w1
def aKL (c a d e:Nat) (k l:Int) (f:Nat) (w1 b:World):Prop:=
 (f=14->Keep (fun j=>j=a) w1 b/\∀g i,RowS c a d e g i w1->RowS c a d e k i b)/\(f=17->Keep (fun j=>j=a) w1 b/\∀g i,RowS c a d e g i w1->RowS c a d e g l b)/\(f≠14->f≠17->Grow w1 b)
def cF {d j g i:Nat} {e f:Int} {b:Nat} {w1 c:World} (l:b≠14) (m:b≠17) (k:Grow w1 c):aKL d j g i e f b w1 c:=⟨fun a=>absurd a l,fun a=>absurd a m,fun _ _=>k⟩
def aGe {n w1 r:World} {a d b c g:Nat} {s t:Int} (u:aKM n a d b c w1) (i:aKL a d b c s t g w1 r):aKM n a d b c r:=by
 obtain ⟨e,l,m,f⟩:=u;by_cases o:g=14;obtain ⟨j,k⟩:=i.1 o;exact ⟨e.trans j,_,_,k l m f⟩;by_cases p:g=17;obtain ⟨j,k⟩:=i.2.1 p;exact ⟨e.trans j,_,_,k l m f⟩;have q:=i.2.2 o p;exact ⟨e.trans (Keep.of_below q),l,m,f.grow q⟩
def N3 (a e c d:Nat) (b:Int):Value->World->Prop:=fun _ w1=>∃f,RowS a e c d b f w1
def N4 (a e c d:Nat) (b:Int):Value->World->Prop:=fun _ w1=>∃f,RowS a e c d f b w1
def rG {I a5 a n i s:Nat} {ab z:Int} {u:List Bool} {r:World} (W:Bk r I 266 #[a5,.slice (some a) 1 n,.int .i64 ab,.int .i64 z]) {ae af:Int} (E:RowS s a n i ae af r) (M:Bk r i 297 (gP u)) (a8:u.length<=128):
 Calls prog 294 #[I,.int .i64 0] r fun g Y=>g=.returned (.tuple #[])/\Keep (fun A=>A=a) r Y/\RowS s a n i (u.length:Int) ((u.count true:Nat):Int) Y:=by
 obtain ⟨t,J⟩:∃t:Int,(u.length:Int)=t:=⟨_,rfl⟩;obtain ⟨q,K⟩:∃q:Int,((u.count true:Nat):Int)=q:=⟨_,rfl⟩;rw [J,K];obtain ⟨a1,a2⟩:=hqq2 J K;have ah:r.cell? ⟨I,1,none⟩=some (.slice (some a) 1 n):=(W.cell 1).trans rfl;have ai:r.cell? ⟨a,7,none⟩=some (.pointer (some i)):=(World.ownsRow.cellAt E 7 oM).trans rfl;have aI:=E.lt;have R:=E.bk_ne M dC;obtain ⟨Q,a3⟩:=hqq2 M E;clear J K W M E;go_enter func294,ntmps294;go_wp2;refine wp_region_any kR ?_;refine qC (C:=(aKM r s a n i)) (S:=(aKL s a n i t q)) (U:=(fun _ _=>True)) (V:=(Vs [is a,is a,is a,is a,is (.pointer (some ⟨a,7,none⟩)),is i,is (.int .i64 t),is a,is a,is (.pointer (some ⟨a,7,none⟩)),is i,is (.int .i64 q),is a,is (.pointer (some ⟨a,3,none⟩)),N3 s a n i t,is a,is (.pointer (some ⟨a,4,none⟩)),N4 s a n i q])) [18,19,20,21,22,23,24,25,26,27,28,29,30,31,32,33] _ rfl kR ⟨⟨rfl,rfl,rfl,zAs _,fun _ _ _=>rfl⟩,_,_,a3.out⟩ (fun _=>trivial) (fun O w1 ac B y=>aGe B y) (fun _ _ _ _ _ _ _ _ _=>trivial) ?_ ?_ ?_;intro X O z w1 ac T aG f aF y;rcases X with _ | _ | _ | _ | _ | _ | _ | _ | _ | _ | _ | _ | _ | _ | _ | _ | _ | _ | X;exact f;exact f;exact f;exact f;exact f;exact f;exact f;exact f;exact f;exact f;exact f;exact f;exact f;exact f;obtain ⟨a0,f⟩:=f;by_cases G:O=17;exact ⟨_,(y.2.1 G).2 _ _ f⟩;exact ⟨_,RowS.grow f (y.2.2 (fun g=>T g.symm) G)⟩;exact f;exact f;obtain ⟨Z,f⟩:=f;by_cases D:O=14;exact ⟨_,(y.1 D).2 _ _ f⟩;exact ⟨_,RowS.grow f (y.2.2 D (fun g=>T g.symm))⟩;exact trivial
 · refine aV ?_;refine sC3 (fun v _ b _ _ _ x _ _ _ _ c=>?_) ?_
   · obtain ⟨j,k,m,e⟩:=b;have H:v (.tmp 4)=.pointer (some a):=x 4 kR;go_simp;exact c _ _ (cF dC dC bR) rfl
   refine sC3 (fun v _ b _ _ _ x _ _ _ _ c=>?_) ?_
   · obtain ⟨j,k,m,e⟩:=b;have H:v (.tmp 4)=.pointer (some a):=x 4 kR;go_simp;exact c _ _ (cF dC dC bR) rfl
   refine sC3 (fun v _ b _ _ _ x _ _ _ _ c=>?_) ?_
   · obtain ⟨j,k,m,e⟩:=b;have H:v (.tmp 4)=.pointer (some a):=x 4 kR;go_simp;exact c _ _ (cF dC dC bR) rfl
   refine sC3 (fun _ _ b _ _ _ _ d _ _ _ c=>?_) ?_
   · obtain ⟨j,k,m,e⟩:=b;have an:_=_:=d 2 20 kR rfl;go_simp;exact c _ _ (cF dC dC bR) rfl
   refine sC3 (fun _ _ b _ _ _ _ d _ _ _ c=>?_) ?_
   · obtain ⟨j,k,m,e⟩:=b;have ao:_=_:=d 3 21 kR rfl;go_simp;exact c _ _ (cF dC dC bR) rfl
   refine sC3 (fun _ o b _ _ _ _ d _ _ _ c=>?_) ?_
   · obtain ⟨j,k,m,e⟩:=b;have ap:_=_:=d 4 22 kR rfl;have a4:o.cell? ⟨a,7,none⟩=some (.pointer (some i)):=(World.ownsRow.cellAt e 7 oM).trans rfl;go_simp;exact c _ _ (cF dC dC bR) rfl
   refine sC3 (fun _ o b _ _ _ _ d _ _ _ c=>?_) ?_
   · obtain ⟨j,k,m,e⟩:=b;have aq:_=_:=d 5 23 kR rfl;have N:=j.bk Q.out (fun g=>R g);go_simp;refine (sN (gb:=i) (l:=u) (w:=o) N).mono ?_;rintro g ad ⟨rfl,rfl⟩;exact c _ _ (cF dC dC bR) (dV a1.out)
   refine sC3 (fun v _ b _ _ _ x _ _ _ _ c=>?_) ?_
   · obtain ⟨j,k,m,e⟩:=b;have H:v (.tmp 4)=.pointer (some a):=x 4 kR;go_simp;exact c _ _ (cF dC dC bR) rfl
   refine sC3 (fun _ _ b _ _ _ _ d _ _ _ c=>?_) ?_
   · obtain ⟨j,k,m,e⟩:=b;have au:_=_:=d 7 25 kR rfl;go_simp;exact c _ _ (cF dC dC bR) rfl
   refine sC3 (fun _ _ b _ _ _ _ d _ _ _ c=>?_) ?_
   · obtain ⟨j,k,m,e⟩:=b;have av:_=_:=d 8 26 kR rfl;go_simp;exact c _ _ (cF dC dC bR) rfl
   refine sC3 (fun _ o b _ _ _ _ d _ _ _ c=>?_) ?_
   · obtain ⟨j,k,m,e⟩:=b;have aw:_=_:=d 9 27 kR rfl;have a4:o.cell? ⟨a,7,none⟩=some (.pointer (some i)):=(World.ownsRow.cellAt e 7 oM).trans rfl;go_simp;exact c _ _ (cF dC dC bR) rfl
   refine sC3 (fun _ o b _ _ _ _ d _ _ _ c=>?_) ?_
   · obtain ⟨j,k,m,e⟩:=b;have ax:_=_:=d 10 28 kR rfl;have N:=j.bk Q.out (fun g=>R g);go_simp;refine (zH (gb:=i) (l:=u) (w:=o) N a8).mono ?_;rintro g ad ⟨rfl,rfl⟩;exact c _ _ (cF dC dC bR) (dV a2.out)
   refine sC3 (fun _ _ b _ _ _ _ d _ _ _ c=>?_) ?_
   · obtain ⟨j,k,m,e⟩:=b;have al:_=_:=d 0 18 kR rfl;go_simp;exact c _ _ (cF dC dC bR) rfl
   refine sC3 (fun _ _ b _ _ _ _ d _ _ _ c=>?_) ?_
   · obtain ⟨j,k,m,e⟩:=b;have az:_=_:=d 12 30 kR rfl;go_simp;exact c _ _ (cF dC dC bR) rfl
   refine sC3 (fun _ o b _ _ _ _ d _ _ _ c=>?_) ?_
   · obtain ⟨j,k,m,e⟩:=b;have aA:_=_:=d 13 31 kR rfl;have ar:_=_:=d 6 24 kR rfl;have aj:o.cell? ⟨a,3,none⟩=some (.int .i64 k):=(World.ownsRow.cellAt e 3 oM).trans rfl;have aD:=World.ownsRow.frozenAt e 3;go_simp;exact c (.bool true) _ ⟨fun _=>⟨Keep.setCell (F:=fun A=>A=a) (Keep.refl _ _) (p:=⟨a,3,none⟩) (.inl rfl) _,fun Z a0 B=>B.at3 t⟩,fun g=>absurd g dC,fun g=>absurd rfl g⟩ ⟨m,e.at3 t⟩
   refine sC3 (fun _ _ b _ _ _ _ d _ _ _ c=>?_) ?_
   · obtain ⟨j,k,m,e⟩:=b;have am:_=_:=d 1 19 kR rfl;go_simp;exact c _ _ (cF dC dC bR) rfl
   refine sC3 (fun _ _ b _ _ _ _ d _ _ _ c=>?_) ?_
   · obtain ⟨j,k,m,e⟩:=b;have aB:_=_:=d 15 32 kR rfl;go_simp;exact c _ _ (cF dC dC bR) rfl
   refine sC3 (fun _ o b _ _ _ _ d _ _ _ c=>?_) ?_
   · obtain ⟨j,k,m,e⟩:=b;have aC:_=_:=d 16 33 kR rfl;have ay:_=_:=d 11 29 kR rfl;have ak:o.cell? ⟨a,4,none⟩=some (.int .i64 m):=(World.ownsRow.cellAt e 4 oM).trans rfl;have aE:=World.ownsRow.frozenAt e 4;go_simp;exact c (.bool true) _ ⟨fun g=>absurd g dC,fun _=>⟨Keep.setCell (F:=fun A=>A=a) (Keep.refl _ _) (p:=⟨a,4,none⟩) (.inl rfl) _,fun Z a0 B=>B.at4 q⟩,fun _ g=>absurd rfl g⟩ ⟨k,e.at4 q⟩
   exact aH
 · intro v P b d L;obtain ⟨a7,_⟩:=b;obtain ⟨_,ag,D⟩:∃z,N3 s a n i t z P:=L 14 dC;obtain ⟨_,aJ,G⟩:∃z,N4 s a n i q z P:=L 17 dC;have a6:RowS s a n i t q P:=(by have a9:=(World.ownsRow.cellAt D 4 oM).symm.trans (World.ownsRow.cellAt G 4 oM);have aa:ag=q:=(by simpa [zW] using a9);rw [<-aa];exact D);simp only [zqq];clear d L;go_wp2;exact bodyPost_ret (results_none rfl _ _ _) rfl ⟨rfl,a7,a6⟩
def aF3:(prog.info? 276).map (fun a=>(a.zero,a.size,a.bytes))=some (some (.agg #[.int .i64 0,.int .i64 0,.int .i64 0,.int .i64 0,.int .i64 0,.int .i64 0,.int .i64 0,.pointer none]),8,64):=by kernel_rfl
def vT {c:World} {b e:Nat} {f:TypeId} {a:Array Value} (d:Bk c b f a) (g:a.size=e):Rd c c.heap.size e (some ⟨b,0,none⟩) 1 a.toList:=by
 refine ⟨by simp [g],fun _=>⟨b,0,rfl,d.lt,fun j k i=>?_⟩⟩;rw [zBi,d.cell j];rw [<-i];simp
structure Leaf (w:World) (B gt ga gl cl gb:Nat) (rt v:Int) (bs:List Bool):Prop where
 tree:Bk w gt 266 #[ga,.slice (some gl) 1 cl,.int .i64 rt,.int .i64 v]
 row:RowS B gl cl gb (bs.length:Int) ((bs.count true:Nat):Int) w
 blk:Bk w gb 297 (gP bs)
 arena:∃A c,Bk w ga 154 #[.slice A 1 c,.slice none 0 0,.int .i64 268435456]/\Made w B 4 1 A 1 c [.bool true]
def aJi {k:World} {c:Nat} {b:Option Addr} {d:Nat} {l:List Value} {e:TypeId} {j:Nat} (i:k.ownsRow c e j (.slice b 1 d) 1 l):∃g,b=some ⟨g,0,none⟩:=by
 obtain ⟨f,m,a,_,_⟩:=World.ownsRow.form i oM;injection a with a;exact ⟨f,a⟩
def aJv {i j:World} {o d m r v:Nat} {A B:Int} {c:Option Addr} {b e:Nat} {k:List Value} (y:RowS o m r v A B i) (z:Keep (fun p=>p=m) i j) (a:Made i d 4 1 c b e k):Made j d 4 1 c b e k:=by
 have n:j.ownsRow d 4 1 (.slice c b e) b k:=by refine ⟨a.own.1,?_⟩;rcases a.own.2 with f |⟨l,q,s,f,w,g,x⟩;exact .inl f;refine .inr ⟨l,q,s,f,w,(z.block l (lt_of_block g) (fun u=>?_)).trans g,x⟩;exact y.bk_ne (t:=4) g dC u
 exact ⟨n,Rd.of_own n,a.cap,a.max⟩
def aDW {a i g:Nat} {E:Int} {H:List Bool} {j:World} (x:Bk j a 266 #[i,.slice none 0 0,.int .i64 (-1),.int .i64 E]) (t:Bk j i 154 #[.slice none 0 0,.slice none 0 0,.int .i64 268435456]) (k:Bk j g 297 (gP H)) (an:H.length<=128):
 Calls prog 291 #[a,.agg #[.int .i64 (-1),.int .i64 (-1),.int .i64 0,.int .i64 0,.int .i64 0,.int .i64 0,.int .i64 0,g]] j fun m a0=>m=.returned (.int .i64 0)/\Keep (fun b=>b=i∨b=a) j a0/\∃o a7,Leaf a0 j.heap.size a i o a7 g (-1) E H:=by
 obtain ⟨aD,ak,aA,aB,aC⟩:=info_parts aF3;have b0:=x.lt;have aX:=t.lt;have aY:=k.lt;have X:a≠i:=Bk.ne x t dC;have ay:a≠g:=Bk.ne x k dC;have af:i≠g:=Bk.ne t k dC;have b2:j.cell? a=some (.pointer (some i)):=(x.cell 0).trans rfl;obtain ⟨a6,a4,a5⟩:=hqq3 x t k;clear x t k;go_enter func291,ntmps291;go_wp2_with fail;obtain ⟨f,T⟩:=eqx j.heap.size;refine (aEu (a4.out.alloc _)).mono ?_;rintro m w1 ⟨rfl,w,N,O,ac,S⟩;have aq:Bk w1 f 276 #[.int .i64 (-1),.int .i64 (-1),.int .i64 0,.int .i64 0,.int .i64 0,.int .i64 0,.int .i64 0,g]:=by rw [<-T];exact w.bk (Bk.new j _ _) (fun d=>absurd (show j.heap.size=i from d) oM)
 have V:=w.bk (a6.out.alloc _) (fun d=>X d);have ag:=w.bk (a5.out.alloc _) (fun d=>af d.symm);have aw:=w.size;rw [World.size_alloc] at aw S;have b3:w1.cell? ⟨a,1,none⟩=some (.slice none 0 0):=(V.cell 1).trans rfl;have a2:=lhd w;clear w;go_wp2_with fail;refine wp_region_any kR ?_;refine cT (pJ:=(fun _ y=>∃r s,Bk y a 266 #[i,.slice r 1 s,.int .i64 (-1),.int .i64 E]/\Made y (f+1) 276 8 r 1 s (zW 0 0 g))) [22,23,24,25,26,27,28,29,30,31] (fun b=>b=a) 10 [4,10] [is a,is a,is a,is (.pointer (some ⟨a,1,none⟩)),is (.slice none 0 0),is (.agg #[.int .i64 (-1),.int .i64 (-1),.int .i64 0,.int .i64 0,.int .i64 0,.int .i64 0,.int .i64 0,g]),vY (fun b=>b=a) 276 #[.int .i64 (-1),.int .i64 (-1),.int .i64 0,.int .i64 0,.int .i64 0,.int .i64 0,.int .i64 0,g] fun I=>.slice (some ⟨I,0,none⟩) 1 1,aH4 (f+1) 276 8 1 (zW 0 0 g),is a,is (.pointer (some ⟨a,1,none⟩)),dJ] _ rfl kR kR (V) (fun y b6 d _ aj=>Bk.below d aj d.lt) (fun _ _ _ ⟨r,s,P,ab⟩ D=>⟨r,s,Bk.below P D P.lt,ab.below D⟩) (by repeat' (first | exact nS _ _ | exact kQ _ | exact pG _ _ _ _ | exact aFI (fun b k=>by subst k;omega) _ _ _ _ |(refine zAe.2 ⟨?_,?_⟩)|(intro Y au;cases au))) ?_ ?_
 · refine aV ?_;refine pH3 0 (.pointer (some a)) ?_;refine pH3 0 (.pointer (some a)) ?_;refine pV3 1 23 ?_;refine pV3 2 24 ?_;refine sC3 (fun _ c _ J _ _ _ l _ _ _ n=>?_) ?_
   · have B:=J rfl;have aM:_=_:=l 3 25 kR rfl;have aK:c.cell? ⟨a,1,none⟩=some (.slice none 0 0):=(B.cell 1).trans rfl;go_simp;exact kq n rfl
   refine sC3 (fun v c e _ _ _ ar _ _ _ _ n=>?_) ?_
   · replace e:Keep (fun b=>b=a) w1 c:=kD e;have aQ:v (.tmp 3)=.pointer (some ⟨f,0,none⟩):=ar 3 kR;have q:=e.bk aq (fun d=>absurd (show f=a from d) oM);have b7:c.cell? ⟨f,0,none⟩=some (.int .i64 (-1)):=(q.cell 0).trans rfl;have b8:c.cell? ⟨f,1,none⟩=some (.int .i64 (-1)):=(q.cell 1).trans rfl;have b9:c.cell? ⟨f,2,none⟩=some (.int .i64 0):=(q.cell 2).trans rfl;have ba:c.cell? ⟨f,3,none⟩=some (.int .i64 0):=(q.cell 3).trans rfl;have bb:c.cell? ⟨f,4,none⟩=some (.int .i64 0):=(q.cell 4).trans rfl;have bc:c.cell? ⟨f,5,none⟩=some (.int .i64 0):=(q.cell 5).trans rfl;have bd:c.cell? ⟨f,6,none⟩=some (.int .i64 0):=(q.cell 6).trans rfl;have be:c.cell? ⟨f,7,none⟩=some (.pointer (some g)):=(q.cell 7).trans rfl;go_simp;exact kq n rfl
   refine sC3 (fun _ c e _ _ _ _ l _ _ _ n=>?_) ?_
   · replace e:Keep (fun b=>b=a) w1 c:=kD e;have aN:_=_:=l 5 27 kR rfl;go_simp;exact n _ _ (aO (bR.alloc nL _)) ⟨_,rfl,Bk.new _ _ _,fun d=>by have:=e.size;have aU:c.heap.size=a:=d;omega⟩
   refine sC3 (fun v c e _ _ _ _ l _ _ t n=>?_) ?_;replace e:Keep (fun b=>b=a) w1 c:=kD e;have a8:_=_:=l 4 26 kR rfl;have aG:(vY (fun b=>b=a) 276 #[.int .i64 (-1),.int .i64 (-1),.int .i64 0,.int .i64 0,.int .i64 0,.int .i64 0,.int .i64 0,g] fun I=>.slice (some ⟨I,0,none⟩) 1 1) (v (.tmp 28)) c:=l 6 28 kR rfl;obtain ⟨aa,a9,ah,b1⟩:=aG;subst t;have az:f+1<=c.heap.size:=(by have:=e.size;omega);refine fY c (.tmp 26) (.tmp 28) _ rfl (f+1) 276 aD _ 8 64 underlying264 ak aA aB aC rfl dC (.slice none 0 0) 0 [] a8 (World.ownsRow_nil _ _ _ _) c.heap.size (some ⟨aa,0,none⟩) 1 1 _ a9 (vT ah rfl) (by simp [Value.oneCell']) (by unfold maxLen;omega) oM az ?_;intro b4 G U z aW;rw [zBi,List.nil_append] at U;obtain ⟨C,u,rfl,L⟩:=aR U;exact n _ _ (aO ⟨z.os,z.tape,z.output,z.size,fun D al=>z.block D al (by simp [Value.ownBlock])⟩) ⟨C,u,rfl,L⟩;refine pV3 0 22 ?_;refine pV3 8 30 ?_;refine sC3 (fun v c _ J _ _ _ l _ _ _ n=>?_) ?_
   · have B:=J rfl;have aS:_=_:=l 9 31 kR rfl;have aI:(aH4 (f+1) 276 8 1 (zW 0 0 g)) (v (.tmp 29)) c:=l 7 29 kR rfl;obtain ⟨C,u,aP,L⟩:=aI;have aL:c.cell? ⟨a,1,none⟩=some (.slice none 0 0):=(B.cell 1).trans rfl;have aT:=B.frozen 1;go_simp;exact n (.bool true) _ (bJ (Keep.setCell (F:=fun b=>b=a) (Keep.refl _ _) (p:=⟨a,1,none⟩) (.inl rfl) _)) ⟨C,u,B.set 1 _,L.keepF (Keep.setCell (F:=fun b=>b=a) (Keep.refl _ _) (p:=⟨a,1,none⟩) (.inl rfl) _) (fun b k=>by subst k;omega)⟩
   exact aH
 · intro v G e l Q;replace e:Keep (fun b=>b=a) w1 G:=kD e;obtain ⟨b5,Z⟩:∃aJ,(fun _ y=>∃r s,Bk y a 266 #[i,.slice r 1 s,.int .i64 (-1),.int .i64 E]/\Made y (f+1) 276 8 r 1 s (zW 0 0 g)) aJ G:=Q 10 dC;simp only [zqq];clear l Q;obtain ⟨C,u,W,K⟩:=Z;obtain ⟨o,rfl⟩:=aJi K.own;have M:RowS (f+1) o u g 0 0 G:=K.own;have R:=e.bk ag (fun d=>ay d.symm);have ad:=e.bk ac (fun d=>X d.symm);have ao:=S.keepF e (fun b k=>by subst k;omega);have a3:=lhd e;have aZ:=M.lt;clear e K;go_wp2_with fail;refine (rG W M R an).mono ?_;rintro m a1 ⟨rfl,A,av⟩;have ax:=A.bk W (fun d=>absurd (show a=o from d) oM);have ai:=A.bk R (fun d=>absurd (show g=o from d) oM);have ae:=A.bk ad (fun d=>absurd (show i=o from d) oM);have ap:Made a1 j.heap.size 4 1 N 1 O [.bool true]:=(aJv M A ao).mono oM;have am:Keep (fun b=>b=i∨b=a) j a1:=(by have aE:Keep (fun b=>b=i∨b=a) j w1:=(Keep.of_below (bR.alloc nL _)).trans (a2.out.mono (fun b _ m=>.inl m));have aF:=aE.trans (a3.out.mono (fun b _ m=>.inr m));exact aF.trans' A (fun b k m=>absurd (show b=o from m) oM));go_wp2_with fail;go_ret;rw [T] at*
   exact ⟨rfl,am,o,u,ax,cD av oM,ai,N,O,ae,ap⟩
def wK {c b f:Nat} {k:Int} {d:List Bool} {a:World} (r:Bk a c 266 #[b,.slice none 0 0,.int .i64 (-1),.int .i64 k]) (n:Bk a b 154 #[.slice none 0 0,.slice none 0 0,.int .i64 268435456]) (o:Bk a f 297 (gP d)) (q:d.length<=128):
 Calls prog 280 #[c,f] a fun j l=>j=.returned (.int .i64 0)/\Keep (fun i=>i=b∨i=c) a l/\∃g e,Leaf l a.heap.size c b g e f (-1) k d:=by
 go_enter func280,ntmps280;go_wp2_with fail;refine (aDW r n o q).mono ?_;rintro j w1 ⟨rfl,p,g,e,m⟩;go_wp2_with fail;go_ret;exact ⟨rfl,p,g,e,m⟩
def aGr (b:Nat) (c:List Bool):Value->World->Prop:=fun d e=>∃a,d=.tuple #[.pointer (some ⟨a,0,none⟩),.int .i64 0]/\Bk e a 297 (gP c)/\b<=a
def aIE (b:Nat) (c:List Bool):Value->World->Prop:=fun d e=>∃a,d=.pointer (some ⟨a,0,none⟩)/\Bk e a 297 (gP c)/\b<=a
def aFJ (a:Nat) (b:List Bool):yO (fun _=>False) (aGr a b):=fun _ _ _ ⟨c,e,f,g⟩ i=>⟨c,e,i.bk f (fun d=>d),g⟩
def aFK (a:Nat) (b:List Bool):yO (fun _=>False) (aIE a b):=fun _ _ _ ⟨c,e,f,g⟩ i=>⟨c,e,i.bk f (fun d=>d),g⟩
def Leaf.mono {l:World} {B B' g d f c e:Nat} {j k:Int} {b:List Bool} (a:Leaf l B g d f c e j k b) (i:B'<=B):Leaf l B' g d f c e j k b:=by
 obtain ⟨m,n,o,p⟩:=a.arena;exact ⟨a.tree,cD a.row i,a.blk,m,n,o,p.mono i⟩
def aGq {p o:Nat} {G:Int} {j:Option Addr} {d g y:Nat} {f:List Bool} {c:World} (v:Bk c p 266 #[o,.slice none 0 0,.int .i64 (-1),.int .i64 G]) (n:Bk c o 154 #[.slice none 0 0,.slice none 0 0,.int .i64 268435456]) (u:Rd c y 1 j d (f.map Value.bool)) (P:y<=c.heap.size) (F:d<=128) (al:d<=g):
 Calls prog 247 #[p,.slice j d g,.int .i64 0,.int .i64 1,.int .i64 1] c fun r H=>r=.returned (.int .i64 0)/\Keep (fun z=>z=o∨z=p) c H/\∃t q l,Leaf H c.heap.size p o t q l (-1) G f/\c.heap.size<=l:=by
 have D:f.length=d:=by simpa using u.1
 have ai:((d:Int)*1).tdiv 1=(d:Int):=by rw [Int.mul_one,Int.tdiv_one]
 have ak:=v.lt;have aj:=n.lt;obtain ⟨M,J,L,K,a5⟩:=hqq5 v n (u.mono P) D (Below.refl c.heap.size c);clear v n u D;go_enter func247,ntmps247;go_wp2_with fail;refine wp_region_any kR ?_;refine cT (pJ:=(dJ)) [20,21,22,23,24,25,26,27,28,29,30,31,32,33,34,19,35,36,11,12] (fun _=>False) 19 [] [is (.slice j d g),is (.slice j d g),is (d:Int),is (.int .i64 0),is (.int .i64 0),is (.int .i64 1),is (.int .i64 0),is (.slice j d g),is (d:Int),is (.int .i64 1),is (d:Int),is (.int .i64 1),is (d:Int),is (.slice j d g),aGr c.heap.size f,aGr c.heap.size f,aIE c.heap.size f,is (.int .i64 0),aIE c.heap.size f,dJ] _ rfl kR kR (trivial) (fun _ _ _ _ _=>trivial) (fun _ _ _ _ _=>trivial) (by repeat' (first | exact nS _ _ | exact kQ _ | exact aFJ _ _ | exact aFK _ _ |(refine zAe.2 ⟨?_,?_⟩)|(intro am W;cases W))) ?_ ?_
 · refine aV ?_;refine pH3 1 (.slice j d g) ?_;refine pH3 1 (.slice j d g) ?_;refine pV3 1 21 ?_;refine pH3 2 (.int .i64 0) ?_;refine sC3 (fun _ _ _ _ _ _ _ a _ _ _ b=>?_) ?_
   · have a7:_=_:=a 2 22 kR rfl;have a8:_=_:=a 3 23 kR rfl;go_simp;exact b _ _ (aO bR) (dV (by simp [IntKind.wrap_i64] <;> omega))
   refine pH3 4 (.int .i64 1) ?_;refine sC3 (fun _ _ _ _ _ _ _ a _ _ _ b=>?_) ?_
   · have a9:_=_:=a 4 24 kR rfl;have aa:_=_:=a 5 25 kR rfl;go_simp;exact b _ _ (aO bR) (dV (by simp [IntKind.wrap_i64] <;> omega))
   refine pH3 1 (.slice j d g) ?_;refine pV3 7 27 ?_;refine pH3 3 (.int .i64 1) ?_;refine sC3 (fun _ _ _ _ _ _ _ a _ _ _ b=>?_) ?_
   · have ac:_=_:=a 8 28 kR rfl;have ad:_=_:=a 9 29 kR rfl;go_simp;exact b _ _ (aO bR) (dV (by simp [IntKind.wrap_i64] <;> omega))
   refine pH3 4 (.int .i64 1) ?_;refine sC3 (fun _ _ _ _ _ _ _ a _ _ _ b=>?_) ?_
   · have ae:_=_:=a 10 30 kR rfl;have af:_=_:=a 11 31 kR rfl;go_simp;exact b _ _ (aO bR) (dV (by simp [IntKind.wrap_i64] <;> omega))
   refine sC3 (fun _ _ _ _ _ _ _ a _ _ _ b=>?_) ?_
   · have a6:_=_:=a 0 20 kR rfl;have ab:_=_:=a 6 26 kR rfl;have ag:_=_:=a 12 32 kR rfl;go_simp;exact kq b rfl
   refine sC3 (fun _ k e _ _ _ _ a _ _ _ b=>?_) ?_
   · replace e:Keep (fun _=>False) c k:=kD e;have ah:_=_:=a 13 33 kR rfl;go_simp;have X:=e.rd L.out nL (fun _ _ m=>m);refine (mH g X e.size F).mono ?_;rintro r ap ⟨rfl,S,V⟩;exact b _ _ (aO V) ⟨_,rfl,S,e.size⟩
   refine sC3 (fun i k _ _ _ _ _ a _ _ _ b=>?_) ?_
   · have a1:(aGr c.heap.size f) (i (.tmp 34)) k:=a 14 34 kR rfl;go_simp;exact b _ _ (aO bR) a1
   refine sC3 (fun i k _ _ _ _ _ a _ _ n b=>?_) ?_
   · have w:(aGr c.heap.size f) (i (.tmp 19)) k:=a 15 19 kR rfl;go_simp;obtain ⟨l,s,C,E⟩:=w;subst n;rw [s];go_simp;exact b _ _ (aO bR) ⟨l,rfl,C,E⟩
   refine sC3 (fun i k _ _ _ _ _ a _ _ n b=>?_) ?_
   · have w:(aGr c.heap.size f) (i (.tmp 19)) k:=a 15 19 kR rfl;go_simp;obtain ⟨l,s,C,E⟩:=w;subst n;rw [s];go_simp;exact kq b rfl
   refine sC3 (fun i k _ _ _ _ _ a _ _ _ b=>?_) ?_
   · have a2:(aIE c.heap.size f) (i (.tmp 35)) k:=a 16 35 kR rfl;go_simp;exact b _ _ (aO bR) a2
   refine sC3 (fun _ _ _ _ _ _ _ a _ _ _ b=>?_) ?_
   · have A:_=_:=a 17 36 kR rfl;go_simp;exact b _ _ (aO bR) trivial
   exact aH
 · intro i x e a B;replace e:Keep (fun _=>False) c x:=kD e;have a0:(aIE c.heap.size f) (i (.tmp 11)) x:=a 18 11 rfl;have A:i (.tmp 36)=.int .i64 0:=a 17 36 rfl;obtain ⟨an,a3⟩:∃a4,(dJ) a4 x:=B 19 dC;simp only [zqq];rw [A];clear a B;obtain ⟨l,N,R,T⟩:=a0;rw [N];have Z:=e.bk M.out (fun m=>m);have Q:=e.bk J.out (fun m=>m);have Y:=e.size;have I:=lhd e;clear e;go_wp2_with fail;refine (wK Z Q R (by rw [K.out];exact F)).mono ?_;rintro r ao ⟨rfl,U,t,q,O⟩;go_wp2_with fail;go_ret;exact ⟨rfl,(I.out.mono (fun _ _ m=>m.elim)).trans U,t,q,l,O.mono Y,T⟩
def aA {m w':World} {e:Nat} {a:TypeId} {l k:Nat} {d:Value} {n:List Value} (j:m.ownsRow e a l d k n) (s:∀c f,d.ownBlock=some c->Bk m c a f->Bk w' c a f):w'.ownsRow e a l d k n:=by
 refine ⟨j.1,?_⟩;rcases j.2 with b |⟨i,o,g,b,p,q,r⟩;exact .inl b;exact .inr ⟨i,o,g,b,p,s i g (by rw [b];rfl) q,r⟩
def oD {m d:World} {g:Nat} {c:TypeId} {l k i:Nat} {f:Option Addr} {n:List Value} (e:Made m g c l f k i n) (o:∀a b,Bk m a c b->Bk d a c b):Made d g c l f k i n:=by
 have j:=aA (w':=d) e.own fun a b _=>o a b;exact ⟨j,Rd.of_own j,e.cap,e.max⟩
structure VisF (F:Nat->Prop) (w w':World):Prop where
 os:w'.os=w.os
 tape:w'.tape=w.tape
 output:w'.output=w.output
 size:w.heap.size<=w'.heap.size
 block:∀b,b < w.heap.size->¬F b->w'.heap[b]?=w.heap[b]?∨(∃cs v,Bk w b 266 cs/\Bk w' b 266 (cs.setIfInBounds 3 (.int .i64 v)))∨(∃cs v,Bk w b 206 cs/\Bk w' b 206 (cs.setIfInBounds 10 (.int .i64 v)))
abbrev Vis:World->World->Prop:=VisF (fun _=>False)
def Vis.refl (a:World):Vis a a:=⟨rfl,rfl,rfl,zAs _,fun _ _ _=>.inl rfl⟩
def VisF.of_vis {d:Nat->Prop} {b c:World} (a:Vis b c):VisF d b c:=⟨a.os,a.tape,a.output,a.size,fun e f _=>a.block e f (fun g=>g)⟩
def VisF.of_keep {b:Nat->Prop} {c d:World} (a:Keep b c d):VisF b c d:=⟨a.os,a.tape,a.output,a.size,fun e f g=>.inl (a.block e f g)⟩
def VisF.to_vis {d:Nat->Prop} {c f:World} (b:VisF d c f) (g:∀a,a < c.heap.size->¬d a):Vis c f:=⟨b.os,b.tape,b.output,b.size,fun a e _=>b.block a e (g a e)⟩
def set_set (b:Array Value) (a:Nat) (d c:Value):(b.setIfInBounds a d).setIfInBounds a c=b.setIfInBounds a c:=by
 apply Array.ext
 · simp
 · intro g e f;simp [Array.getElem_setIfInBounds]
def aL {i:World} {d:Nat} {f g:TypeId} {b c:Array Value} (e:Bk i d f b) (a:Bk i d g c):f=g/\b=c:=by
 unfold Bk at e a;rw [e] at a;injection a with a;injection a with h1 h2;exact ⟨h2,h1⟩
def VisF.trans {F:Nat->Prop} {o w1 p:World} (e:VisF F o w1) (g:VisF F w1 p):VisF F o p:=by
 refine ⟨g.os.trans e.os,g.tape.trans e.tape,g.output.trans e.output,zAk e.size g.size,fun j m n=>?_⟩;have q:j < w1.heap.size:=zAl m e.size;rcases e.block j m n with b |⟨f,l,b,c⟩|⟨f,l,b,c⟩<;> rcases g.block j q n with a |⟨k,i,a,d⟩|⟨k,i,a,d⟩;exact .inl (a.trans b);exact .inr (.inl ⟨k,i,b.symm.trans a,d⟩);exact .inr (.inr ⟨k,i,b.symm.trans a,d⟩);exact .inr (.inl ⟨f,l,b,a.trans c⟩);obtain ⟨_,rfl⟩:=aL c a;rw [set_set] at d;exact .inr (.inl ⟨f,i,b,d⟩);exact absurd (aL c a).1 dC;exact .inr (.inr ⟨f,l,b,a.trans c⟩);exact absurd (aL c a).1 dC;obtain ⟨_,rfl⟩:=aL c a;rw [set_set] at d;exact .inr (.inr ⟨f,i,b,d⟩)
def Vis.trans {a w1 b:World} (c:Vis a w1) (d:Vis w1 b):Vis a b:=VisF.trans c d
def Vis.of_below {b c:World} (a:Below b.heap.size b c):Vis b c:=⟨a.os,a.tape,a.output,a.size,fun d e _=>.inl (a.block d e)⟩
def Vis.set_tree {b:World} {a:Nat} {d:Array Value} (f:Bk b a 266 d) (g:Int):Vis b (b.setCell ⟨a,3,none⟩ (.int .i64 g)):=by
 refine ⟨rfl,rfl,rfl,by simp [World.setCell],fun c j _=>?_⟩;by_cases e:c=a;subst e;exact .inr (.inl ⟨d,g,f,f.set 3 _⟩);exact .inl (heap_setCell_other b ⟨a,3,none⟩ c _ (fun i=>e i))
def Vis.set_wave {b:World} {a:Nat} {d:Array Value} (f:Bk b a 206 d) (g:Int):Vis b (b.setCell ⟨a,10,none⟩ (.int .i64 g)):=by
 refine ⟨rfl,rfl,rfl,by simp [World.setCell],fun c j _=>?_⟩;by_cases e:c=a;subst e;exact .inr (.inr ⟨d,g,f,f.set 10 _⟩);exact .inl (heap_setCell_other b ⟨a,10,none⟩ c _ (fun i=>e i))
def VisF.put {F:Nat->Prop} {k w1:World} (b:VisF F k w1) {p:Addr} (c:F p.block∨k.heap.size<=p.block) (i:Value):VisF F k (w1.setCell p i):=by
 refine ⟨b.os,b.tape,b.output,by simpa [World.setCell] using b.size,fun d m l=>?_⟩;have f:(w1.setCell p i).heap[d]?=w1.heap[d]?:=heap_setCell_other w1 p d i (fun n=>by
  rcases c with c | c;rw [<-n] at c;exact l c
  · omega)
 rcases b.block d m l with a |⟨e,j,a,g⟩|⟨e,j,a,g⟩;exact .inl (f.trans a);exact .inr (.inl ⟨e,j,a,f.trans g⟩);exact .inr (.inr ⟨e,j,a,f.trans g⟩)
def Vis.fresh {a w1:World} (c:Vis a w1) {p:Addr} (d:a.heap.size<=p.block) (b:Value):Vis a (w1.setCell p b):=VisF.put c (.inr d) b
def Vis.alloc {a w1:World} (b:Vis a w1) (c:Obj):Vis a (w1.alloc c):=b.trans (Vis.of_below (bR.alloc nL _))
def Vis.below {a w1 b:World} (c:Vis a w1) (d:Below w1.heap.size w1 b):Vis a b:=c.trans (Vis.of_below d)
def VisF.bk {d:Nat->Prop} {f g:World} {b:Nat} {t:TypeId} {e:Array Value} (k:VisF d f g) (c:Bk f b t e) (l:t≠266) (m:t≠206) (n:¬d b):Bk g b t e:=by
 rcases k.block b c.lt n with a |⟨i,o,a,j⟩|⟨i,o,a,j⟩;exact a.trans c;exact absurd (aL c a).1 l;exact absurd (aL c a).1 m
def VisF.tree {e:Nat->Prop} {l m:World} {b:Nat} {f g i:Value} {k:Int} (o:VisF e l m) (c:Bk l b 266 #[f,g,i,.int .i64 k]) (p:¬e b):∃d,Bk m b 266 #[f,g,i,.int .i64 d]:=by
 rcases o.block b c.lt p with a |⟨n,d,a,j⟩|⟨n,d,a,j⟩;exact ⟨k,a.trans c⟩;obtain ⟨_,rfl⟩:=aL c a;exact ⟨d,j⟩;exact absurd (aL c a).1 dC
def VisF.wave {g:Nat->Prop} {j f:World} {b:Nat} {e:Array Value} (l:VisF g j f) (c:Bk j b 206 e) (m:¬g b):Bk f b 206 e∨∃d,Bk f b 206 (e.setIfInBounds 10 (.int .i64 d)):=by
 rcases l.block b c.lt m with a |⟨k,d,a,i⟩|⟨k,d,a,i⟩;exact .inl (a.trans c);exact absurd (aL c a).1 dC;obtain ⟨_,rfl⟩:=aL c a;exact .inr ⟨d,i⟩
def Vis.bk {c d:World} {b:Nat} {t:TypeId} {a:Array Value} (e:Vis c d) (i:Bk c b t a) (f:t≠266) (g:t≠206):Bk d b t a:=VisF.bk e i f g (fun j=>j)
def Vis.tree {e f:World} {d:Nat} {a b c:Value} {j:Int} (g:Vis e f) (i:Bk e d 266 #[a,b,c,.int .i64 j]):∃k,Bk f d 266 #[a,b,c,.int .i64 k]:=VisF.tree g i (fun l=>l)
def Vis.wave {d c:World} {b:Nat} {a:Array Value} (e:Vis d c) (f:Bk d b 206 a):Bk c b 206 a∨∃g,Bk c b 206 (a.setIfInBounds 10 (.int .i64 g)):=VisF.wave e f (fun i=>i)
def VisK (c:Nat->Prop) (a b:World):Prop:=Vis a b/\Keep c a b
def VisK.refl (b:Nat->Prop) (a:World):VisK b a a:=⟨Vis.refl a,Keep.refl b a⟩
def vR {b:Nat->Prop} {a:World}:VisK b a a:=VisK.refl b a
def VisK.trans {F:Nat->Prop} {c w1 d:World} (a:VisK F c w1) (b:VisK F w1 d):VisK F c d:=⟨a.1.trans b.1,a.2.trans b.2⟩
def VisK.below {a:Nat->Prop} {d w1 e:World} (b:VisK a d w1) (c:Below w1.heap.size w1 e):VisK a d e:=⟨b.1.trans (Vis.of_below c),b.2.trans (Keep.of_below c)⟩
def VisK.of_below {F:Nat->Prop} {a b:World} (c:Below a.heap.size a b):VisK F a b:=(VisK.refl F a).below c
def VisK.alloc {a:Nat->Prop} {b w1:World} (c:VisK a b w1) (d:Obj):VisK a b (w1.alloc d):=c.below (bR.alloc nL _)
def VisK.set_tree {c:World} {a:Nat} {e:Array Value} (f:Bk c a 266 e) (d:Int):VisK (fun b=>b=a) c (c.setCell ⟨a,3,none⟩ (.int .i64 d)):=⟨Vis.set_tree f d,Keep.setCell (F:=fun b=>b=a) (Keep.refl _ _) (p:=⟨a,3,none⟩) (.inl rfl) _⟩
def VisK.mono {F G:Nat->Prop} {c d:World} (b:VisK F c d) (e:∀a,F a->G a):VisK G c d:=⟨b.1,b.2.mono fun a _=>e a⟩
def Vis.own {f g:World} {b:Nat} {a:TypeId} {d c:Nat} {e:Value} {i:List Value} (n:Vis f g) (j:f.ownsRow b a d e c i) (k:a≠266) (l:a≠206):g.ownsRow b a d e c i:=
 aA j fun o p _ m=>n.bk m k l
def Vis.made {g i:World} {c:Nat} {a:TypeId} {f e d:Nat} {b:Option Addr} {j:List Value} (o:Vis g i) (k:Made g c a f b e d j) (l:a≠266) (m:a≠206):Made i c a f b e d j:=
 oD k fun p q n=>o.bk n l m
def RdT (k:World) (j:TypeId) (i:Option Addr) (d:Nat) (g:List Value):Prop:=
 g.length=d/\(0 < d->∃a e b,i=some ⟨a,e,none⟩/\Bk k a j b/\∀c f,g[c]?=some f->b[e+c]?=some f)
def RdT.rd {a:World} {o:TypeId} {b:Option Addr} {e:Nat} {f:List Value} (c:RdT a o b e f):Rd a a.heap.size 1 b e f:=by
 refine ⟨by rw [c.1,zBl],fun k=>?_⟩;obtain ⟨g,n,q,i,d,j⟩:=c.2 k;exact ⟨g,n,i,d.lt,fun m p l=>(d.cell _).trans (j m p l)⟩
def RdT.same {g w':World} {c:TypeId} {d:Option Addr} {f:Nat} {i:List Value} (e:RdT g c d f i) (n:∀a b,Bk g a c b->Bk w' a c b):RdT w' c d f i:=by
 refine ⟨e.1,fun m=>?_⟩;obtain ⟨a,o,b,j,k,l⟩:=e.2 m;exact ⟨a,o,b,j,n a b k,l⟩
def sv (a:Nat):Value:=.int .i64 (a:Int)
def iD:(prog.info? 3).map (fun a=>(a.zero,a.size,a.bytes))=some (some (.int .i64 0),1,8):=by kernel_rfl
def aD0 {d:World} {B a n:Nat} {c:TypeId} {b:List Value} (i:Bk d a c b.toArray) (j:B<=a) (f:b.length=n) (e:n<=maxLen):Made d B c 1 (some ⟨a,0,none⟩) n n b:=by
 have g:d.ownsRow B c 1 (.slice (some a) n n) n b:=⟨by omega,.inr ⟨a,n,b.toArray,rfl,j,i,zAs _,e,by simp [f],by rw [zBl,zAg (by simp [f])]⟩⟩;exact ⟨g,Rd.of_own g,zAs _,e⟩
end Go.Proofs.YtcoooelofcejbaaGreatDoor
