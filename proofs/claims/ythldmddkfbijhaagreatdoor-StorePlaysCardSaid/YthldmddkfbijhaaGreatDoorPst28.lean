/- Lemmas of the walk. Conditions: each its own. -/
import Derived.Test.YthldmddkfbijhaaGreatDoorPst27
import Derived.Test.YthldmddkfbijhaaGreatDoorProg
import Derived.Test.YthldmddkfbijhaaGreatDoorSht
import Derived.Test.YthldmddkfbijhaaGreatDoorShl
import Derived.Test.YthldmddkfbijhaaGreatDoorShi
import Derived.Test.YthldmddkfbijhaaGreatDoorShs
set_option linter.all false
set_option maxRecDepth 100000
set_option maxHeartbeats 2000000
open Go.Proofs.Tryz
namespace Go.Proofs.YthldmddkfbijhaaGreatDoor
open Go.RowKit
theorem yH (j:Nat) (own:Nat->Nat) (gs gl most rate:Nat) (m:List UInt8) (n:List Nat) (w:World) (p:StAt w j own gs gl most rate m) (D:IsSuf (aF m) n):
 Calls prog 23 #[gs] w (eK w j (dN (aE (aF m) n) n most rate m.length)):=by
 have s:∀w1,VB j w w1->Calls prog 10 #[gl,(most:Int)] w1 (eK w1 j (dN (aE (aF m) n) n most rate m.length)):=fun w1 u=>(p.vb u.1).save D;obtain ⟨k,A⟩:=eqx (dN (aE (aF m) n) n most rate m.length);rw [A] at s⊢;obtain ⟨f,e⟩:=eqx k.length;obtain ⟨I,y,z⟩:=hqq3 s e p.blk;clear s p D A e;unfold eK;rw [y.out];go_enter func23,ntmps23;go_wp2_with fail;refine wp_region_any kR ?_;refine aQ [6,7,8,9,10,11,12,13,14,15,16,2,3] (VB j) (Vs [is gs,is gs,is gs,is gl,is gs,is gs,is (.pointer (some ⟨gs,1,none⟩)),is (most:Int),fun v g=>∃a b,v=.tuple #[.slice a f b,.int .i64 0]/\Made g w.heap.size 5 1 a f b (k.map bv),fun v g=>∃a b,v=.slice a f b/\Made g w.heap.size 5 1 a f b (k.map bv),is (.int .i64 0),fun v g=>∃a b,v=.slice a f b/\Made g w.heap.size 5 1 a f b (k.map bv),is (.int .i64 0)]) _ _ rfl kR vR (fun _ _=>VisK.trans) (cV (by repeat' (first | exact iI _ _ | exact jS _ | exact fun _ _ _ ⟨F,J,O,R⟩ u=>⟨F,J,O,u.1.made R dC dC⟩|(refine zAe.2 ⟨?_,?_⟩)|(intro a3 S;cases S)))) ?_ ?_
 · refine aO ?_;refine pH 0 (.pointer (some ⟨gs,0,none⟩)) ?_;refine pV 0 6 ?_;refine pV 1 7 ?_;refine sC (fun _ i c _ _ _ d _ _ _ e=>?_) ?_
   · have a1:_=_:=d 2 8 kR rfl;replace c:(VB j) w i:=bD c;have q:=c.1.bk z.out dC dC;have K:=q.cell 0;go_simp;exact e _ _ vR rfl
   refine pH 0 (.pointer (some ⟨gs,0,none⟩)) ?_;refine pV 4 10 ?_;refine pV 5 11 ?_;refine sC (fun _ i c _ _ _ d _ _ _ e=>?_) ?_
   · have Y:_=_:=d 6 12 kR rfl;replace c:(VB j) w i:=bD c;have q:=c.1.bk z.out dC dC;have K:=q.cell 1;go_simp;exact e _ _ vR rfl
   refine sC (fun _ i c _ _ _ d _ _ _ e=>?_) ?_
   · have a2:_=_:=d 3 9 kR rfl;have Z:_=_:=d 7 13 kR rfl;replace c:(VB j) w i:=bD c;go_simp;have t:=I.out i c;unfold eK at t;rw [y.out] at t;refine t.mono ?_;rintro X a4 ⟨a,b,rfl,o,U⟩;exact e _ _ U ⟨a,b,rfl,o.mono c.1.size⟩
   refine sC (fun l i _ _ _ _ d _ _ _ e=>?_) ?_
   · have x:(fun v g=>∃a b,v=.tuple #[.slice a f b,.int .i64 0]/\Made g w.heap.size 5 1 a f b (k.map bv)) (l (.tmp 14)) i:=d 8 14 kR rfl;obtain ⟨a,b,L,o⟩:=x;go_simp;exact e _ _ vR ⟨a,b,rfl,o⟩
   refine sC (fun l i _ _ _ _ d _ _ _ e=>?_) ?_
   · have x:(fun v g=>∃a b,v=.tuple #[.slice a f b,.int .i64 0]/\Made g w.heap.size 5 1 a f b (k.map bv)) (l (.tmp 14)) i:=d 8 14 kR rfl;obtain ⟨a,b,L,o⟩:=x;go_simp;exact e _ _ vR rfl
   refine sC (fun l i _ _ _ _ d _ _ _ e=>?_) ?_
   · have V:(fun v g=>∃a b,v=.slice a f b/\Made g w.heap.size 5 1 a f b (k.map bv)) (l (.tmp 15)) i:=d 9 15 kR rfl;obtain ⟨a,b,a0,o⟩:=V;go_simp;exact e _ _ vR ⟨a,b,rfl,o⟩
   refine pV 10 16 ?_;exact aD
 · intro l E c d;replace c:(VB j) w E:=bD c;have W:(fun v g=>∃a b,v=.slice a f b/\Made g w.heap.size 5 1 a f b (k.map bv)) (l (.tmp 2)) E:=d 11 2 rfl;have N:l (.tmp 3)=.int .i64 0:=d 12 3 rfl;simp only [zqq];rw [N];clear d;obtain ⟨a,b,M,C⟩:=W;rw [M];obtain ⟨H,G⟩:=hqq2 C c;clear C c;go_wp2_with fail;go_ret2;exact ⟨a,b,rfl,H.out,G.out⟩
section
variable {w w1 w' : World} {B gs gl most rate : Nat} {own own' : Nat -> Nat} {T : List UInt8}
theorem iS {b i:Nat} {j a:TypeId} {m l:_} {d g e:Nat} {c:Option Addr} (n:Made w d a 1 c g e l) (o:Bk w b j m) (q:a≠j) (k:Value):Made (w.setCell ⟨b,i,none⟩ k) d a 1 c g e l:=
 oQ n fun s t f=>f.far (p:=⟨b,i,none⟩) (Bk.ne f o q) k
theorem kZ {z:Array Value} {a:Nat} {I J K L:Value} {b c:Option Addr} {x d y e:Nat} {k l:Int} {g:List UInt8} {j:List Nat} {t:Exit} (R:t=.ret∨t=.normal) (W:z.getD 4 undef=.pointer (some ⟨a,0,none⟩)) (u:Bk w1 a 50 #[I,J,K,L])
 (Y:StAt w1 B own' gs gl most rate T) (S:LFS B gs w w1 own own') (Z:B<=w.heap.size) (q:w.heap.size<=a) (o:Ap own' gs a) (O:g.length=x) (X:j.length=y) (U:Made w1 w.heap.size 5 1 b x d (g.map bv)) (V:Made w1 w.heap.size 3 1 c y e (j.map nv)) (G:∀m,b=some m->own' m.block=0) (H:∀m,c=some m->own' m.block=0):
 bodyPost prog f22 (StDone w B own gs most rate T ⟨k,l,g,j⟩) t ⟨z, []⟩ ((((w1.setCell ⟨a,0,none⟩ (.int .i64 k)).setCell ⟨a,1,none⟩ (.int .i64 l)).setCell ⟨a,2,none⟩ (.slice b x d)).setCell ⟨a,3,none⟩ (.slice c y e)):=by
 subst O X;have b1:=u.set 0 (.int .i64 k);have b2:=b1.set 1 (.int .i64 l);have s:=b2.set 2 (.slice b g.length d);have M:=s.set 3 (.slice c j.length e);have n:B<=a:=oM;have D:=(((Y.put (p:=⟨a,0,none⟩) o (.int .i64 k)).put (p:=⟨a,1,none⟩) o (.int .i64 l)).put (p:=⟨a,2,none⟩) o (.slice b g.length d)).put (p:=⟨a,3,none⟩) o (.slice c j.length e);have A:=(((S.put (p:=⟨a,0,none⟩) q n (.int .i64 k)).put (p:=⟨a,1,none⟩) q n (.int .i64 l)).put (p:=⟨a,2,none⟩) q n (.slice b g.length d)).put (p:=⟨a,3,none⟩) q n (.slice c j.length e);have E:=iS (i:=3) (iS (i:=2) (iS (i:=1) (iS (i:=0) U u dC (.int .i64 k)) b1 dC (.int .i64 l)) b2 dC (.slice b g.length d)) s dC (.slice c j.length e);have F:=iS (i:=3) (iS (i:=2) (iS (i:=1) (iS (i:=0) V u dC (.int .i64 k)) b1 dC (.int .i64 l)) b2 dC (.slice b g.length d)) s dC (.slice c j.length e);have N:Bk ((((w1.setCell ⟨a,0,none⟩ (.int .i64 k)).setCell ⟨a,1,none⟩ (.int .i64 l)).setCell ⟨a,2,none⟩ (.slice b g.length d)).setCell ⟨a,3,none⟩ (.slice c j.length e)) a 50 (lX ⟨k,l,g,j⟩ b d c e):=by simpa [lX] using M
 have C:=results_cell_row (P:=prog) (fn:=f22) (p:=4) (ty:=50) rfl z _ a 50 (lX ⟨k,l,g,j⟩ b d c e) (0,0) _ W N underlying50 rfl kR;rcases R with rfl | rfl;exact bodyPost_ret C rfl ⟨b,d,c,e,own',gl,rfl,D,A,E,F,G,H⟩;exact bodyPost_end C rfl ⟨b,d,c,e,own',gl,rfl,D,A,E,F,G,H⟩
end
structure DoW (w W:World) (B:Nat) (own:Nat->Nat) (gs gl most rate:Nat) (t:List UInt8) (kind p n:Int) (A:Option Addr) (m c:Nat):Prop where
 low:Below w.heap.size w W
 box:Bk W w.heap.size 46 #[.int .i64 kind,.int .i64 p,.int .i64 n,.slice A m c]
 res:Bk W (w.heap.size+1) 50 #[.int .i64 0,.int .i64 0,.slice none 0 0,.slice none 0 0]
 st:StAt W B own gs gl most rate t
 ap:Ap own gs (w.heap.size+1)
 sz:W.heap.size=w.heap.size+2
 fr:∀b,w.heap.size<=b->own b=0
 bs:B<=w.heap.size
theorem DoW.mk' {w:World} {B:Nat} {own:Nat->Nat} {gs gl most rate:Nat} {k:List UInt8} (e i g:Int) (b:Option Addr) (f c:Nat) (a:StAt w B own gs gl most rate k):
 DoW w ((w.alloc (.cells #[.int .i64 e,.int .i64 i,.int .i64 g,.slice b f c] 46)).alloc (.cells #[.int .i64 0,.int .i64 0,.slice none 0 0,.slice none 0 0] 50)) B own gs gl most rate k e i g b f c:=by
 have d:Below w.heap.size w ((w.alloc (.cells #[.int .i64 e,.int .i64 i,.int .i64 g,.slice b f c] 46)).alloc (.cells #[.int .i64 0,.int .i64 0,.slice none 0 0,.slice none 0 0] 50)):=(bR.alloc nL _).alloc (by simp) _;have j:=Bk.new (w.alloc (.cells #[.int .i64 e,.int .i64 i,.int .i64 g,.slice b f c] 46)) 50 #[.int .i64 0,.int .i64 0,.slice none 0 0,.slice none 0 0];rw [World.size_alloc] at j;exact ⟨d,(Bk.new w _ _).alloc _,j,a.vb (Vis.of_below d),⟨a.fresh oM,by have:=a.blk.lt;omega⟩,by rw [World.size_alloc,World.size_alloc],fun l d=>a.fresh d,a.size⟩
theorem aAq {w:World} {B:Nat} {own:Nat->Nat} {gs gl most rate:Nat} {g:List UInt8} {i:Array Value} (c:Array Value) (a b:Int) {d:Exit} (o:StAt w B own gs gl most rate g) (q:d=.ret∨d=.normal) (s:i.getD 4 undef=.pointer (some ⟨w.heap.size+1,0,none⟩)):
 bodyPost prog f22 (StDone w B own gs most rate g ⟨a,b, [], []⟩) d ⟨i, []⟩ ((w.alloc (.cells c 46)).alloc (.cells #[.int .i64 a,.int .i64 b,.slice none 0 0,.slice none 0 0] 50)):=by
 have j:Below w.heap.size w ((w.alloc (.cells c 46)).alloc (.cells #[.int .i64 a,.int .i64 b,.slice none 0 0,.slice none 0 0] 50)):=(bR.alloc nL _).alloc (by simp) _;have k:=Bk.new (w.alloc (.cells c 46)) 50 #[.int .i64 a,.int .i64 b,.slice none 0 0,.slice none 0 0];rw [World.size_alloc] at k;have l:=results_cell_row (P:=prog) (fn:=f22) (p:=4) (ty:=50) rfl i _ (w.heap.size+1) 50 (lX ⟨a,b, [], []⟩ none 0 none 0) (0,0) _ s k underlying50 rfl kR;have m:StDone w B own gs most rate g ⟨a,b, [], []⟩ (.returned (.agg (lX ⟨a,b, [], []⟩ none 0 none 0))) ((w.alloc (.cells c 46)).alloc (.cells #[.int .i64 a,.int .i64 b,.slice none 0 0,.slice none 0 0] 50)):=
  ⟨none,0,none,0,own,gl,rfl,o.vb (Vis.of_below j),LFS.of_below B gs own j,bB _ _ _,bB _ _ _,(fun n e=>by cases e),(fun n e=>by cases e)⟩
 rcases q with rfl | rfl;exact bodyPost_ret l rfl m;exact bodyPost_end l rfl m
theorem gA (B:Nat) (own:Nat->Nat) (gs gl most rate:Nat) (z T2:List UInt8) (d m l:Int) (g:Option Addr) (k i:Nat) (o:Int) (w:World) (q:StAt w B own gs gl most rate z) (H:d=1∨d=2∨d=3)
 (u:∀e,StAt e B own gs gl most rate z->LFS B gs w e own own->Calls prog 74 #[gs,.agg #[.int .i64 d,.int .i64 m,.int .i64 l,.slice g k i]] e fun p w'=>p=.returned (.int .i64 o)/\∃own',StAt w' B own' gs gl most rate T2/\LFS B gs e w' own own'):
 Calls prog 22 #[gs,aZ d m l g k i] w (StDone w B own gs most rate T2 ⟨o,0, [], []⟩):=by
 have c:=DoW.mk' d m l g k i q;have t:=u _ c.st (LFS.of_below B gs own c.low);have I:=c.box.cell 0;have J:=c.box.cell 1;have K:=c.box.cell 2;have L:=c.box.cell 3;obtain ⟨b,n⟩:=hqq2 c t;clear c t u q;unfold aZ;rcases H with rfl | rfl | rfl
 all_goals
  go_enter func22,ntmps22;go_wp2_with fail;refine n.out.mono ?_;rintro p w1 ⟨rfl,own',y,f⟩;have a:=f.bk b.out.res b.out.ap.col b.out.ap.ne dC dC;have s:=b.out.ap.step f b.out.res.lt;have x:=(LFS.of_below B gs own b.out.low).trans f;have C:=lhd b.out.bs;have S:=a.cell 0;have U:=a.cell 1;have V:=a.cell 2;have W:=a.cell 3;have M:=a.frozen 0;have N:=a.frozen 1;have O:=a.frozen 2;have R:=a.frozen 3;obtain ⟨F,E,D,A⟩:=hqq4 a y x s;clear a y x f s n b;go_wp2_with fail;exact kZ (.inl rfl) rfl F.out E.out D.out C.out oM A.out rfl rfl (bB _ _ _) (bB _ _ _) (fun G j=>by cases j) (fun G j=>by cases j)
theorem aDl (B:Nat) (own:Nat->Nat) (gs gl most rate e:Nat) (c:List UInt8) (k j:Int) (d:Option Addr) (i f:Nat) (w:World) (b:StAt w B own gs gl most rate c) (n:c.length=e):
 Calls prog 22 #[gs,aZ 4 k j d i f] w (StDone w B own gs most rate c ⟨0,(e:Int), [], []⟩):=by
 have a:=DoW.mk' 4 k j d i f b;have g:=a.st.llen n;have o:=a.box.cell 0;have C:=a.st.blk.cell 0;have x:=a.res.cell 0;have y:=a.res.cell 1;have z:=a.res.cell 2;have A:=a.res.cell 3;have q:=a.res.frozen 0;have s:=a.res.frozen 1;have t:=a.res.frozen 2;have u:=a.res.frozen 3;obtain ⟨l,m⟩:=hqq2 b g;clear a g b;unfold aZ;go_enter func22,ntmps22;go_wp2_with fail;refine m.out.mono ?_;rintro p w1 ⟨rfl,rfl⟩;go_wp2_with fail;exact aAq _ _ _ l.out (.inl rfl) rfl
theorem aDm (B:Nat) (own:Nat->Nat) (gs gl most rate:Nat) (l:List UInt8) (a k j:Int) (f:Option Addr) (i g:Nat) (w:World) (d:StAt w B own gs gl most rate l) (c:∀e:Int,1<=e->e<=8->a≠e):
 Calls prog 22 #[gs,aZ a k j f i g] w (StDone w B own gs most rate l ⟨1,0, [], []⟩):=by
 have b:=DoW.mk' a k j f i g d;have n:=b.box.cell 0;have t:=b.res.cell 0;have u:=b.res.cell 1;have x:=b.res.cell 2;have y:=b.res.cell 3;have o:=b.res.frozen 0;have p:=b.res.frozen 1;have q:=b.res.frozen 2;have s:=b.res.frozen 3;have z:(a==1)=false:=zCb.2 (c 1 dC dC);have A:(a==2)=false:=zCb.2 (c 2 dC dC);have C:(a==3)=false:=zCb.2 (c 3 dC dC);have D:(a==4)=false:=zCb.2 (c 4 dC dC);have E:(a==5)=false:=zCb.2 (c 5 dC dC);have F:(a==6)=false:=zCb.2 (c 6 dC dC);have G:(a==7)=false:=zCb.2 (c 7 dC dC);have H:(a==8)=false:=zCb.2 (c 8 dC dC);have m:=lhd d;clear b d c;unfold aZ;go_enter func22,ntmps22;go_wp2_with fail;exact aAq _ _ _ m.out (.inl rfl) rfl
theorem aE5 (B:Nat) (own:Nat->Nat) (gs gl most rate:Nat) (b:List UInt8) (K J:Int) (g:Option Addr) (I i:Nat) (w:World) (p:StAt w B own gs gl most rate b):
 Calls prog 22 #[gs,aZ 8 K J g I i] w (StDone w B own gs most rate b ⟨0,0, [], []⟩):=by
 obtain ⟨c,f⟩:∃c,IsSuf (aF b) c:=by obtain ⟨c,gk,a3,a8,f,_⟩:=p.tp;exact ⟨c,f⟩
 have j:=DoW.mk' 8 K J g I i p;have m:=yH B own gs gl most rate b c _ j.st f;unfold eK at m;obtain ⟨W,s⟩:=eqx ((dN (aE (aF b) c) c most rate b.length).length);rw [s] at m;have A:=fun g i w1 (e:StAt w1 B own gs gl most rate b)=>yJ B own gs gl most rate most rate g W i b b c w1 e f e.n127 e.r1 e.r2 e.len e.max s;have X:=j.box.cell 0;obtain ⟨d,y,t⟩:=hqq3 j m A;clear j m A p s f;unfold aZ;go_enter func22,ntmps22;go_wp2_with fail;refine y.out.mono ?_;rintro V w1 ⟨L,U,rfl,l,n⟩;have G:=d.out.st.vb n.1;have E:=(LFS.of_below B gs own d.out.low).trans (LFS.of_vb gs own n);have F:=n.1.bk d.out.res dC dC;have C:=t.out L U w1 G l.rd l.cap l.max;obtain ⟨u,x,o⟩:=hqq3 C E F;clear G E F C l n y t;go_wp2_with fail;refine u.out.mono ?_;rintro V a9 ⟨rfl,own',a2,H,k⟩;have a:=k.bk o.out d.out.ap.col d.out.ap.ne dC dC;have z:=d.out.ap.step k o.out.lt;have D:=x.out.trans k;have a4:=a.cell 0;have a5:=a.cell 1;have a6:=a.cell 2;have a7:=a.cell 3;have Y:=a.frozen 0;have Z:=a.frozen 1;have a0:=a.frozen 2;have a1:=a.frozen 3;obtain ⟨R,O,N,M⟩:=hqq4 a H D z;clear a H D k z u x o;go_wp2_with fail;exact kZ (.inl rfl) rfl R.out O.out N.out d.out.bs oM M.out rfl rfl (bB _ _ _) (bB _ _ _) (fun S q=>by cases q) (fun S q=>by cases q)
theorem aBU (B gl rate a:Nat) (p:List UInt8) (b d:Int) (w:World) (f:TpAt w B gl p rate) (x:p.length=a) (g:iE a b d=false):
 Calls prog 75 #[gl,.int .i64 b,.int .i64 d] w fun c w'=>c=.returned (.tuple #[.slice none 0 0,.int .i64 2])/\w=w':=by
 have m:Calls prog 37 #[gl] w fun c w'=>c=.returned (.int .i64 (a:Int))/\w=w':=by obtain ⟨D,gk,u,C,o,l,z,A,n⟩:=f;exact bQ B gl _ a w l.lvw (by rw [bP,o.len,aL,x]) oM
 have n:a<=127:=by obtain ⟨D,gk,u,C,o,l,z,A,n⟩:=f;omega
 unfold iE at g;have y:=of_decide_eq_false g;have e:=lhd m;clear f m g;by_cases i:b < 0
 · have q:decide (b < 0)=true:=zBz i;go_enter func75,ntmps75;go_wp2_with fail;go_ret2;exact ⟨rfl,rfl⟩
 · have q:decide (b < 0)=false:=zBy i;by_cases j:d < 0
   · have s:decide (d < 0)=true:=zBz j;go_enter func75,ntmps75;go_wp2_with fail;go_ret2;exact ⟨rfl,rfl⟩
   · have s:decide (d < 0)=false:=zBy j;by_cases k:b > (a:Int)
     · have t:decide (b > (a:Int))=true:=zBz k;go_enter func75,ntmps75;go_wp2_with fail;refine e.out.mono ?_;rintro c w1 ⟨rfl,rfl⟩;go_wp2_with fail;go_ret2;exact ⟨rfl,rfl⟩
     · have t:decide (b > (a:Int))=false:=zBy k;have F:IntKind.i64.wrap ((a:Int) - b)=(a:Int) - b:=(by rw [IntKind.wrap_i64];omega);have E:decide (d > (a:Int) - b)=true:=zBz oM;clear y;go_enter func75,ntmps75;go_wp2_with fail;refine e.out.mono ?_;rintro c w1 ⟨rfl,rfl⟩;go_wp2_with fail;refine e.out.mono ?_;rintro c w1 ⟨rfl,rfl⟩;go_wp2_with fail;go_ret2;exact ⟨rfl,rfl⟩
theorem sI (B:Nat) (own:Nat->Nat) (gs gl most rate:Nat) (J:List UInt8) (t y:Int) (C:Option Addr) (H D:Nat) (w:World) (E:StAt w B own gs gl most rate J) (j:List UInt8) (n:Int) (e:Nat) (a9:j.length=e)
 (S:∀l,StAt l B own gs gl most rate J->LFS B gs w l own own->Calls prog 75 #[gl,.int .i64 t,.int .i64 y] l fun M w'=>∃a b,M=.returned (.tuple #[.slice a e b,.int .i64 n])/\Made w' l.heap.size 5 1 a e b (j.map bv)/\VB B l w'):
 Calls prog 22 #[gs,aZ 5 t y C H D] w (StDone w B own gs most rate J ⟨n,0,j, []⟩):=by
 have s:=DoW.mk' 5 t y C H D E;have A:=fun f (x:VB B _ f)=>S f (s.st.vb x.1) ((LFS.of_below B gs own s.low).trans (LFS.of_vb gs own x));have av:=E.blk.lt;have a2:=s.box.cell 0;have a3:=s.box.cell 1;have a4:=s.box.cell 2;have af:=s.st.blk.cell 0;obtain ⟨m,K⟩:=hqq2 s A;clear s A E S;unfold aZ;go_enter func22,ntmps22;go_wp2_with fail;generalize (w.alloc (.cells #[.int .i64 5,.int .i64 t,.int .i64 y,.slice C H D] 46)).alloc (.cells #[.int .i64 0,.int .i64 0,.slice none 0 0,.slice none 0 0] 50)=l at*
 clear a2 a3 a4 af;refine wp_region_any kR ?_;refine aQ [34,35,36,37,38,39,40,41,42,33,43,44,5,6] (VB B) (Vs [is gs,is gs,is gs,is gl,is (.pointer (some ⟨w.heap.size,1,none⟩)),is (.int .i64 t),is (.pointer (some ⟨w.heap.size,2,none⟩)),is (.int .i64 y),fun v g=>∃a b,v=.tuple #[.slice a e b,.int .i64 n]/\Made g w.heap.size 5 1 a e b (j.map bv),fun v g=>∃a b,v=.tuple #[.slice a e b,.int .i64 n]/\Made g w.heap.size 5 1 a e b (j.map bv),fun v g=>∃a b,v=.slice a e b/\Made g w.heap.size 5 1 a e b (j.map bv),is (.int .i64 n),fun v g=>∃a b,v=.slice a e b/\Made g w.heap.size 5 1 a e b (j.map bv),is (.int .i64 n)]) _ _ rfl kR vR (fun _ _=>VisK.trans) (cV (by repeat' (first | exact iI _ _ | exact jS _ | exact fun _ _ _ ⟨a,b,a6,a7⟩ x=>⟨a,b,a6,x.1.made a7 dC dC⟩|(refine zAe.2 ⟨?_,?_⟩)|(intro t A;cases A)))) ?_ ?_
 · refine aO ?_;refine pH 0 (.pointer (some ⟨gs,0,none⟩)) ?_;refine pV 0 34 ?_;refine pV 1 35 ?_;refine sC (fun _ f c _ _ _ d _ _ _ i=>?_) ?_
   · have ag:_=_:=d 2 36 kR rfl;replace c:(VB B) l f:=bD c;have a8:=c.1.bk m.out.st.blk dC dC;have L:=a8.cell 0;go_simp;exact i _ _ vR rfl
   refine pH 3 (.pointer (some ⟨w.heap.size,0,none⟩)) ?_;refine sC (fun _ f c _ _ _ d _ _ _ i=>?_) ?_
   · have ai:_=_:=d 4 38 kR rfl;replace c:(VB B) l f:=bD c;have G:=c.1.bk m.out.box dC dC;have L:=G.cell 1;go_simp;exact i _ _ vR rfl
   refine pH 3 (.pointer (some ⟨w.heap.size,0,none⟩)) ?_;refine sC (fun _ f c _ _ _ d _ _ _ i=>?_) ?_
   · have ak:_=_:=d 6 40 kR rfl;replace c:(VB B) l f:=bD c;have G:=c.1.bk m.out.box dC dC;have L:=G.cell 2;go_simp;exact i _ _ vR rfl
   refine sC (fun _ f c _ _ _ d _ _ _ i=>?_) ?_
   · have ah:_=_:=d 3 37 kR rfl;have aj:_=_:=d 5 39 kR rfl;have al:_=_:=d 7 41 kR rfl;replace c:(VB B) l f:=bD c;have ab:=c.1.size;go_simp;refine (K.out f c).mono ?_;rintro M aA ⟨a,b,rfl,z,aa⟩;exact i _ _ aa ⟨a,b,rfl,⟨bZ z.own (zAk m.out.low.size ab),z.rd,z.cap,z.max⟩⟩
   refine sC (fun o f _ _ _ _ d _ _ _ i=>?_) ?_
   · have ac:(fun v g=>∃a b,v=.tuple #[.slice a e b,.int .i64 n]/\Made g w.heap.size 5 1 a e b (j.map bv)) (o (.tmp 42)) f:=d 8 42 kR rfl;obtain ⟨a,b,am,p⟩:=ac;go_simp;exact i _ _ vR ⟨a,b,rfl,p⟩
   refine sC (fun o f _ _ _ _ d _ _ _ i=>?_) ?_
   · have I:(fun v g=>∃a b,v=.tuple #[.slice a e b,.int .i64 n]/\Made g w.heap.size 5 1 a e b (j.map bv)) (o (.tmp 33)) f:=d 9 33 kR rfl;obtain ⟨a,b,a5,p⟩:=I;go_simp;exact i _ _ vR ⟨a,b,rfl,p⟩
   refine sC (fun o f _ _ _ _ d _ _ _ i=>?_) ?_
   · have I:(fun v g=>∃a b,v=.tuple #[.slice a e b,.int .i64 n]/\Made g w.heap.size 5 1 a e b (j.map bv)) (o (.tmp 33)) f:=d 9 33 kR rfl;obtain ⟨a,b,a5,p⟩:=I;go_simp;exact i _ _ vR rfl
   refine sC (fun o f _ _ _ _ d _ _ _ i=>?_) ?_
   · have ad:(fun v g=>∃a b,v=.slice a e b/\Made g w.heap.size 5 1 a e b (j.map bv)) (o (.tmp 43)) f:=d 10 43 kR rfl;obtain ⟨a,b,an,p⟩:=ad;go_simp;exact i _ _ vR ⟨a,b,rfl,p⟩
   refine pV 11 44 ?_;exact aD
 · intro o W c d;replace c:(VB B) l W:=bD c;have ae:(fun v g=>∃a b,v=.slice a e b/\Made g w.heap.size 5 1 a e b (j.map bv)) (o (.tmp 5)) W:=d 12 5 rfl;have O:o (.tmp 6)=.int .i64 n:=d 13 6 rfl;simp only [zqq];rw [O];clear d;obtain ⟨a,b,N,p⟩:=ae;rw [N];clear N O;have q:=c.1.bk m.out.res dC dC;have R:=(LFS.of_below B gs own m.out.low).trans (LFS.of_vb gs own c);have U:=m.out.st.vb c.1;have V:∀u,a=some u->own u.block=0:=fun u F=>by subst F;exact m.out.fr _ (p.own.lt (k:=u.block) rfl).1
   have aw:=q.cell 0;have ax:=q.cell 1;have ay:=q.cell 2;have az:=q.cell 3;have ao:=q.frozen 0;have aq:=q.frozen 1;have ar:=q.frozen 2;have au:=q.frozen 3;obtain ⟨a1,Z,X,a0,Y⟩:=hqq5 q U R V p;clear q U R c V p K;go_wp2_with fail;exact kZ (.inl rfl) rfl a1.out Z.out X.out m.out.bs oM m.out.ap a9 rfl Y.out (bB _ _ _) a0.out (fun u F=>by cases F)
theorem zQ (B:Nat) (own:Nat->Nat) (gs gl most rate:Nat) (p n:List UInt8) (u y:Int) (k:Option Addr) (g m:Nat) (w:World) (q:StAt w B own gs gl most rate p) (D:ArgZ w B own gs k g n) (aE:g<=1000000):
 Calls prog 22 #[gs,aZ 6 u y k g m] w (StDone w B own gs most rate p ⟨0,((fC p n).length:Int), [], []⟩):=by
 have s:=DoW.mk' 6 u y k g m q;have a8:n.length=g:=by simpa using D.1.1
 have K:=D.vis s.low;have aC:=q.blk.lt;have F:∀b e,VB B ((w.alloc (.cells #[.int .i64 6,.int .i64 u,.int .i64 y,.slice k g m] 46)).alloc (.cells #[.int .i64 0,.int .i64 0,.slice none 0 0,.slice none 0 0] 50)) b->Bk b e 26 #[.slice k g m]->Calls prog 76 #[gl,.slice (some ⟨e,0,none⟩) 1 1] b fun I w'=>I=.returned (.int .i64 ((fC p n).length:Int))/\VB B b w':=fun b e R a9=>by
  have ae:TxtAt b B gl p:=by obtain ⟨aj,gk,aB,aK,al,am,aN,aO,an⟩:=(s.st.vb R.1).tp;exact ⟨aj,al,am.lvw,an⟩
  have a7:=(K.step (LFS.of_vb gs own R)).1;have:=aBE B gl p (some ⟨e,0,none⟩) 1 1 b.heap.size [(⟨k,g,m,n⟩:Sl)] n (by simp [gG]) b ae (aHY a9 rfl) (fun aL N=>by simp at N;subst N;exact a7) nL oM oM;rw [<-aEq,rH] at this;exact this
 obtain ⟨A,S⟩:=eqx ((fC p n).length);rw [S] at F⊢;have a2:=s.box.cell 0;obtain ⟨o,X⟩:=hqq2 s F;clear s F q D K a8 S;unfold aZ;go_enter func22,ntmps22;go_wp2_with fail;generalize (w.alloc (.cells #[.int .i64 6,.int .i64 u,.int .i64 y,.slice k g m] 46)).alloc (.cells #[.int .i64 0,.int .i64 0,.slice none 0 0,.slice none 0 0] 50)=W at*
 clear a2;refine wp_region_any kR ?_;refine cA B 9 [50,51,52,53,54,55,56,57,58] (fun _=>False) 8 [] (fun _=>True) (fun v _=>v=.agg #[.int .i64 0,(A:Int),.slice none 0 0,.slice none 0 0]) [is gs,is gs,is gs,is gl,is (.pointer (some ⟨w.heap.size,3,none⟩)),is (.slice k g m),fun H G=>∃e,H=.slice (some ⟨e,0,none⟩) 1 1/\Bk G e 26 #[.slice k g m],is (A:Int),cX] _ _ rfl dC kR kR kR (trivial) (fun _ _ _ _ _=>trivial) (fun _ _ _ q _=>q) (by repeat' (first | exact iI _ _ | exact jS _ | exact fun _ _ _ ⟨e,a5,a6⟩ ag=>⟨e,a5,ag.1.bk a6 dC dC (fun c=>c)⟩|(refine zAe.2 ⟨?_,?_⟩)|(intro u ad;cases ad))) ?_ ?_
 · refine bJ ?_;refine pH3 0 (.pointer (some ⟨gs,0,none⟩)) ?_;refine pV3 0 50 ?_;refine pV3 1 51 ?_;refine sC3 (fun _ b a _ _ _ _ d _ _ _ j=>?_) ?_
   · replace a:VFB B (fun _=>False) W b:=fD a;have ao:_=_:=d 2 52 kR rfl;have t:=a.to_vb (fun _ _ c=>c);have ab:=t.1.bk o.out.st.blk dC dC;have a3:=ab.cell 0;go_simp;exact j _ _ (aH vR) rfl
   refine pH3 3 (.pointer (some ⟨w.heap.size,0,none⟩)) ?_;refine sC3 (fun _ b a _ _ _ _ d _ _ _ j=>?_) ?_
   · replace a:VFB B (fun _=>False) W b:=fD a;have ar:_=_:=d 4 54 kR rfl;have t:=a.to_vb (fun _ _ c=>c);have ac:=t.1.bk o.out.box dC dC;have a3:=ac.cell 3;go_simp;exact j _ _ (aH vR) rfl
   refine sC3 (fun _ _ _ _ _ _ _ d _ _ _ j=>?_) ?_
   · have au:_=_:=d 5 55 kR rfl;go_simp;exact j _ _ (aH (vR.alloc _)) ⟨_,rfl,Bk.new _ _ _⟩
   refine sC3 (fun C b a _ _ _ _ d _ _ _ j=>?_) ?_
   · replace a:VFB B (fun _=>False) W b:=fD a;have aq:_=_:=d 3 53 kR rfl;have ah:(fun H G=>∃e,H=.slice (some ⟨e,0,none⟩) 1 1/\Bk G e 26 #[.slice k g m]) (C (.tmp 56)) b:=d 6 56 kR rfl;have t:=a.to_vb (fun _ _ c=>c);obtain ⟨a4,av,aa⟩:=ah;go_simp;refine (X.out b a4 t aa).mono ?_;rintro I aM ⟨rfl,af⟩;exact j _ _ (aH af) rfl
   refine sC3 (fun _ _ _ _ _ _ _ d _ _ _ j=>?_) ?_
   · have aw:_=_:=d 7 57 kR rfl;go_simp;exact j _ _ (jQ (VFB.of_vb vR)) rfl
   exact aD
 · intro C z c a d L;replace a:VFB B (fun _=>False) W z:=fD a;have U:(fun v _=>v=.agg #[.int .i64 0,(A:Int),.slice none 0 0,.slice none 0 0]) (C (.tmp 58)) z:=d 8 58 dC rfl;obtain ⟨ak,V⟩:=L 8 dC;have ai:(fun v _=>v=.agg #[.int .i64 0,(A:Int),.slice none 0 0,.slice none 0 0]) ak z:=V;clear V L;simp only [zqq];clear d;have J:=U;rw [J];have x:=a.to_vb (fun _ _ c=>c);clear ai U J a;have l:=x.1.bk o.out.res dC dC;have O:=o.out.st.vb x.1;have M:=(LFS.of_below B gs own o.out.low).trans (LFS.of_vb gs own x);have aF:=l.cell 0;have aG:=l.cell 1;have aI:=l.cell 2;have aJ:=l.cell 3;have ax:=l.frozen 0;have ay:=l.frozen 1;have az:=l.frozen 2;have aA:=l.frozen 3;obtain ⟨a0,Z,Y⟩:=hqq3 l O M;clear l O M x;change wpAny prog Region.Mode.any _ _ (1+c) (bX 9 10) _ z;rw [zCs 1 c];refine bG (f:=c) (i:=9) kR ?_;refine bV rfl rfl ?_;generalize j:wpAny prog _ _ _ c _=K5;go_simp;subst j;refine bW kR ?_;go_wp2_with fail;exact kZ (.inl rfl) rfl a0.out Z.out Y.out o.out.bs oM o.out.ap rfl rfl (bB _ _ _) (bB _ _ _) (fun a1 E=>by cases E) (fun a1 E=>by cases E)
theorem yN (B:Nat) (own:Nat->Nat) (gs gl most rate:Nat) (q l:List UInt8) (C G:Int) (j:Option Addr) (g o:Nat) (w:World) (H:StAt w B own gs gl most rate q) (K:ArgZ w B own gs j g l) (aB:g<=1000000):
 Calls prog 22 #[gs,aZ 7 C G j g o] w (StDone w B own gs most rate q ⟨0,((fC q l).length:Int), [],fC q l⟩):=by
 have z:=DoW.mk' 7 C G j g o H;have ac:l.length=g:=by simpa using K.1.1
 have U:=K.vis z.low;have aA:=H.blk.lt;have D:∀d f,VB B ((w.alloc (.cells #[.int .i64 7,.int .i64 C,.int .i64 G,.slice j g o] 46)).alloc (.cells #[.int .i64 0,.int .i64 0,.slice none 0 0,.slice none 0 0] 50)) d->Bk d f 26 #[.slice j g o]->Calls prog 77 #[gl,.slice (some ⟨f,0,none⟩) 1 1] d fun R w'=>∃a b,R=.returned (.slice a (fC q l).length b)/\Made w' d.heap.size 3 1 a (fC q l).length b ((fC q l).map nv)/\VB B d w':=fun d f a0 ad=>by have ab:=(U.step (LFS.of_vb gs own a0)).1;have:=aJ9 B gl rate q (some ⟨f,0,none⟩) 1 1 d.heap.size [(⟨j,g,o,l⟩:Sl)] l (by simp [gG]) d (z.st.vb a0.1).tp (aHY ad rfl) (fun aH Y=>by simp at Y;subst Y;exact ab) nL oM oM;unfold aCb at this;rw [rH] at this;exact this
 obtain ⟨x,V⟩:=eqx (fC q l);rw [V] at D⊢;obtain ⟨s,u⟩:=eqx x.length;rw [u] at D⊢;have a8:=z.box.cell 0;obtain ⟨n,N,a5⟩:=hqq3 z D u;clear z D H K U ac V u;unfold aZ;go_enter func22,ntmps22;go_wp2_with fail;generalize (w.alloc (.cells #[.int .i64 7,.int .i64 C,.int .i64 G,.slice j g o] 46)).alloc (.cells #[.int .i64 0,.int .i64 0,.slice none 0 0,.slice none 0 0] 50)=W at*
 clear a8;refine wp_region_any kR ?_;refine aQ [61,62,63,64,65,66,67,68,7] (VB B) (Vs [is gs,is gs,is gs,is gl,is (.pointer (some ⟨w.heap.size,3,none⟩)),is (.slice j g o),fun M i=>∃f,M=.slice (some ⟨f,0,none⟩) 1 1/\Bk i f 26 #[.slice j g o],fun v i=>∃a b,v=.slice a s b/\Made i w.heap.size 3 1 a s b (x.map nv),fun v i=>∃a b,v=.slice a s b/\Made i w.heap.size 3 1 a s b (x.map nv)]) _ _ rfl kR vR (fun _ _=>VisK.trans) (cV (by repeat' (first | exact iI _ _ | exact jS _ | exact fun _ _ _ ⟨f,I,J⟩ F=>⟨f,I,F.1.bk J dC dC⟩| exact fun _ _ _ ⟨a,b,I,J⟩ F=>⟨a,b,I,F.1.made J dC dC⟩|(refine zAe.2 ⟨?_,?_⟩)|(intro C ah;cases ah)))) ?_ ?_
 · refine aO ?_;refine pH 0 (.pointer (some ⟨gs,0,none⟩)) ?_;refine pV 0 61 ?_;refine pV 1 62 ?_;refine sC (fun _ d c _ _ _ e _ _ _ p=>?_) ?_
   · have an:_=_:=e 2 63 kR rfl;replace c:(VB B) W d:=bD c;have af:=c.1.bk n.out.st.blk dC dC;have a9:=af.cell 0;go_simp;exact p _ _ vR rfl
   refine pH 3 (.pointer (some ⟨w.heap.size,0,none⟩)) ?_;refine sC (fun _ d c _ _ _ e _ _ _ p=>?_) ?_
   · have aq:_=_:=e 4 65 kR rfl;replace c:(VB B) W d:=bD c;have ag:=c.1.bk n.out.box dC dC;have a9:=ag.cell 3;go_simp;exact p _ _ vR rfl
   refine sC (fun _ _ _ _ _ _ e _ _ _ p=>?_) ?_
   · have ar:_=_:=e 5 66 kR rfl;go_simp;exact p _ _ (vR.alloc _) ⟨_,rfl,Bk.new _ _ _⟩
   refine sC (fun y d c _ _ _ e _ _ _ p=>?_) ?_
   · have ao:_=_:=e 3 64 kR rfl;have ak:(fun M i=>∃f,M=.slice (some ⟨f,0,none⟩) 1 1/\Bk i f 26 #[.slice j g o]) (y (.tmp 67)) d:=e 6 67 kR rfl;replace c:(VB B) W d:=bD c;obtain ⟨aa,au,ae⟩:=ak;have aj:=c.1.size;go_simp;refine (N.out d aa c ae).mono ?_;rintro R aI ⟨a,b,rfl,E,ai⟩;exact p _ _ ai ⟨a,b,rfl,⟨bZ E.own (zAk n.out.low.size aj),E.rd,E.cap,E.max⟩⟩
   refine sC (fun y d _ _ _ _ e _ _ _ p=>?_) ?_
   · have al:(fun v i=>∃a b,v=.slice a s b/\Made i w.heap.size 3 1 a s b (x.map nv)) (y (.tmp 68)) d:=e 7 68 kR rfl;obtain ⟨a,b,av,A⟩:=al;go_simp;exact p _ _ vR ⟨a,b,rfl,A⟩
   exact aD
 · intro y a1 c e;replace c:(VB B) W a1:=bD c;have am:(fun v i=>∃a b,v=.slice a s b/\Made i w.heap.size 3 1 a s b (x.map nv)) (y (.tmp 7)) a1:=e 8 7 rfl;simp only [zqq];clear e;obtain ⟨a,b,S,A⟩:=am;rw [S];clear S;have m:=c.1.bk n.out.res dC dC;have X:=(LFS.of_below B gs own n.out.low).trans (LFS.of_vb gs own c);have Z:=n.out.st.vb c.1;have u:∀t,a=some t->own t.block=0:=fun t L=>by subst L;have:=(A.own.lt (k:=t.block) rfl).1;by_cases O:own t.block=0;exact O;exact absurd (n.out.fr t.block this) O
   have aC:=m.cell 0;have aE:=m.cell 1;have aF:=m.cell 2;have aG:=m.cell 3;have aw:=m.frozen 0;have ax:=m.frozen 1;have ay:=m.frozen 2;have az:=m.frozen 3;obtain ⟨a7,a4,a2,a6,a3⟩:=hqq5 m Z X u A;clear m Z X c u A N;go_wp2_with fail;exact kZ (.inl rfl) rfl a7.out a4.out a2.out n.out.bs oM n.out.ap rfl a5.out (bB _ _ _) a3.out (fun t L=>by cases L) a6.out
theorem aAM (B:Nat) (own:Nat->Nat) (gs gl most rate:Nat) (a j T2:List UInt8) (r:Told) (m f:Int) (e:Option Addr) (b g:Nat) (w:World) (d:doM a (most:Int) 1 m f j=(T2,r)) (o:StAt w B own gs gl most rate a) (u:ArgZ w B own gs e b j) (H:b<=1000000) (C:TabW w) (z:1 < B) (t:T2.length<=127):
 Calls prog 22 #[gs,aZ 1 m f e b g] w (StDone w B own gs most rate T2 r):=by
 have A:j.length=b:=by simpa using u.1.1
 have I:∀c,LFS B gs w c own own->TabW c:=fun c l=>C.below (l.below o.size) z;unfold doM at d;rw [zBx rfl] at d;cases p:iE a.length m 0 with
 | false=>
   rw [zBx p] at d;cases d;exact gA B own gs gl most rate a a 1 m f e b g 2 w o (.inl rfl) fun c i l=>(mP B own gs gl most rate _ a 1 m f e b g c i rfl (by simpa [qY] using p)).mono fun y w' ⟨s,n⟩=>⟨s,own,i.vb (Vis.of_below n),LFS.of_below B gs own n⟩
 | true=>
   rw [zBw (by rw [p];decide)] at d;obtain ⟨q,E,rfl,G,F⟩:=iJ p;by_cases x:(most:Int) -(a.length:Int) < (j.length:Int);rw [zBx x] at d;cases d;exact gA B own gs gl most rate a a 1 _ f e b g 3 w o (.inl rfl) fun c i l=>(yL B own gs gl most rate _ a q f e b g c i rfl oM oM).mono fun y w' ⟨s,n⟩=>⟨s,own,i.vb n.1,LFS.of_vb gs own n⟩;rw [zBw x] at d;cases d;rw [zBr] at t⊢;have D:=wU a j (k:=q) oM;exact gA B own gs gl most rate a _ 1 _ f e b g 0 w o (.inl rfl) fun c i l=>zO B own gs gl most rate _ a j q f e b g c i rfl (u.step l) oM oM (by rw [<-A,<-D];exact t)
theorem aG2 (B:Nat) (own:Nat->Nat) (gs gl most rate:Nat) (c m T2:List UInt8) (r:Told) (i g:Int) (e:Option Addr) (b f:Nat) (w:World) (d:doM c (most:Int) 2 i g m=(T2,r)) (n:StAt w B own gs gl most rate c) (t:ArgZ w B own gs e b m) (E:b<=1000000) (u:TabW w) (o:1 < B) (C:T2.length<=127):
 Calls prog 22 #[gs,aZ 2 i g e b f] w (StDone w B own gs most rate T2 r):=by
 have D:m.length=b:=by simpa using t.1.1
 have y:∀a,LFS B gs w a own own->TabW a:=fun a l=>u.below (l.below n.size) o;unfold doM at d;rw [zBw dC] at d;rw [zBx rfl] at d;cases j:iE c.length i g with
 | false=>
   rw [zBx j] at d;cases d;exact gA B own gs gl most rate c c 2 i g e b f 2 w n (.inr (.inl rfl)) fun a k l=>(mP B own gs gl most rate _ c 2 i g e b f a k rfl (by simpa [qY] using j)).mono fun A w' ⟨z,p⟩=>⟨z,own,k.vb (Vis.of_below p),LFS.of_below B gs own p⟩
 | true=>
   rw [zBw (by rw [j];decide)] at d;cases d;obtain ⟨q,s,rfl,rfl,x⟩:=iJ j;rw [zBr,zBr];exact gA B own gs gl most rate c _ 2 _ _ e b f 0 w n (.inr (.inl rfl)) fun a k l=>zP B own gs gl most rate _ c q s e b f a k (y a l) o rfl x
theorem aG1 (B:Nat) (own:Nat->Nat) (gs gl most rate:Nat) (d g T2:List UInt8) (r:Told) (k f:Int) (e:Option Addr) (c i:Nat) (w:World) (a:doM d (most:Int) 3 k f g=(T2,r)) (n:StAt w B own gs gl most rate d) (p:ArgZ w B own gs e c g) (F:c<=1000000) (u:TabW w) (o:1 < B) (C:T2.length<=127):
 Calls prog 22 #[gs,aZ 3 k f e c i] w (StDone w B own gs most rate T2 r):=by
 have t:g.length=c:=by simpa using p.1.1
 have x:∀b,LFS B gs w b own own->TabW b:=fun b j=>u.below (j.below n.size) o;unfold doM at a;rw [zBw dC] at a;rw [zBw dC] at a;rw [zBw dC] at a;rw [zBx rfl] at a;cases l:iE d.length k (g.length:Int) with
 | false=>
   rw [zBx l] at a;cases a;exact gA B own gs gl most rate d d 3 k f e c i 2 w n (.inr (.inr rfl)) fun b m j=>(mP B own gs gl most rate _ d 3 k f e c i b m rfl (by simpa [qY,t] using l)).mono fun A w' ⟨y,q⟩=>⟨y,own,m.vb (Vis.of_below q),LFS.of_below B gs own q⟩
 | true=>
   rw [zBw (by rw [l];decide)] at a;cases a;obtain ⟨s,z,rfl,E,D⟩:=iJ l;rw [zBr];exact gA B own gs gl most rate d _ 3 _ f e c i 0 w n (.inr (.inr rfl)) fun b m j=>zN B own gs gl most rate _ d g s f e c i b m (x b j) o rfl (p.step j) oM
theorem aG0 (B:Nat) (own:Nat->Nat) (gs gl most rate:Nat) (c k T2:List UInt8) (r:Told) (f e:Int) (g:Option Addr) (d m:Nat) (w:World) (b:doM c (most:Int) 5 f e k=(T2,r)) (n:StAt w B own gs gl most rate c) (s:ArgZ w B own gs g d k) (E:d<=1000000) (t:TabW w) (q:1 < B) (C:T2.length<=127):
 Calls prog 22 #[gs,aZ 5 f e g d m] w (StDone w B own gs most rate T2 r):=by
 have D:k.length=d:=by simpa using s.1.1
 have x:∀a,LFS B gs w a own own->TabW a:=fun a j=>t.below (j.below n.size) q;unfold doM at b;rw [zBw dC] at b;rw [zBw dC] at b;rw [zBx rfl] at b;cases i:iE c.length f e with
 | false=>
   rw [zBx i] at b;cases b;exact sI B own gs gl most rate c f e g d m w n [] 2 0 rfl fun a o j=>(aBU B gl rate _ c f e a o.tp rfl i).mono fun A w' ⟨y,z⟩=>by subst z;exact ⟨none,0,y,bB _ _ _,VisK.refl _ _⟩
 | true=>
   rw [zBw (by rw [i];decide)] at b;cases b;obtain ⟨p,l,rfl,rfl,u⟩:=iJ i;rw [zBr,zBr];exact sI B own gs gl most rate c _ _ g d m w n ((c.drop p).take l) 0 l (by rw [zAj,zAw];omega) fun a o j=>aAP B gl rate c p l a o.tp (x a j) q u
theorem aAL (B:Nat) (own:Nat->Nat) (gs gl most rate:Nat) (i c T2:List UInt8) (r:Told) (g f:Int) (d:Option Addr) (b j:Nat) (w:World) (a:doM i (most:Int) 7 g f c=(T2,r)) (k:StAt w B own gs gl most rate i) (l:ArgZ w B own gs d b c) (o:b<=1000000) (n:TabW w) (m:1 < B) (q:T2.length<=127):
 Calls prog 22 #[gs,aZ 7 g f d b j] w (StDone w B own gs most rate T2 r):=by
 have s:c.length=b:=by simpa using l.1.1
 have t:∀e,LFS B gs w e own own->TabW e:=fun e p=>n.below (p.below k.size) m;unfold doM at a;rw [zBw dC] at a;rw [zBw dC] at a;rw [zBw dC] at a;rw [zBw dC] at a;rw [zBw dC] at a;rw [zBw dC] at a;rw [zBx rfl] at a;cases a;exact yN B own gs gl most rate i c g f d b j w k l o
theorem aAK (B:Nat) (own:Nat->Nat) (gs gl most rate:Nat) (i d T2:List UInt8) (r:Told) (g f:Int) (c:Option Addr) (b j:Nat) (w:World) (a:doM i (most:Int) 8 g f d=(T2,r)) (k:StAt w B own gs gl most rate i) (m:ArgZ w B own gs c b d) (s:b<=1000000) (n:TabW w) (l:1 < B) (p:T2.length<=127):
 Calls prog 22 #[gs,aZ 8 g f c b j] w (StDone w B own gs most rate T2 r):=by
 have q:d.length=b:=by simpa using m.1.1
 have t:∀e,LFS B gs w e own own->TabW e:=fun e o=>n.below (o.below k.size) l;unfold doM at a;rw [zBw dC] at a;rw [zBw dC] at a;rw [zBw dC] at a;rw [zBw dC] at a;rw [zBw dC] at a;rw [zBw dC] at a;rw [zBw dC] at a;rw [zBx rfl] at a;cases a;exact aE5 B own gs gl most rate i g f c b j w k
theorem aI4 (B:Nat) (own:Nat->Nat) (gs gl most rate:Nat) (g j T2:List UInt8) (r:Told) (d f e:Int) (c:Option Addr) (b i:Nat) (w:World) (l:doM g (most:Int) d f e j=(T2,r)) (k:StAt w B own gs gl most rate g) (m:ArgZ w B own gs c b j) (n:b<=1000000) (q:TabW w) (p:1 < B) (o:T2.length<=127):
 Calls prog 22 #[gs,aZ d f e c b i] w (StDone w B own gs most rate T2 r):=by
 have a:=l;unfold doM at a;by_cases s:d=1;subst s;exact aAM B own gs gl most rate g j T2 r f e c b i w l k m n q p o;rw [zBw s] at a;by_cases t:d=2;subst t;exact aG2 B own gs gl most rate g j T2 r f e c b i w l k m n q p o;rw [zBw t] at a;by_cases y:d=5;subst y;exact aG0 B own gs gl most rate g j T2 r f e c b i w l k m n q p o;rw [zBw y] at a;by_cases u:d=3;subst u;exact aG1 B own gs gl most rate g j T2 r f e c b i w l k m n q p o;rw [zBw u] at a;by_cases x:d=4;subst x;rw [zBx rfl] at a;cases a;exact aDl B own gs gl most rate _ g f e c b i w k rfl;rw [zBw x] at a;by_cases z:d=6;subst z;rw [zBx rfl] at a;cases a;exact zQ B own gs gl most rate g j f e c b i w k m n;rw [zBw z] at a;by_cases A:d=7;subst A;exact aAL B own gs gl most rate g j T2 r f e c b i w l k m n q p o;rw [zBw A] at a;by_cases C:d=8;subst C;exact aAK B own gs gl most rate g j T2 r f e c b i w l k m n q p o;rw [zBw C] at a;cases a;exact aDm B own gs gl most rate g d f e c b i w k fun F D E=>by omega
theorem aDk (d a f:Int) (b:Option Addr) (e c:Nat) (w:World):
 Calls prog 22 #[.pointer none,aZ d a f b e c] w fun g w'=>g=.returned (.agg #[.int .i64 6,.int .i64 0,.slice none 0 0,.slice none 0 0])/\Below w.heap.size w w':=by
 unfold aZ;go_enter func22,ntmps22;go_wp2;have i:=((Below.refl w.heap.size w).alloc nL (.cells #[.int .i64 d,.int .i64 a,.int .i64 f,.slice b e c] 46)).alloc (by simp) (.cells #[.int .i64 6,.int .i64 0,.slice none 0 0,.slice none 0 0] 50);have j:Bk ((w.alloc (.cells #[.int .i64 d,.int .i64 a,.int .i64 f,.slice b e c] 46)).alloc (.cells #[.int .i64 6,.int .i64 0,.slice none 0 0,.slice none 0 0] 50)) (w.heap.size+1) 50 #[.int .i64 6,.int .i64 0,.slice none 0 0,.slice none 0 0]:=by simpa using Bk.new (w.alloc (.cells #[.int .i64 d,.int .i64 a,.int .i64 f,.slice b e c] 46)) 50 #[.int .i64 6,.int .i64 0,.slice none 0 0,.slice none 0 0]
 exact bodyPost_ret (results_cell_row (p:=4) (ty:=50) rfl _ _ (w.heap.size+1) 50 #[.int .i64 6,.int .i64 0,.slice none 0 0,.slice none 0 0] (0,0) _ rfl j underlying50 rfl kR) rfl ⟨rfl,i⟩
theorem yM (B:Nat) (own:Nat->Nat) (gs gl most rate:Nat) (i c T2:List UInt8) (f e:Int) (b:Option Addr) (a j:Nat) (k o:Int) (d:List UInt8) (g:List Nat) (m n:Nat) (w:World) (t:doM i (most:Int) 1 f e c=(T2,⟨k,o,d,g⟩)) (p:d.length=m) (q:g.length=n)
 (l:StAt w B own gs gl most rate i) (x:ArgZ w B own gs b a c) (z:a<=1000000) (y:TabW w) (u:1 < B) (s:T2.length<=127):
 Calls prog 22 #[gs,.agg #[.int .i64 1,.int .i64 f,.int .i64 e,.slice b a j]] w (vM w B own gs most rate T2 k o d g m n):=
 (aAM B own gs gl most rate i c T2 _ f e b a j w t l x z y u s).mono fun A w'=>StDone.v l.blk.lt p q
theorem aE4 (B:Nat) (own:Nat->Nat) (gs gl most rate:Nat) (i c T2:List UInt8) (f e:Int) (b:Option Addr) (a j:Nat) (k o:Int) (d:List UInt8) (g:List Nat) (m n:Nat) (w:World) (t:doM i (most:Int) 7 f e c=(T2,⟨k,o,d,g⟩)) (p:d.length=m) (q:g.length=n)
 (l:StAt w B own gs gl most rate i) (x:ArgZ w B own gs b a c) (z:a<=1000000) (y:TabW w) (u:1 < B) (s:T2.length<=127):
 Calls prog 22 #[gs,.agg #[.int .i64 7,.int .i64 f,.int .i64 e,.slice b a j]] w (vM w B own gs most rate T2 k o d g m n):=
 (aAL B own gs gl most rate i c T2 _ f e b a j w t l x z y u s).mono fun A w'=>StDone.v l.blk.lt p q
theorem aE3 (B:Nat) (own:Nat->Nat) (gs gl most rate:Nat) (i c T2:List UInt8) (f e:Int) (b:Option Addr) (a j:Nat) (k o:Int) (d:List UInt8) (g:List Nat) (m n:Nat) (w:World) (t:doM i (most:Int) 8 f e c=(T2,⟨k,o,d,g⟩)) (p:d.length=m) (q:g.length=n)
 (l:StAt w B own gs gl most rate i) (x:ArgZ w B own gs b a c) (z:a<=1000000) (y:TabW w) (u:1 < B) (s:T2.length<=127):
 Calls prog 22 #[gs,.agg #[.int .i64 8,.int .i64 f,.int .i64 e,.slice b a j]] w (vM w B own gs most rate T2 k o d g m n):=
 (aAK B own gs gl most rate i c T2 _ f e b a j w t l x z y u s).mono fun A w'=>StDone.v l.blk.lt p q
theorem xQ {a:World} {B gs gl most rate:Nat} {own:Nat->Nat} {m:List UInt8} (g:StAt a B own gs gl most rate m) (b:Array Value) (e:Nat×Nat) (d:List UInt8) (c:Nat) (j:b.toList=d.map bv) (k:d.length=c):ArgZ (a.alloc (.cells b 5 e)) B own gs (some ⟨a.heap.size,0,none⟩) c d:=by
 have l:b.size=c:=by rw [<-Array.length_toList,j];simpa using k
 have i:=aA8 a 5 b e c l;rw [j] at i;refine ⟨i.mono (by simp),fun _ n f=>?_⟩;injection f with f;subst f;refine .inr ⟨⟨g.fresh nL,by have:=g.blk.lt;show a.heap.size≠gs;omega⟩,b,e,?_⟩;exact heap_alloc_new a _
theorem aIY {w:World} {B gs:Nat} {own:Nat->Nat}:ArgZ w B own gs none 0 []:=⟨Rd.nil _ _ _ _,fun a=>absurd a oM⟩
theorem yI (B:Nat) (own:Nat->Nat) (gs gl most rate:Nat) (c:List UInt8) (w:World) (a:StAt w B own gs gl most rate c):
 Calls prog 27 #[gs] w fun b w'=>b=.returned (.int .i64 (most:Int))/\w=w':=by
 have d:=a.blk.cell 1;clear a;go_enter func27,ntmps27;go_wp2_with fail;go_ret;exact ⟨rfl,rfl⟩
theorem zM (w:World):Calls prog 27 #[.pointer none] w fun a w'=>a=.returned (.int .i64 0)/\w=w':=by
 go_enter func27,ntmps27;go_wp2_with fail;go_ret;exact ⟨rfl,rfl⟩
theorem qL (B:Nat) (own:Nat->Nat) (gs gl most rate:Nat) (g:List UInt8) (w:World) (b:StAt w B own gs gl most rate g):
 Calls prog 28 #[gs] w fun a w'=>a=.returned (.int .i64 (rate:Int))/\w=w':=by
 have i:=b.blk.cell 0;have c:Calls prog 12 #[gl] w fun a w'=>a=.returned (.int .i64 (rate:Int))/\w=w':=by obtain ⟨n,gk,d,f,l,e,k,m,j⟩:=b.tp;exact jH B gl gk d _ rate _ f w e
 clear b;go_enter func28,ntmps28;go_wp2_with fail;refine c.mono ?_;rintro a w1 ⟨rfl,rfl⟩;clear c;go_wp2_with fail;go_ret;exact ⟨rfl,rfl⟩
theorem yK (B:Nat) (own:Nat->Nat) (gs gl most rate b:Nat) (a:List UInt8) (f:List Nat) (w:World) (c:StAt w B own gs gl most rate a) (e:IsSuf (aF a) f) (j:a.length+1=b):
 Calls prog 73 #[gs] w (fZ w B (aE (aF a) f) b):=by
 have x:=c.blk.cell 0;have d:Calls prog 16 #[gl] w (fZ w B (aE (aF a) f) b):=by
  obtain ⟨u,gk,p,t,s,q,A,C,z⟩:=c.tp;obtain rfl:=s.unique e;have g:(aE (aF a) u).length=b:=by rw [bP,e.len,aL,j]
  have:=mS B gl gk p _ rate _ t w q (dG (eC a)) (by rw [g];omega);unfold gU at this;rw [g] at this;exact this
 unfold fZ at d⊢;clear c e j;go_enter func73,ntmps73;go_wp2_with fail;refine d.mono ?_;rintro y w1 ⟨l,o,rfl,i,k⟩;obtain ⟨m,n⟩:=hqq2 i k;clear d i k;go_wp2_with fail;go_ret;exact ⟨l,o,rfl,m.out,n.out⟩
section
variable {P : Program} {ops : Array Oper} {Q : Exit -> Act -> World -> Prop} {md : Region.Mode}
end
section
variable {w w' : World} {B gs gs1 gs2 gl1 gl2 most rate : Nat} {own own' own1 own2 own2' : Nat -> Nat} {T T2 : List UInt8} {r : Told} {v : Value}
def DoS (B gs:Nat) (own:Nat->Nat) (most rate:Nat) (T2:List UInt8) (w w':World):Prop:=∃own' a,StAt w' B own' gs a most rate T2/\LFS B gs w w' own own'
def ResD (w:World) (own:Nat->Nat) (gs:Nat) (r:Told) (v:Value):Prop:=∃a c b d,v=.agg (lX r a c b d)/\MadeZ w own gs 5 a r.data.length c (r.data.map bv)/\MadeZ w own gs 3 b r.places.length d (r.places.map nv)
theorem MadeZ.stepC {a:TypeId} {c:Option Addr} {i e:Nat} {j:List Value} (b:MadeZ w own gs a c i e j) (g:LFS B gs w w' own own') (k:a≠202) (l:a≠154):MadeZ w' own gs a c i e j:=⟨(b.step g k l).1,fun d f=>⟨zAl (b.2 d f).1 g.size,(b.2 d f).2⟩⟩
theorem ResD.step (f:ResD w own gs r v) (a:LFS B gs w w' own own'):ResD w' own gs r v:=by
 obtain ⟨b,d,c,e,rfl,g,i⟩:=f;exact ⟨b,d,c,e,rfl,g.stepC a dC dC,i.stepC a dC dC⟩
theorem ResD.below (a:ResD w own gs r v) (b:Below w.heap.size w w'):ResD w' own gs r v:=a.step (LFS.of_below 0 gs own b)
def OneDone (w:World) (B gs1 gs2:Nat) (own2:Nat->Nat) (most rate:Nat) (T2:List UInt8) (r:Told) (v:Value):Prop:=∃a b,StAt w B a gs1 b most rate T2/\Two a gs1 own2 gs2/\ResD w own2 gs2 r v
def BothDone (w:World) (B gs1 gs2 most rate:Nat) (T2:List UInt8) (r:Told) (v:Value):Prop:=∃e f own2' g,StAt w B e gs1 f most rate T2/\StAt w B own2' gs2 g most rate T2/\Two e gs1 own2' gs2/\∃a c b d,v=.agg (lX r a c b d)/\Made w 0 5 1 a r.data.length c (r.data.map bv)/\Made w 0 3 1 b r.places.length d (r.places.map nv)
theorem OneDone.below (c:OneDone w B gs1 gs2 own2 most rate T2 r v) (a:Below w.heap.size w w'):OneDone w' B gs1 gs2 own2 most rate T2 r v:=by
 obtain ⟨g,b,d,e,f⟩:=c;exact ⟨g,b,d.vb (Vis.of_below a),e,f.below a⟩
theorem BothDone.below (i:BothDone w B gs1 gs2 most rate T2 r v) (a:Below w.heap.size w w'):BothDone w' B gs1 gs2 most rate T2 r v:=by
 obtain ⟨o,f,own2',g,j,k,l,b,d,c,e,rfl,m,n⟩:=i;exact ⟨o,f,own2',g,j.vb (Vis.of_below a),k.vb (Vis.of_below a),l,b,d,c,e,rfl,m.below a,n.below a⟩
def aK9 (b c B gs1 gs2:Nat) (own1 own2:Nat->Nat) (most rate:Nat) (T2:List UInt8) (a:Nat) (w w':World):Prop:=(a=b->DoS B gs1 own1 most rate T2 w w')/\(a=c->DoS B gs2 own2 most rate T2 w w')/\(a≠b->a≠c->Below w.heap.size w w')
def DuoC (a:World) (B c:Nat) (b:Array Value) (w:World):Prop:=Bk w c 46 b/\Below B a w/\B<=w.heap.size
def DuoU (b c B gs1 gl1 gs2 gl2:Nat) (own1 own2:Nat->Nat) (most rate:Nat) (T:List UInt8) (a:Nat) (w:World):Prop:=(a=b->StAt w B own1 gs1 gl1 most rate T/\StAt w B own2 gs2 gl2 most rate T)/\(a=c->StAt w B own2 gs2 gl2 most rate T)
theorem DuoC.step {j:World} {c g p q:Nat} {o:Array Value} (t:DuoC j B c o w) (i:aK9 p q B gs1 gs2 own1 own2 most rate T2 g w w') (k:Ap own1 gs1 c) (l:Ap own2 gs2 c):DuoC j B c o w':=by
 obtain ⟨d,e,b⟩:=t;by_cases m:g=p;obtain ⟨own',s,_,a⟩:=i.1 m;exact ⟨a.bk d k.col k.ne dC dC,e.trans (a.below b),zAk b a.size⟩;by_cases n:g=q;obtain ⟨own',s,_,a⟩:=i.2.1 n;exact ⟨a.bk d l.col l.ne dC dC,e.trans (a.below b),zAk b a.size⟩;have f:=i.2.2 m n;exact ⟨d.below f d.lt,e.trans (f.mono b),zAk b f.size⟩
theorem iF (w:World) (B:Nat):Below B w w.drew:=⟨rfl,rfl,rfl,zAs _,fun _ _=>rfl⟩
theorem DuoC.drew {b:World} {d:Nat} {c:Array Value} (a:DuoC b B d c w):DuoC b B d c w.drew:=⟨a.1,a.2.1.trans (iF w B),a.2.2⟩
theorem DuoU.drew {c d e:Nat} (b:DuoU d e B gs1 gl1 gs2 gl2 own1 own2 most rate T c w):DuoU d e B gs1 gl1 gs2 gl2 own1 own2 most rate T c w.drew:=⟨fun a=>⟨(b.1 a).1.vb (Vis.of_below (iF _ _)),(b.1 a).2.vb (Vis.of_below (iF _ _))⟩,fun a=>(b.2 a).vb (Vis.of_below (iF _ _))⟩
theorem DuoU.step {f c d e:Nat} (j:DuoU d e B gs1 gl1 gs2 gl2 own1 own2 most rate T f w) (g:aK9 d e B gs1 gs2 own1 own2 most rate T2 c w w') (q:Two own1 gs1 own2 gs2) (o:f≠c) (l:c≠e):DuoU d e B gs1 gl1 gs2 gl2 own1 own2 most rate T f w':=by
 refine ⟨fun a=>?_,fun a=>?_⟩;have k:=g.2.2 (fun m=>o (a.trans m.symm)) l;obtain ⟨n,b⟩:=j.1 a;exact ⟨n.vb (Vis.of_below k),b.vb (Vis.of_below k)⟩;have b:=j.2 a;by_cases i:c=d;obtain ⟨own',s,_,p⟩:=g.1 i;exact (b.other p q).1;exact b.vb (Vis.of_below (g.2.2 i l))
end
end Go.Proofs.YthldmddkfbijhaaGreatDoor
