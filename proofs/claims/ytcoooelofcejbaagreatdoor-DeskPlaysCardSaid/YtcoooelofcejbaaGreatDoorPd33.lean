/- Lemmas of the walk. Conditions: each its own. -/
import Derived.Test.YtcoooelofcejbaaGreatDoorPd31
import Derived.Test.YtcoooelofcejbaaGreatDoorPd32
import Derived.Test.YtcoooelofcejbaaGreatDoorProg
import Derived.Test.YtcoooelofcejbaaGreatDoorShl
import Derived.Test.YtcoooelofcejbaaGreatDoorSht
import Derived.Test.YtcoooelofcejbaaGreatDoorShi
import Derived.Test.YtcoooelofcejbaaGreatDoorShs
set_option linter.all false
set_option maxRecDepth 100000
set_option maxHeartbeats 2000000
open Go.Proofs.Tryz
namespace Go.Proofs.YtcoooelofcejbaaGreatDoor
open Go.RowKit
def eX (w:World) (B:Nat) (own:Nat->Nat) (gs most rate:Nat) (T:List UInt8) (g:Nat->Prop) (b:Told) (i:Ending) (w':World):Prop:=
 ∃c e d f own' j,i=.returned (.agg (kH b c e d f))/\StAt w' B own' gs j most rate T g/\LFS B gs w w' own own'/\Made w' w.heap.size 5 1 c b.data.length e (b.data.map bv)/\Made w' w.heap.size 3 1 d b.places.length f (b.places.map nv)/\(∀a,c=some a->own' a.block=0)/\(∀a,d=some a->own' a.block=0)
section
variable {w w1 w' : World} {B gs gl most rate : Nat} {own own' : Nat -> Nat} {T : List UInt8}
def LFS.put (a:LFS B gs w w1 own own') {p:Addr} (c:w.heap.size<=p.block) (d:B<=p.block) (b:Value):LFS B gs w (w1.setCell p b) own own':=
 ⟨a.old,VisF.put a.vis (.inr c) b,a.keep.setCell (.inr c) b⟩
def StAt.put {b:Nat->Prop} (f:StAt w B own gs gl most rate T b) {p:Addr} (g:Ap own gs p.block) (c:Value):StAt (w.setCell p c) B own gs gl most rate T b:=
 f.far (Keep.setCell (F:=fun a=>a=p.block) (Keep.refl _ _) (.inl rfl) c) fun a d=>by have e:a=p.block:=d;rw [e];exact g
def iC {b i:Nat} {j a:TypeId} {m l:_} {d g e:Nat} {c:Option Addr} (n:Made w d a 1 c g e l) (o:Bk w b j m) (q:a≠j) (k:Value):Made (w.setCell ⟨b,i,none⟩ k) d a 1 c g e l:=
 oD n fun r s f=>f.far (p:=⟨b,i,none⟩) (Bk.ne f o q) k
def kP {y:Nat->Prop} {x:Array Value} {a:Nat} {H I J K:Value} {b c:Option Addr} {u d v e:Nat} {k l:Int} {g:List UInt8} {j:List Nat} {s:Exit} (O:s=.ret∨s=.normal) (U:x.getD 4 undef=.pointer (some a)) (t:Bk w1 a 54 #[H,I,J,K])
 (W:StAt w1 B own' gs gl most rate T y) (Q:LFS B gs w w1 own own') (X:B<=w.heap.size) (q:w.heap.size<=a) (o:Ap own' gs a) (N:g.length=u) (V:j.length=v) (R:Made w1 w.heap.size 5 1 b u d (g.map bv)) (S:Made w1 w.heap.size 3 1 c v e (j.map nv)) (F:∀m,b=some m->own' m.block=0) (G:∀m,c=some m->own' m.block=0):
 bodyPost prog f22 (eX w B own gs most rate T y ⟨k,l,g,j⟩) s ⟨x, []⟩ ((((w1.setCell a (.int .i64 k)).setCell ⟨a,1,none⟩ (.int .i64 l)).setCell ⟨a,2,none⟩ (.slice b u d)).setCell ⟨a,3,none⟩ (.slice c v e)):=by
 subst N V;have b1:=t.set 0 (.int .i64 k);have b2:=b1.set 1 (.int .i64 l);have r:=b2.set 2 (.slice b g.length d);have L:=r.set 3 (.slice c j.length e);have n:B<=a:=oM;have C:=(((W.put (p:=a) o (.int .i64 k)).put (p:=⟨a,1,none⟩) o (.int .i64 l)).put (p:=⟨a,2,none⟩) o (.slice b g.length d)).put (p:=⟨a,3,none⟩) o (.slice c j.length e);have z:=(((Q.put (p:=a) q n (.int .i64 k)).put (p:=⟨a,1,none⟩) q n (.int .i64 l)).put (p:=⟨a,2,none⟩) q n (.slice b g.length d)).put (p:=⟨a,3,none⟩) q n (.slice c j.length e);have D:=iC (i:=3) (iC (i:=2) (iC (i:=1) (iC (i:=0) R t dC (.int .i64 k)) b1 dC (.int .i64 l)) b2 dC (.slice b g.length d)) r dC (.slice c j.length e);have E:=iC (i:=3) (iC (i:=2) (iC (i:=1) (iC (i:=0) S t dC (.int .i64 k)) b1 dC (.int .i64 l)) b2 dC (.slice b g.length d)) r dC (.slice c j.length e);have M:Bk ((((w1.setCell a (.int .i64 k)).setCell ⟨a,1,none⟩ (.int .i64 l)).setCell ⟨a,2,none⟩ (.slice b g.length d)).setCell ⟨a,3,none⟩ (.slice c j.length e)) a 54 (kH ⟨k,l,g,j⟩ b d c e):=by simpa [kH] using L
 have A:=results_cell_row (P:=prog) (fn:=f22) (p:=4) (ty:=54) rfl x _ a 54 (kH ⟨k,l,g,j⟩ b d c e) (0,0) _ U M underlying54 rfl kR;rcases O with rfl | rfl;exact bodyPost_ret A rfl ⟨b,d,c,e,own',gl,rfl,C,z,D,E,F,G⟩;exact bodyPost_end A rfl ⟨b,d,c,e,own',gl,rfl,C,z,D,E,F,G⟩
end
structure DoW (w W:World) (B:Nat) (own:Nat->Nat) (gs gl most rate:Nat) (t:List UInt8) (Q:Nat->Prop) (kind p n:Int) (A:Option Addr) (m c:Nat):Prop where
 low:Below w.heap.size w W
 box:Bk W w.heap.size 57 #[.int .i64 kind,.int .i64 p,.int .i64 n,.slice A m c]
 res:Bk W (w.heap.size+1) 54 #[.int .i64 0,.int .i64 0,.slice none 0 0,.slice none 0 0]
 st:StAt W B own gs gl most rate t Q
 ap:Ap own gs (w.heap.size+1)
 sz:W.heap.size=w.heap.size+2
 fr:∀b,w.heap.size<=b->own b=0
 bs:B<=w.heap.size
def DoW.mk' {j:Nat->Prop} {w:World} {B:Nat} {own:Nat->Nat} {gs gl most rate:Nat} {l:List UInt8} (e i g:Int) (b:Option Addr) (f c:Nat) (a:StAt w B own gs gl most rate l j):
 DoW w ((w.alloc (.cells #[.int .i64 e,.int .i64 i,.int .i64 g,.slice b f c] 57)).alloc (.cells #[.int .i64 0,.int .i64 0,.slice none 0 0,.slice none 0 0] 54)) B own gs gl most rate l j e i g b f c:=by
 have d:Below w.heap.size w ((w.alloc (.cells #[.int .i64 e,.int .i64 i,.int .i64 g,.slice b f c] 57)).alloc (.cells #[.int .i64 0,.int .i64 0,.slice none 0 0,.slice none 0 0] 54)):=(bR.alloc nL _).alloc (by simp) _;have k:=Bk.new (w.alloc (.cells #[.int .i64 e,.int .i64 i,.int .i64 g,.slice b f c] 57)) 54 #[.int .i64 0,.int .i64 0,.slice none 0 0,.slice none 0 0];rw [World.size_alloc] at k;exact ⟨d,(Bk.new w _ _).alloc _,k,a.vb (Vis.of_below d),⟨a.fresh oM,by have:=a.blk.lt;omega⟩,by rw [World.size_alloc,World.size_alloc],fun m d=>a.fresh d,a.size⟩
def zO {d:Nat->Prop} {w:World} {B:Nat} {own:Nat->Nat} {gs gl most rate:Nat} {i:List UInt8} {j:Array Value} (c:Array Value) (a b:Int) {e:Exit} (q:StAt w B own gs gl most rate i d) (r:e=.ret∨e=.normal) (s:j.getD 4 undef=.pointer (some ⟨w.heap.size+1,0,none⟩)):
 bodyPost prog f22 (eX w B own gs most rate i d ⟨a,b, [], []⟩) e ⟨j, []⟩ ((w.alloc (.cells c 57)).alloc (.cells #[.int .i64 a,.int .i64 b,.slice none 0 0,.slice none 0 0] 54)):=by
 have k:Below w.heap.size w ((w.alloc (.cells c 57)).alloc (.cells #[.int .i64 a,.int .i64 b,.slice none 0 0,.slice none 0 0] 54)):=(bR.alloc nL _).alloc (by simp) _;have l:=Bk.new (w.alloc (.cells c 57)) 54 #[.int .i64 a,.int .i64 b,.slice none 0 0,.slice none 0 0];rw [World.size_alloc] at l;have m:=results_cell_row (P:=prog) (fn:=f22) (p:=4) (ty:=54) rfl j _ (w.heap.size+1) 54 (kH ⟨a,b, [], []⟩ none 0 none 0) (0,0) _ s l underlying54 rfl kR;have n:eX w B own gs most rate i d ⟨a,b, [], []⟩ (.returned (.agg (kH ⟨a,b, [], []⟩ none 0 none 0))) ((w.alloc (.cells c 57)).alloc (.cells #[.int .i64 a,.int .i64 b,.slice none 0 0,.slice none 0 0] 54)):=
  ⟨none,0,none,0,own,gl,rfl,q.vb (Vis.of_below k),LFS.of_below B gs own k,eV _ _ _,eV _ _ _,(fun o g=>by cases g),(fun o g=>by cases g)⟩
 rcases r with rfl | rfl;exact bodyPost_ret m rfl n;exact bodyPost_end m rfl n
def fS {o p:Nat->Prop} {B:Nat} {own:Nat->Nat} {gs gl most rate:Nat} {A:List UInt8} (q:List UInt8) {d:Int} (m l:Int) (g:Option Addr) (k i:Nat) (r:Int) {w:World} (t:StAt w B own gs gl most rate A o) (I:d=1∨d=2∨d=3) (x:∀e,StAt e B own gs gl most rate A o->LFS B gs w e own own->Calls prog 49 #[gs,.agg #[.int .i64 d,.int .i64 m,.int .i64 l,.slice g k i]] e fun s w'=>s=.returned (.int .i64 r)/\∃own',StAt w' B own' gs gl most rate q p/\LFS B gs e w' own own'):
 Calls prog 22 #[gs,fH d m l g k i] w (eX w B own gs most rate q p ⟨r,0, [], []⟩):=by
 have c:=DoW.mk' d m l g k i t;have v:=x _ c.st (LFS.of_below B gs own c.low);have J:=c.box.cell 0;have K:=c.box.cell 1;have L:=c.box.cell 2;have M:=c.box.cell 3;obtain ⟨b,n⟩:=hqq2 c v;clear c v x t;unfold fH;rcases I with rfl | rfl | rfl
 all_goals
  go_enter func22,ntmps22;go_wp2_with fail;refine n.out.mono ?_;rintro s w1 ⟨rfl,own',z,f⟩;have a:=f.bk b.out.res b.out.ap.col b.out.ap.ne dC dC;have u:=b.out.ap.step f b.out.res.lt;have y:=(LFS.of_below B gs own b.out.low).trans f;have D:=lhd b.out.bs;have R:=a.cell 0;have S:=a.cell 1;have U:=a.cell 2;have V:=a.cell 3;have N:=a.frozen 0;have O:=a.frozen 1;have P:=a.frozen 2;have Q:=a.frozen 3;obtain ⟨G,F,E,C⟩:=hqq4 a z y u;clear a z y f u n b;go_wp2_with fail;exact kP (.inl rfl) rfl G.out F.out E.out D.out oM C.out rfl rfl (eV _ _ _) (eV _ _ _) (fun H j=>by cases j) (fun H j=>by cases j)
def aCU {f:Nat->Prop} {B:Nat} {own:Nat->Nat} {gs gl most rate e:Nat} {c:List UInt8} (l k:Int) (d:Option Addr) (j g:Nat) {w:World} (b:StAt w B own gs gl most rate c f) (o:c.length=e):
 Calls prog 22 #[gs,fH 4 l k d j g] w (eX w B own gs most rate c f ⟨0,(e:Int), [], []⟩):=by
 have a:=DoW.mk' 4 l k d j g b;have i:=a.st.llen o;have p:=a.box.cell 0;have A:=a.st.blk.cell 0;have v:=a.res.cell 0;have x:=a.res.cell 1;have y:=a.res.cell 2;have z:=a.res.cell 3;have r:=a.res.frozen 0;have s:=a.res.frozen 1;have t:=a.res.frozen 2;have u:=a.res.frozen 3;obtain ⟨m,n⟩:=hqq2 b i;clear a i b;unfold fH;go_enter func22,ntmps22;go_wp2_with fail;refine n.out.mono ?_;rintro q w1 ⟨rfl,rfl⟩;go_wp2_with fail;exact zO _ _ _ m.out (.inl rfl) rfl
def aCV {g:Nat->Prop} {B:Nat} {own:Nat->Nat} {gs gl most rate:Nat} {m:List UInt8} (a l k:Int) (f:Option Addr) (j i:Nat) {w:World} (d:StAt w B own gs gl most rate m g) (c:∀e:Int,1<=e->e<=8->a≠e):
 Calls prog 22 #[gs,fH a l k f j i] w (eX w B own gs most rate m g ⟨1,0, [], []⟩):=by
 have b:=DoW.mk' a l k f j i d;have o:=b.box.cell 0;have t:=b.res.cell 0;have u:=b.res.cell 1;have v:=b.res.cell 2;have x:=b.res.cell 3;have p:=b.res.frozen 0;have q:=b.res.frozen 1;have r:=b.res.frozen 2;have s:=b.res.frozen 3;have y:(a==1)=false:=zCb.2 (c 1 dC dC);have z:(a==2)=false:=zCb.2 (c 2 dC dC);have A:(a==3)=false:=zCb.2 (c 3 dC dC);have C:(a==4)=false:=zCb.2 (c 4 dC dC);have D:(a==5)=false:=zCb.2 (c 5 dC dC);have E:(a==6)=false:=zCb.2 (c 6 dC dC);have F:(a==7)=false:=zCb.2 (c 7 dC dC);have G:(a==8)=false:=zCb.2 (c 8 dC dC);have n:=lhd d;clear b d c;unfold fH;go_enter func22,ntmps22;go_wp2_with fail;exact zO _ _ _ n.out (.inl rfl) rfl
def aEx {x:Nat->Prop} {B:Nat} {own:Nat->Nat} {gs gl most rate:Nat} {c:List UInt8} (J I:Int) (g:Option Addr) (H i:Nat) {w:World} (p:StAt w B own gs gl most rate c x):
 Calls prog 22 #[gs,fH 8 J I g H i] w (eX w B own gs most rate c (cY rate c.length) ⟨0,0, [], []⟩):=by
 obtain ⟨e,f⟩:∃e,IsSuf (aF c) e:=by obtain ⟨e,gk,Z,a5,f,_⟩:=p.tp;exact ⟨e,f⟩
 have j:=DoW.mk' 8 J I g H i p;have m:=pX j.st f;unfold eY at m;obtain ⟨a4,r⟩:=eqx ((dN (aD (aF c) e) e most rate c.length).length);rw [r] at m;have z:=fun g i w1 (d:StAt w1 B own gs gl most rate c x)=>aEw g i d f d.n127 d.r1 d.r2 d.len d.max r;have S:=j.box.cell 0;obtain ⟨b,v,s⟩:=hqq3 j m z;clear j m z p r f;unfold fH;go_enter func22,ntmps22;go_wp2_with fail;refine v.out.mono ?_;rintro R w1 ⟨K,Q,rfl,l,n⟩;have F:=b.out.st.vb n.1;have D:=(LFS.of_below B gs own b.out.low).trans (LFS.of_vb gs own n);have E:=n.1.bk b.out.res dC dC;have A:=s.out K Q w1 F l.rd l.cap l.max;obtain ⟨t,u,o⟩:=hqq3 A D E;clear F D E A l n v s;go_wp2_with fail;refine t.out.mono ?_;rintro R a6 ⟨rfl,own',Y,G,k⟩;have a:=k.bk o.out b.out.ap.col b.out.ap.ne dC dC;have y:=b.out.ap.step k o.out.lt;have C:=u.out.trans k;have a0:=a.cell 0;have a1:=a.cell 1;have a2:=a.cell 2;have a3:=a.cell 3;have U:=a.frozen 0;have V:=a.frozen 1;have W:=a.frozen 2;have X:=a.frozen 3;obtain ⟨O,N,M,L⟩:=hqq4 a G C y;clear a G C k y t u o;go_wp2_with fail;exact kP (.inl rfl) rfl O.out N.out M.out b.out.bs oM L.out rfl rfl (eV _ _ _) (eV _ _ _) (fun P q=>by cases q) (fun P q=>by cases q)
def aBv {B gl rate a:Nat} {q:List UInt8} {b c:Int} {w:World} (f:TpAt w B gl q rate) (v:q.length=a) (g:jO a b c=false):
 Calls prog 50 #[gl,.int .i64 b,.int .i64 c] w fun d w'=>d=.returned (.tuple #[.slice none 0 0,.int .i64 2])/\w=w':=by
 have m:Calls prog 42 #[gl] w fun d w'=>d=.returned (.int .i64 (a:Int))/\w=w':=by obtain ⟨C,gk,u,A,p,l,y,z,o⟩:=f;exact bM (n:=a) l.lvw (by rw [bF,p.len,aK,v]) oM
 have o:a<=127:=by obtain ⟨C,gk,u,A,p,l,y,z,o⟩:=f;omega
 unfold jO at g;have x:=of_decide_eq_false g;have e:=lhd m;clear f m g;by_cases i:b < 0
 · have r:decide (b < 0)=true:=zBz i;go_enter func50,ntmps50;go_wp2_with fail;go_ret2;exact ⟨rfl,rfl⟩
 · have r:decide (b < 0)=false:=zBy i;by_cases j:c < 0
   · have s:decide (c < 0)=true:=zBz j;go_enter func50,ntmps50;go_wp2_with fail;go_ret2;exact ⟨rfl,rfl⟩
   · have s:decide (c < 0)=false:=zBy j;by_cases k:b > (a:Int)
     · have t:decide (b > (a:Int))=true:=zBz k;go_enter func50,ntmps50;go_wp2_with fail;refine e.out.mono ?_;rintro d w1 ⟨rfl,rfl⟩;go_wp2_with fail;go_ret2;exact ⟨rfl,rfl⟩
     · have t:decide (b > (a:Int))=false:=zBy k;have E:IntKind.i64.wrap ((a:Int) - b)=(a:Int) - b:=(by rw [IntKind.wrap_i64];omega);have D:decide (c > (a:Int) - b)=true:=zBz oM;clear x;go_enter func50,ntmps50;go_wp2_with fail;refine e.out.mono ?_;rintro d w1 ⟨rfl,rfl⟩;go_wp2_with fail;refine e.out.mono ?_;rintro d w1 ⟨rfl,rfl⟩;go_wp2_with fail;go_ret2;exact ⟨rfl,rfl⟩
def rT {A:Nat->Prop} {B:Nat} {own:Nat->Nat} {gs gl most rate:Nat} {I:List UInt8} (s v:Int) (z:Option Addr) (G C:Nat) {w:World} (D:StAt w B own gs gl most rate I A) (j:List UInt8) (n:Int) (nd:Nat) (a8:j.length=nd) (P:∀l,StAt l B own gs gl most rate I A->LFS B gs w l own own->Calls prog 50 #[gl,.int .i64 s,.int .i64 v] l fun L w'=>∃a b,L=.returned (.tuple #[.slice a nd b,.int .i64 n])/\Made w' l.heap.size 5 1 a nd b (j.map bv)/\VB B l w'):
 Calls prog 22 #[gs,fH 5 s v z G C] w (eX w B own gs most rate I A ⟨n,0,j, []⟩):=by
 have r:=DoW.mk' 5 s v z G C D;have y:=fun e (u:VB B _ e)=>P e (r.st.vb u.1) ((LFS.of_below B gs own r.low).trans (LFS.of_vb gs own u));have au:=D.blk.lt;have a1:=r.box.cell 0;have a2:=r.box.cell 1;have a3:=r.box.cell 2;have ae:=r.st.blk.cell 0;obtain ⟨m,J⟩:=hqq2 r y;clear r y D P;unfold fH;go_enter func22,ntmps22;go_wp2_with fail;generalize (w.alloc (.cells #[.int .i64 5,.int .i64 s,.int .i64 v,.slice z G C] 57)).alloc (.cells #[.int .i64 0,.int .i64 0,.slice none 0 0,.slice none 0 0] 54)=l at*
 clear a1 a2 a3 ae;refine wp_region_any kR ?_;refine aY (S:=(VB B)) (V:=(Vs [is gs,is gs,is gs,is gl,is (.pointer (some ⟨w.heap.size,1,none⟩)),is (.int .i64 s),is (.pointer (some ⟨w.heap.size,2,none⟩)),is (.int .i64 v),fun f g=>∃a b,f=.tuple #[.slice a nd b,.int .i64 n]/\Made g w.heap.size 5 1 a nd b (j.map bv),fun f g=>∃a b,f=.tuple #[.slice a nd b,.int .i64 n]/\Made g w.heap.size 5 1 a nd b (j.map bv),fun f g=>∃a b,f=.slice a nd b/\Made g w.heap.size 5 1 a nd b (j.map bv),is (.int .i64 n),fun f g=>∃a b,f=.slice a nd b/\Made g w.heap.size 5 1 a nd b (j.map bv),is (.int .i64 n)])) [34,35,36,37,38,39,40,41,42,33,43,44,5,6] _ rfl kR vR (fun _ _=>VisK.trans) (cK (by repeat' (first | exact gW _ _ | exact iZ _ | exact fun _ _ _ ⟨a,b,a5,a6⟩ u=>⟨a,b,a5,u.1.made a6 dC dC⟩|(refine zAe.2 ⟨?_,?_⟩)|(intro s y;cases y)))) ?_ ?_
 · refine aV ?_;refine pH 0 (.pointer (some gs)) ?_;refine pV 0 34 ?_;refine pV 1 35 ?_;refine sC (fun _ e c _ _ _ d _ _ _ i=>?_) ?_
   · have af:_=_:=d 2 36 kR rfl;replace c:(VB B) l e:=bD c;have a7:=c.1.bk m.out.st.blk dC dC;have K:=a7.cell 0;go_simp;exact i _ _ vR rfl
   refine pH 3 (.pointer (some w.heap.size)) ?_;refine sC (fun _ e c _ _ _ d _ _ _ i=>?_) ?_
   · have ah:_=_:=d 4 38 kR rfl;replace c:(VB B) l e:=bD c;have F:=c.1.bk m.out.box dC dC;have K:=F.cell 1;go_simp;exact i _ _ vR rfl
   refine pH 3 (.pointer (some w.heap.size)) ?_;refine sC (fun _ e c _ _ _ d _ _ _ i=>?_) ?_
   · have aj:_=_:=d 6 40 kR rfl;replace c:(VB B) l e:=bD c;have F:=c.1.bk m.out.box dC dC;have K:=F.cell 2;go_simp;exact i _ _ vR rfl
   refine sC (fun _ e c _ _ _ d _ _ _ i=>?_) ?_
   · have ag:_=_:=d 3 37 kR rfl;have ai:_=_:=d 5 39 kR rfl;have ak:_=_:=d 7 41 kR rfl;replace c:(VB B) l e:=bD c;have aa:=c.1.size;go_simp;refine (J.out e c).mono ?_;rintro L az ⟨a,b,rfl,x,a9⟩;exact i _ _ a9 ⟨a,b,rfl,⟨cD x.own (zAk m.out.low.size aa),x.rd,x.cap,x.max⟩⟩
   refine sC (fun o e _ _ _ _ d _ _ _ i=>?_) ?_
   · have ab:(fun f g=>∃a b,f=.tuple #[.slice a nd b,.int .i64 n]/\Made g w.heap.size 5 1 a nd b (j.map bv)) (o (.tmp 42)) e:=d 8 42 kR rfl;obtain ⟨a,b,al,p⟩:=ab;go_simp;exact i _ _ vR ⟨a,b,rfl,p⟩
   refine sC (fun o e _ _ _ _ d _ _ _ i=>?_) ?_
   · have H:(fun f g=>∃a b,f=.tuple #[.slice a nd b,.int .i64 n]/\Made g w.heap.size 5 1 a nd b (j.map bv)) (o (.tmp 33)) e:=d 9 33 kR rfl;obtain ⟨a,b,a4,p⟩:=H;go_simp;exact i _ _ vR ⟨a,b,rfl,p⟩
   refine sC (fun o e _ _ _ _ d _ _ _ i=>?_) ?_
   · have H:(fun f g=>∃a b,f=.tuple #[.slice a nd b,.int .i64 n]/\Made g w.heap.size 5 1 a nd b (j.map bv)) (o (.tmp 33)) e:=d 9 33 kR rfl;obtain ⟨a,b,a4,p⟩:=H;go_simp;exact i _ _ vR rfl
   refine sC (fun o e _ _ _ _ d _ _ _ i=>?_) ?_
   · have ac:(fun f g=>∃a b,f=.slice a nd b/\Made g w.heap.size 5 1 a nd b (j.map bv)) (o (.tmp 43)) e:=d 10 43 kR rfl;obtain ⟨a,b,am,p⟩:=ac;go_simp;exact i _ _ vR ⟨a,b,rfl,p⟩
   refine pV 11 44 ?_;exact aH
 · intro o U c d;replace c:(VB B) l U:=bD c;have ad:(fun f g=>∃a b,f=.slice a nd b/\Made g w.heap.size 5 1 a nd b (j.map bv)) (o (.tmp 5)) U:=d 12 5 rfl;have N:o (.tmp 6)=.int .i64 n:=d 13 6 rfl;simp only [zqq];rw [N];clear d;obtain ⟨a,b,M,p⟩:=ad;rw [M];clear M N;have q:=c.1.bk m.out.res dC dC;have O:=(LFS.of_below B gs own m.out.low).trans (LFS.of_vb gs own c);have Q:=m.out.st.vb c.1;have R:∀t,a=some t->own t.block=0:=fun t E=>by subst E;exact m.out.fr _ (p.own.lt (k:=t.block) rfl).1
   have av:=q.cell 0;have aw:=q.cell 1;have ax:=q.cell 2;have ay:=q.cell 3;have an:=q.frozen 0;have ao:=q.frozen 1;have aq:=q.frozen 2;have ar:=q.frozen 3;obtain ⟨a0,Y,W,Z,X⟩:=hqq5 q Q O R p;clear q Q O c R p J;go_wp2_with fail;exact kP (.inl rfl) rfl a0.out Y.out W.out m.out.bs oM m.out.ap a8 rfl X.out (eV _ _ _) Z.out (fun t E=>by cases E)
def yS {I:Nat->Prop} {B:Nat} {own:Nat->Nat} {gs gl most rate:Nat} {n o:List UInt8} (u y:Int) {k:Option Addr} {g:Nat} (m:Nat) {w:World} (q:StAt w B own gs gl most rate n I) (D:ArgZ w B own gs k g o) (aC:g<=1000000):
 Calls prog 22 #[gs,fH 6 u y k g m] w (eX w B own gs most rate n I ⟨0,((dD n o).length:Int), [], []⟩):=by
 have r:=DoW.mk' 6 u y k g m q;have a8:o.length=g:=by simpa using D.1.1
 have L:=D.vis r.low;have aB:=q.blk.lt;have F:∀b e,VB B ((w.alloc (.cells #[.int .i64 6,.int .i64 u,.int .i64 y,.slice k g m] 57)).alloc (.cells #[.int .i64 0,.int .i64 0,.slice none 0 0,.slice none 0 0] 54)) b->Bk b e 34 #[.slice k g m]->Calls prog 51 #[gl,.slice (some ⟨e,0,none⟩) 1 1] b fun J w'=>J=.returned (.int .i64 ((dD n o).length:Int))/\VB B b w':=fun b e Q a9=>by
  have ae:TxtAt b B gl n:=by obtain ⟨ai,gk,aA,aJ,ak,al,aM,aN,am⟩:=(r.st.vb Q.1).tp;exact ⟨ai,ak,al.lvw,am⟩
  have a7:=(L.step (LFS.of_vb gs own Q)).1;have:=aBm (Bw:=B) (gl:=gl) (t:=n) (A0:=(some ⟨e,0,none⟩)) (m0:=1) (B:=b.heap.size) (ss:=[(⟨k,g,m,o⟩:Sl)]) (w:=b) 1 o (by simp [gK]) ae (aHF a9 rfl) (fun aK O=>by simp at O;subst O;exact a7) nL oM oM;rw [<-aDQ,qR] at this;exact this
 obtain ⟨A,R⟩:=eqx ((dD n o).length);rw [R] at F⊢;have a2:=r.box.cell 0;obtain ⟨p,X⟩:=hqq2 r F;clear r F q D L a8 R;unfold fH;go_enter func22,ntmps22;go_wp2_with fail;generalize (w.alloc (.cells #[.int .i64 6,.int .i64 u,.int .i64 y,.slice k g m] 57)).alloc (.cells #[.int .i64 0,.int .i64 0,.slice none 0 0,.slice none 0 0] 54)=W at*
 clear a2;refine wp_region_any kR ?_;refine bQ (pre:=(fun _=>True)) (pJ:=(fun v _=>v=.agg #[.int .i64 0,(A:Int),.slice none 0 0,.slice none 0 0])) B 9 [50,51,52,53,54,55,56,57,58] (fun _=>False) 8 [] [is gs,is gs,is gs,is gl,is (.pointer (some ⟨w.heap.size,3,none⟩)),is (.slice k g m),fun H G=>∃e,H=.slice (some ⟨e,0,none⟩) 1 1/\Bk G e 34 #[.slice k g m],is (A:Int),dJ] _ rfl dC kR kR kR (trivial) (fun _ _ _ _ _=>trivial) (fun _ _ _ q _=>q) (by repeat' (first | exact gW _ _ | exact iZ _ | exact fun _ _ _ ⟨e,a5,a6⟩ ag=>⟨e,a5,ag.1.bk a6 dC dC (fun c=>c)⟩|(refine zAe.2 ⟨?_,?_⟩)|(intro u ad;cases ad))) ?_ ?_
 · refine bH ?_;refine pH3 0 (.pointer (some gs)) ?_;refine pV3 0 50 ?_;refine pV3 1 51 ?_;refine sC3 (fun _ b a _ _ _ _ d _ _ _ j=>?_) ?_
   · replace a:VFB B (fun _=>False) W b:=fD a;have an:_=_:=d 2 52 kR rfl;have s:=a.to_vb (fun _ _ c=>c);have ab:=s.1.bk p.out.st.blk dC dC;have a3:=ab.cell 0;go_simp;exact j _ _ (aE vR) rfl
   refine pH3 3 (.pointer (some w.heap.size)) ?_;refine sC3 (fun _ b a _ _ _ _ d _ _ _ j=>?_) ?_
   · replace a:VFB B (fun _=>False) W b:=fD a;have aq:_=_:=d 4 54 kR rfl;have s:=a.to_vb (fun _ _ c=>c);have ac:=s.1.bk p.out.box dC dC;have a3:=ac.cell 3;go_simp;exact j _ _ (aE vR) rfl
   refine sC3 (fun _ _ _ _ _ _ _ d _ _ _ j=>?_) ?_
   · have ar:_=_:=d 5 55 kR rfl;go_simp;exact j _ _ (aE (vR.alloc _)) ⟨_,rfl,Bk.new _ _ _⟩
   refine sC3 (fun C b a _ _ _ _ d _ _ _ j=>?_) ?_
   · replace a:VFB B (fun _=>False) W b:=fD a;have ao:_=_:=d 3 53 kR rfl;have ah:(fun H G=>∃e,H=.slice (some ⟨e,0,none⟩) 1 1/\Bk G e 34 #[.slice k g m]) (C (.tmp 56)) b:=d 6 56 kR rfl;have s:=a.to_vb (fun _ _ c=>c);obtain ⟨a4,au,aa⟩:=ah;go_simp;refine (X.out b a4 s aa).mono ?_;rintro J aL ⟨rfl,af⟩;exact j _ _ (aE af) rfl
   refine sC3 (fun _ _ _ _ _ _ _ d _ _ _ j=>?_) ?_
   · have av:_=_:=d 7 57 kR rfl;go_simp;exact j _ _ (iX (VFB.of_vb vR)) rfl
   exact aH
 · intro C z c a d M;replace a:VFB B (fun _=>False) W z:=fD a;have S:(fun v _=>v=.agg #[.int .i64 0,(A:Int),.slice none 0 0,.slice none 0 0]) (C (.tmp 58)) z:=d 8 58 dC rfl;obtain ⟨aj,V⟩:=M 8 dC;have U:(fun v _=>v=.agg #[.int .i64 0,(A:Int),.slice none 0 0,.slice none 0 0]) aj z:=V;clear V M;simp only [zqq];clear d;have K:=S;rw [K];have x:=a.to_vb (fun _ _ c=>c);clear U S K a;have l:=x.1.bk p.out.res dC dC;have P:=p.out.st.vb x.1;have N:=(LFS.of_below B gs own p.out.low).trans (LFS.of_vb gs own x);have aD:=l.cell 0;have aF:=l.cell 1;have aG:=l.cell 2;have aI:=l.cell 3;have aw:=l.frozen 0;have ax:=l.frozen 1;have ay:=l.frozen 2;have az:=l.frozen 3;obtain ⟨a0,Z,Y⟩:=hqq3 l P N;clear l P N x;change wpAny prog Region.Mode.any _ _ (1+c) (bX 9 10) _ z;rw [zCt 1 c];refine bL (f:=c) (i:=9) kR ?_;refine bY rfl rfl ?_;generalize j:wpAny prog _ _ _ c _=K5;go_simp;subst j;refine bO kR ?_;go_wp2_with fail;exact kP (.inl rfl) rfl a0.out Z.out Y.out p.out.bs oM p.out.ap rfl rfl (eV _ _ _) (eV _ _ _) (fun a1 E=>by cases E) (fun a1 E=>by cases E)
def xO {O:Nat->Prop} {B:Nat} {own:Nat->Nat} {gs gl most rate:Nat} {n l:List UInt8} (C G:Int) {j:Option Addr} {g:Nat} (p:Nat) {w:World} (H:StAt w B own gs gl most rate n O) (K:ArgZ w B own gs j g l) (aC:g<=1000000):
 Calls prog 22 #[gs,fH 7 C G j g p] w (eX w B own gs most rate n O ⟨0,((dD n l).length:Int), [],dD n l⟩):=by
 have z:=DoW.mk' 7 C G j g p H;have ad:l.length=g:=by simpa using K.1.1
 have U:=K.vis z.low;have aB:=H.blk.lt;have D:∀d f,VB B ((w.alloc (.cells #[.int .i64 7,.int .i64 C,.int .i64 G,.slice j g p] 57)).alloc (.cells #[.int .i64 0,.int .i64 0,.slice none 0 0,.slice none 0 0] 54)) d->Bk d f 34 #[.slice j g p]->Calls prog 52 #[gl,.slice (some ⟨f,0,none⟩) 1 1] d fun Q w'=>∃a b,Q=.returned (.slice a (dD n l).length b)/\Made w' d.heap.size 3 1 a (dD n l).length b ((dD n l).map nv)/\VB B d w':=fun d f a1 ae=>by have ac:=(U.step (LFS.of_vb gs own a1)).1;have:=aJV (Bw:=B) (gl:=gl) (rate:=rate) (t:=n) (A0:=(some ⟨f,0,none⟩)) (m0:=1) (B:=d.heap.size) (ss:=[(⟨j,g,p,l⟩:Sl)]) (w:=d) 1 l (by simp [gK]) (z.st.vb a1.1).tp (aHF ae rfl) (fun aI Z=>by simp at Z;subst Z;exact ac) nL oM oM;unfold aBN at this;rw [qR] at this;exact this
 obtain ⟨x,X⟩:=eqx (dD n l);rw [X] at D⊢;obtain ⟨r,v⟩:=eqx x.length;rw [v] at D⊢;have a9:=z.box.cell 0;obtain ⟨o,N,a6⟩:=hqq3 z D v;clear z D H K U ad X v;unfold fH;go_enter func22,ntmps22;go_wp2_with fail;generalize (w.alloc (.cells #[.int .i64 7,.int .i64 C,.int .i64 G,.slice j g p] 57)).alloc (.cells #[.int .i64 0,.int .i64 0,.slice none 0 0,.slice none 0 0] 54)=W at*
 clear a9;refine wp_region_any kR ?_;refine aY (S:=(VB B)) (V:=(Vs [is gs,is gs,is gs,is gl,is (.pointer (some ⟨w.heap.size,3,none⟩)),is (.slice j g p),fun M i=>∃f,M=.slice (some ⟨f,0,none⟩) 1 1/\Bk i f 34 #[.slice j g p],fun u i=>∃a b,u=.slice a r b/\Made i w.heap.size 3 1 a r b (x.map nv),fun u i=>∃a b,u=.slice a r b/\Made i w.heap.size 3 1 a r b (x.map nv)])) [61,62,63,64,65,66,67,68,7] _ rfl kR vR (fun _ _=>VisK.trans) (cK (by repeat' (first | exact gW _ _ | exact iZ _ | exact fun _ _ _ ⟨f,I,J⟩ F=>⟨f,I,F.1.bk J dC dC⟩| exact fun _ _ _ ⟨a,b,I,J⟩ F=>⟨a,b,I,F.1.made J dC dC⟩|(refine zAe.2 ⟨?_,?_⟩)|(intro C ai;cases ai)))) ?_ ?_
 · refine aV ?_;refine pH 0 (.pointer (some gs)) ?_;refine pV 0 61 ?_;refine pV 1 62 ?_;refine sC (fun _ d c _ _ _ e _ _ _ q=>?_) ?_
   · have ao:_=_:=e 2 63 kR rfl;replace c:(VB B) W d:=bD c;have ag:=c.1.bk o.out.st.blk dC dC;have aa:=ag.cell 0;go_simp;exact q _ _ vR rfl
   refine pH 3 (.pointer (some w.heap.size)) ?_;refine sC (fun _ d c _ _ _ e _ _ _ q=>?_) ?_
   · have ar:_=_:=e 4 65 kR rfl;replace c:(VB B) W d:=bD c;have ah:=c.1.bk o.out.box dC dC;have aa:=ah.cell 3;go_simp;exact q _ _ vR rfl
   refine sC (fun _ _ _ _ _ _ e _ _ _ q=>?_) ?_
   · have au:_=_:=e 5 66 kR rfl;go_simp;exact q _ _ (vR.alloc _) ⟨_,rfl,Bk.new _ _ _⟩
   refine sC (fun y d c _ _ _ e _ _ _ q=>?_) ?_
   · have aq:_=_:=e 3 64 kR rfl;have al:(fun M i=>∃f,M=.slice (some ⟨f,0,none⟩) 1 1/\Bk i f 34 #[.slice j g p]) (y (.tmp 67)) d:=e 6 67 kR rfl;replace c:(VB B) W d:=bD c;obtain ⟨ab,av,af⟩:=al;have ak:=c.1.size;go_simp;refine (N.out d ab c af).mono ?_;rintro Q aJ ⟨a,b,rfl,E,aj⟩;exact q _ _ aj ⟨a,b,rfl,⟨cD E.own (zAk o.out.low.size ak),E.rd,E.cap,E.max⟩⟩
   refine sC (fun y d _ _ _ _ e _ _ _ q=>?_) ?_
   · have am:(fun u i=>∃a b,u=.slice a r b/\Made i w.heap.size 3 1 a r b (x.map nv)) (y (.tmp 68)) d:=e 7 68 kR rfl;obtain ⟨a,b,aw,A⟩:=am;go_simp;exact q _ _ vR ⟨a,b,rfl,A⟩
   exact aH
 · intro y a2 c e;replace c:(VB B) W a2:=bD c;have an:(fun u i=>∃a b,u=.slice a r b/\Made i w.heap.size 3 1 a r b (x.map nv)) (y (.tmp 7)) a2:=e 8 7 rfl;simp only [zqq];clear e;obtain ⟨a,b,R,A⟩:=an;rw [R];clear R;have m:=c.1.bk o.out.res dC dC;have Y:=(LFS.of_below B gs own o.out.low).trans (LFS.of_vb gs own c);have a0:=o.out.st.vb c.1;have v:∀s,a=some s->own s.block=0:=fun s L=>by subst L;have:=(A.own.lt (k:=s.block) rfl).1;by_cases P:own s.block=0;exact P;exact absurd (o.out.fr s.block this) P
   have aD:=m.cell 0;have aE:=m.cell 1;have aF:=m.cell 2;have aG:=m.cell 3;have ax:=m.frozen 0;have ay:=m.frozen 1;have az:=m.frozen 2;have aA:=m.frozen 3;obtain ⟨a8,a5,a3,a7,a4⟩:=hqq5 m a0 Y v A;clear m a0 Y c v A N;go_wp2_with fail;exact kP (.inl rfl) rfl a8.out a5.out a3.out o.out.bs oM o.out.ap rfl a6.out (eV _ _ _) a4.out (fun s L=>by cases L) a7.out
def doQ (rate:Nat) (b:List UInt8) (most d c f:Int) (e:List UInt8) (a:Nat->Prop):Nat->Prop:=
 if d=1 then if jO b.length c 0=false then a else if most -(b.length:Int) < (e.length:Int) then a else aE6 rate b.length c.toNat a e.length
 else if d=2 then if jO b.length c f=false then a else aFf rate b.length c.toNat a f.toNat
 else if d=8 then cY rate b.length else a
def aGF {y:Nat->Prop} {B:Nat} {own:Nat->Nat} {gs gl most rate:Nat} {c j r:List UInt8} {D:Told} {m b:Int} {i:Option Addr} {d:Nat} (e:Nat) {w:World} (a:doM c (most:Int) 1 m b j=(r,D)) (p:StAt w B own gs gl most rate c y) (u:ArgZ w B own gs i d j) (K:d<=1000000) (F:TabW w) (E:7 < B) (z:r.length<=127):
 Calls prog 22 #[gs,fH 1 m b i d e] w (eX w B own gs most rate r (doQ rate c (most:Int) 1 m b j y) D):=by
 have A:j.length=d:=by simpa using u.1.1
 have L:∀l,LFS B gs w l own own->TabW l:=fun l g=>F.below (g.below p.size) E;unfold doM at a;unfold doQ;rw [zBx rfl] at a⊢;cases q:jO c.length m 0 with
 | false=>
   rw [zBx q] at a;rw [zBx rfl];cases a;exact fS c m b i d e 2 p (.inl rfl) fun l f g=>(mE _ 1 m b i d e f rfl (by simpa [qH] using q)).mono fun o w' ⟨x,n⟩=>⟨x,own,f.vb (Vis.of_below n),LFS.of_below B gs own n⟩
 | true=>
   rw [zBw (by rw [q];decide)] at a;rw [zBw dC];obtain ⟨s,H,rfl,J,I⟩:=rE q;by_cases C:(most:Int) -(c.length:Int) < (j.length:Int)
   · rw [zBx C] at a⊢;cases a;exact fS c _ b i d e 3 p (.inl rfl) fun l f g=>(uF _ s b e true f rfl (u.step g) oM (zBz oM) (fun o=>by cases o)).mono fun o w' v=>have ⟨x,n⟩:=v.1 rfl;⟨x,own,f.vb n.1,LFS.of_vb gs own n⟩
   rw [zBw C] at a⊢;cases a;rw [zBr] at z⊢;rw [A];have G:=vZ (t:=c) j (k:=s) oM;exact fS _ _ b i d e 0 p (.inl rfl) fun l f g=>(uF _ s b e false f rfl (u.step g) oM (zBy oM) (fun _=>by rw [<-A,<-G];exact z)).mono fun o w' v=>v.2 rfl
def aGE {p:Nat->Prop} {B:Nat} {own:Nat->Nat} {gs gl most rate:Nat} {i j n:List UInt8} {r:Told} {f e:Int} {b:Option Addr} {a:Nat} (g:Nat) {w:World} (d:doM i (most:Int) 2 f e j=(n,r)) (o:StAt w B own gs gl most rate i p) (t:ArgZ w B own gs b a j) (F:a<=1000000) (u:TabW w) (q:7 < B) (D:n.length<=127):
 Calls prog 22 #[gs,fH 2 f e b a g] w (eX w B own gs most rate n (doQ rate i (most:Int) 2 f e j p) r):=by
 have E:j.length=a:=by simpa using t.1.1
 have x:∀c,LFS B gs w c own own->TabW c:=fun c m=>u.below (m.below o.size) q;unfold doM at d;unfold doQ;rw [zBw dC,zBx rfl] at d⊢;cases k:jO i.length f e with
 | false=>
   rw [zBx k] at d;rw [zBx rfl];cases d;exact fS i f e b a g 2 o (.inr (.inl rfl)) fun c l m=>(mE _ 2 f e b a g l rfl (by simpa [qH] using k)).mono fun C w' ⟨y,s⟩=>⟨y,own,l.vb (Vis.of_below s),LFS.of_below B gs own s⟩
 | true=>
   rw [zBw (by rw [k];decide)] at d;rw [zBw dC];cases d;obtain ⟨z,A,rfl,rfl,v⟩:=rE k;rw [zBr,zBr];exact fS _ _ _ b a g 0 o (.inr (.inl rfl)) fun c l m=>yR b a g l (x c m) q rfl v
def aGD {p:Nat->Prop} {B:Nat} {own:Nat->Nat} {gs gl most rate:Nat} {k g n:List UInt8} {s:Told} {e c:Int} {f:Option Addr} {b:Nat} (i:Nat) {w:World} (a:doM k (most:Int) 3 e c g=(n,s)) (o:StAt w B own gs gl most rate k p) (r:ArgZ w B own gs f b g) (G:b<=1000000) (x:TabW w) (q:7 < B) (D:n.length<=127):
 Calls prog 22 #[gs,fH 3 e c f b i] w (eX w B own gs most rate n (doQ rate k (most:Int) 3 e c g p) s):=by
 have v:g.length=b:=by simpa using r.1.1
 have y:∀d,LFS B gs w d own own->TabW d:=fun d j=>x.below (j.below o.size) q;unfold doM at a;rw [zBw dC] at a;rw [zBw dC] at a;rw [zBw dC] at a;rw [zBx rfl] at a;cases l:jO k.length e (g.length:Int) with
 | false=>
   rw [zBx l] at a;cases a;exact fS k e c f b i 2 o (.inr (.inr rfl)) fun d m j=>(mE _ 3 e c f b i m rfl (by simpa [qH,v] using l)).mono fun C w' ⟨z,t⟩=>⟨z,own,m.vb (Vis.of_below t),LFS.of_below B gs own t⟩
 | true=>
   rw [zBw (by rw [l];decide)] at a;cases a;obtain ⟨u,A,rfl,F,E⟩:=rE l;rw [zBr];exact fS _ _ c f b i 0 o (.inr (.inr rfl)) fun d m j=>yQ _ u c i m (y d j) q rfl (r.step j) oM
def aGC {q:Nat->Prop} {B:Nat} {own:Nat->Nat} {gs gl most rate:Nat} {f i l:List UInt8} {t:Told} {e d:Int} {g:Option Addr} {c:Nat} (n:Nat) {w:World} (a:doM f (most:Int) 5 e d i=(l,t)) (o:StAt w B own gs gl most rate f q) (u:ArgZ w B own gs g c i) (F:c<=1000000) (v:TabW w) (s:7 < B) (D:l.length<=127):
 Calls prog 22 #[gs,fH 5 e d g c n] w (eX w B own gs most rate l (doQ rate f (most:Int) 5 e d i q) t):=by
 have E:i.length=c:=by simpa using u.1.1
 have y:∀b,LFS B gs w b own own->TabW b:=fun b k=>v.below (k.below o.size) s;unfold doM at a;rw [zBw dC] at a;rw [zBw dC] at a;rw [zBx rfl] at a;cases j:jO f.length e d with
 | false=>
   rw [zBx j] at a;cases a;exact rT e d g c n o [] 2 0 rfl fun b p k=>(aBv p.tp rfl j).mono fun C w' ⟨z,A⟩=>by subst A;exact ⟨none,0,z,eV _ _ _,VisK.refl _ _⟩
 | true=>
   rw [zBw (by rw [j];decide)] at a;cases a;obtain ⟨r,m,rfl,rfl,x⟩:=rE j;rw [zBr,zBr];exact rT _ _ g c n o ((f.drop r).take m) 0 m (by rw [zAj,zAw];omega) fun b p k=>aGL r m p.tp (y b k) s x
def aGB {k:Nat->Prop} {B:Nat} {own:Nat->Nat} {gs gl most rate:Nat} {i b f:List UInt8} {o:Told} {e d:Int} {j:Option Addr} {c:Nat} (l:Nat) {w:World} (a:doM i (most:Int) 7 e d b=(f,o)) (m:StAt w B own gs gl most rate i k) (n:ArgZ w B own gs j c b) (r:c<=1000000) (q:TabW w) (p:7 < B) (t:f.length<=127):
 Calls prog 22 #[gs,fH 7 e d j c l] w (eX w B own gs most rate f (doQ rate i (most:Int) 7 e d b k) o):=by
 have u:b.length=c:=by simpa using n.1.1
 have v:∀g,LFS B gs w g own own->TabW g:=fun g s=>q.below (s.below m.size) p;unfold doM at a;rw [zBw dC] at a;rw [zBw dC] at a;rw [zBw dC] at a;rw [zBw dC] at a;rw [zBw dC] at a;rw [zBw dC] at a;rw [zBx rfl] at a;cases a;exact xO e d l m n r
def aGA {k:Nat->Prop} {B:Nat} {own:Nat->Nat} {gs gl most rate:Nat} {j c g:List UInt8} {n:Told} {e d:Int} {f:Option Addr} {b:Nat} (l:Nat) {w:World} (a:doM j (most:Int) 8 e d c=(g,n)) (m:StAt w B own gs gl most rate j k) (p:ArgZ w B own gs f b c) (u:b<=1000000) (q:TabW w) (o:7 < B) (s:g.length<=127):
 Calls prog 22 #[gs,fH 8 e d f b l] w (eX w B own gs most rate g (doQ rate j (most:Int) 8 e d c k) n):=by
 have t:c.length=b:=by simpa using p.1.1
 have v:∀i,LFS B gs w i own own->TabW i:=fun i r=>q.below (r.below m.size) o;unfold doM at a;rw [zBw dC] at a;rw [zBw dC] at a;rw [zBw dC] at a;rw [zBw dC] at a;rw [zBw dC] at a;rw [zBw dC] at a;rw [zBw dC] at a;rw [zBx rfl] at a;cases a;exact aEx e d f b l m
def dF {k:Nat->Prop} {B:Nat} {own:Nat->Nat} {gs gl most rate:Nat} {l D T2:List UInt8} {r:Told} {kind p n:Int} {A:Option Addr} {m:Nat} (b:Nat) {w:World} (d:doM l (most:Int) kind p n D=(T2,r)) (c:StAt w B own gs gl most rate l k) (e:ArgZ w B own gs A m D) (f:m<=1000000) (j:TabW w) (i:7 < B) (g:T2.length<=127):
 Calls prog 22 #[gs,fH kind p n A m b] w (eX w B own gs most rate T2 (doQ rate l (most:Int) kind p n D k) r):=by
 have a:=d;unfold doM at a;by_cases o:kind=1;subst o;exact aGF b d c e f j i g;rw [zBw o] at a;by_cases q:kind=2;subst q;exact aGE b d c e f j i g;rw [zBw q] at a;by_cases v:kind=5;subst v;exact aGC b d c e f j i g;rw [zBw v] at a;by_cases t:kind=3;subst t;exact aGD b d c e f j i g;rw [zBw t] at a;by_cases u:kind=4;subst u;rw [zBx rfl] at a;cases a;exact aCU p n A m b c rfl;rw [zBw u] at a;by_cases x:kind=6;subst x;rw [zBx rfl] at a;cases a;exact yS p n b c e f;rw [zBw x] at a;by_cases y:kind=7;subst y;exact aGB b d c e f j i g;rw [zBw y] at a;by_cases s:kind=8;subst s;exact aGA b d c e f j i g;rw [zBw s] at a;cases a;rw [show doQ rate l (most:Int) kind p n D k=k by unfold doQ;rw [zBw o,zBw q,zBw s]];exact aCV kind p n A m b c fun E z C=>by omega
end Go.Proofs.YtcoooelofcejbaaGreatDoor
