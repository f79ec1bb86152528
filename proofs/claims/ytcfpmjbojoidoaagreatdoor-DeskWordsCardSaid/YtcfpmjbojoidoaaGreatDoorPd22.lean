/- Lemmas of the walk. Conditions: each its own. -/
import Derived.Test.YtcfpmjbojoidoaaGreatDoorPd21
import Derived.Test.YtcfpmjbojoidoaaGreatDoorProg
import Derived.Test.YtcfpmjbojoidoaaGreatDoorShl
import Derived.Test.YtcfpmjbojoidoaaGreatDoorShi
import Derived.Test.YtcfpmjbojoidoaaGreatDoorSht
import Derived.Test.YtcfpmjbojoidoaaGreatDoorShs
import Derived.Test.YtcfpmjbojoidoaaGreatDoorShd
set_option linter.all false
set_option maxRecDepth 100000
set_option maxHeartbeats 4000000
open Go.Proofs.Tryz
namespace Go.Proofs.YtcfpmjbojoidoaaGreatDoor
open Go.RowKit
def Made.lf {w w':World} {m B:Nat} {own own':Nat->Nat} {a:TypeId} {f c e:Nat} {d:Option Addr} {g:List Value} (b:Made w B a f d c e g) (u:LF m w w' own own') (q:a≠261) (r:a≠201) (s:∀i,B<=i->own i=0):Made w' B a f d c e g:=by
 have k:w'.ownsRow B a f (.slice d c e) c g:=by refine ⟨b.own.1,?_⟩;rcases b.own.2 with v |⟨j,n,o,x,l,y,z⟩;exact .inl v;exact .inr ⟨j,n,o,x,l,u.vis.bk y q r (fun p=>p (s j l)),z⟩
 exact ⟨k,Rd.of_own k,b.cap,b.max⟩
def aGJ {w:World} {b:Nat} {t:TypeId} {a:Array Value} {d:Nat} (c:Bk w b t a) (e:a.size=d):Rd w w.heap.size 1 (some ⟨b,0,none⟩) d a.toList:=by
 refine ⟨by simp [e],fun _=>⟨_,0,rfl,c.lt,fun g i f=>?_⟩⟩;rw [zBi,c.cell];simpa using f
def StDone (w:World) (B:Nat) (own:Nat->Nat) (gs most rate:Nat) (T:List UInt8) (b:Told) (g:Ending) (w':World):Prop:=
 ∃c e d f own' i,g=.returned (.agg (rN b c e d f))/\StAt w' B own' gs i most rate T/\LFS B gs w w' own own'/\Made w' w.heap.size 5 1 c b.data.length e (b.data.map bv)/\Made w' w.heap.size 3 1 d b.places.length f (b.places.map nv)/\(∀a,c=some a->own' a.block=0)/\(∀a,d=some a->own' a.block=0)
section
variable {w w1 w' : World} {B gs gl most rate : Nat} {own own' : Nat -> Nat} {T : List UInt8}
def LFS.put (a:LFS B gs w w1 own own') {p:Addr} (c:w.heap.size<=p.block) (d:B<=p.block) (b:Value):LFS B gs w (w1.setCell p b) own own':=
 ⟨a.old,VisF.put a.vis (.inr c) b,a.keep.setCell (.inr c) b⟩
def StAt.put (e:StAt w B own gs gl most rate T) {p:Addr} (f:Ap own gs p.block) (b:Value):StAt (w.setCell p b) B own gs gl most rate T:=
 e.far (Keep.setCell (F:=fun a=>a=p.block) (Keep.refl _ _) (.inl rfl) b) fun a c=>by have d:a=p.block:=c;rw [d];exact f
def gZ {b i:Nat} {t a:TypeId} {l k:_} {d g e:Nat} {c:Option Addr} (m:Made w d a 1 c g e k) (n:Bk w b t l) (o:a≠t) (j:Value):Made (w.setCell ⟨b,i,none⟩ j) d a 1 c g e k:=
 mZ m fun q r f=>f.far (p:=⟨b,i,none⟩) (Bk.ne f n o) j
def jY {y:Array Value} {a:Nat} {H I J K:Value} {b c:Option Addr} {v d x e:Nat} {k l:Int} {g:List UInt8} {j:List Nat} {s:Exit} (O:s=.ret∨s=.normal) (U:y.getD 4 undef=.pointer (some a)) (u:Bk w1 a 55 #[H,I,J,K])
 (W:StAt w1 B own' gs gl most rate T) (Q:LFS B gs w w1 own own') (X:B<=w.heap.size) (q:w.heap.size<=a) (o:Ap own' gs a) (N:g.length=v) (V:j.length=x) (R:Made w1 w.heap.size 5 1 b v d (g.map bv)) (S:Made w1 w.heap.size 3 1 c x e (j.map nv)) (F:∀m,b=some m->own' m.block=0) (G:∀m,c=some m->own' m.block=0):
 bodyPost prog f20 (StDone w B own gs most rate T ⟨k,l,g,j⟩) s ⟨y, []⟩ ((((w1.setCell a (.int .i64 k)).setCell ⟨a,1,none⟩ (.int .i64 l)).setCell ⟨a,2,none⟩ (.slice b v d)).setCell ⟨a,3,none⟩ (.slice c x e)):=by
 subst N V;have b1:=u.set 0 (.int .i64 k);have b2:=b1.set 1 (.int .i64 l);have r:=b2.set 2 (.slice b g.length d);have L:=r.set 3 (.slice c j.length e);have n:B<=a:=oM;have C:=(((W.put (p:=a) o (.int .i64 k)).put (p:=⟨a,1,none⟩) o (.int .i64 l)).put (p:=⟨a,2,none⟩) o (.slice b g.length d)).put (p:=⟨a,3,none⟩) o (.slice c j.length e);have z:=(((Q.put (p:=a) q n (.int .i64 k)).put (p:=⟨a,1,none⟩) q n (.int .i64 l)).put (p:=⟨a,2,none⟩) q n (.slice b g.length d)).put (p:=⟨a,3,none⟩) q n (.slice c j.length e);have D:=gZ (i:=3) (gZ (i:=2) (gZ (i:=1) (gZ (i:=0) R u dC (.int .i64 k)) b1 dC (.int .i64 l)) b2 dC (.slice b g.length d)) r dC (.slice c j.length e);have E:=gZ (i:=3) (gZ (i:=2) (gZ (i:=1) (gZ (i:=0) S u dC (.int .i64 k)) b1 dC (.int .i64 l)) b2 dC (.slice b g.length d)) r dC (.slice c j.length e);have M:Bk ((((w1.setCell a (.int .i64 k)).setCell ⟨a,1,none⟩ (.int .i64 l)).setCell ⟨a,2,none⟩ (.slice b g.length d)).setCell ⟨a,3,none⟩ (.slice c j.length e)) a 55 (rN ⟨k,l,g,j⟩ b d c e):=by simpa [rN] using L
 have A:=results_cell_row (P:=prog) (fn:=f20) (p:=4) (ty:=55) rfl y _ a 55 (rN ⟨k,l,g,j⟩ b d c e) (0,0) _ U M underlying55 rfl kR;rcases O with rfl | rfl;exact bodyPost_ret A rfl ⟨b,d,c,e,own',gl,rfl,C,z,D,E,F,G⟩;exact bodyPost_end A rfl ⟨b,d,c,e,own',gl,rfl,C,z,D,E,F,G⟩
end
structure DoW (w W:World) (B:Nat) (own:Nat->Nat) (gs gl most rate:Nat) (t:List UInt8) (kind p n:Int) (A:Option Addr) (m c:Nat):Prop where
 low:Below w.heap.size w W
 box:Bk W w.heap.size 58 #[.int .i64 kind,.int .i64 p,.int .i64 n,.slice A m c]
 res:Bk W (w.heap.size+1) 55 #[.int .i64 0,.int .i64 0,.slice none 0 0,.slice none 0 0]
 st:StAt W B own gs gl most rate t
 ap:Ap own gs (w.heap.size+1)
 sz:W.heap.size=w.heap.size+2
 fr:∀b,w.heap.size<=b->own b=0
 bs:B<=w.heap.size
def DoW.mk' {w:World} {B:Nat} {own:Nat->Nat} {gs gl most rate:Nat} {t:List UInt8} (e i g:Int) (b:Option Addr) (f c:Nat) (a:StAt w B own gs gl most rate t):
 DoW w ((w.alloc (.cells #[.int .i64 e,.int .i64 i,.int .i64 g,.slice b f c] 58)).alloc (.cells #[.int .i64 0,.int .i64 0,.slice none 0 0,.slice none 0 0] 55)) B own gs gl most rate t e i g b f c:=by
 have d:Below w.heap.size w ((w.alloc (.cells #[.int .i64 e,.int .i64 i,.int .i64 g,.slice b f c] 58)).alloc (.cells #[.int .i64 0,.int .i64 0,.slice none 0 0,.slice none 0 0] 55)):=(bR.alloc nL _).alloc (by simp) _;have j:=Bk.new (w.alloc (.cells #[.int .i64 e,.int .i64 i,.int .i64 g,.slice b f c] 58)) 55 #[.int .i64 0,.int .i64 0,.slice none 0 0,.slice none 0 0];rw [World.size_alloc] at j;exact ⟨d,(Bk.new w _ _).alloc _,j,a.vb (Vis.of_below d),⟨a.fresh oM,by have:=a.blk.lt;omega⟩,by rw [World.size_alloc,World.size_alloc],fun k d=>a.fresh d,a.size⟩
def yP {w:World} {B:Nat} {own:Nat->Nat} {gs gl most rate:Nat} {t:List UInt8} {g:Array Value} (c:Array Value) (a b:Int) {d:Exit} (n:StAt w B own gs gl most rate t) (o:d=.ret∨d=.normal) (q:g.getD 4 undef=.pointer (some ⟨w.heap.size+1,0,none⟩)):
 bodyPost prog f20 (StDone w B own gs most rate t ⟨a,b, [], []⟩) d ⟨g, []⟩ ((w.alloc (.cells c 58)).alloc (.cells #[.int .i64 a,.int .i64 b,.slice none 0 0,.slice none 0 0] 55)):=by
 have i:Below w.heap.size w ((w.alloc (.cells c 58)).alloc (.cells #[.int .i64 a,.int .i64 b,.slice none 0 0,.slice none 0 0] 55)):=(bR.alloc nL _).alloc (by simp) _;have j:=Bk.new (w.alloc (.cells c 58)) 55 #[.int .i64 a,.int .i64 b,.slice none 0 0,.slice none 0 0];rw [World.size_alloc] at j;have k:=results_cell_row (P:=prog) (fn:=f20) (p:=4) (ty:=55) rfl g _ (w.heap.size+1) 55 (rN ⟨a,b, [], []⟩ none 0 none 0) (0,0) _ q j underlying55 rfl kR;have l:StDone w B own gs most rate t ⟨a,b, [], []⟩ (.returned (.agg (rN ⟨a,b, [], []⟩ none 0 none 0))) ((w.alloc (.cells c 58)).alloc (.cells #[.int .i64 a,.int .i64 b,.slice none 0 0,.slice none 0 0] 55)):=
  ⟨none,0,none,0,own,gl,rfl,n.vb (Vis.of_below i),LFS.of_below B gs own i,eU _ _ _,eU _ _ _,(fun m e=>by cases e),(fun m e=>by cases e)⟩
 rcases o with rfl | rfl;exact bodyPost_ret k rfl l;exact bodyPost_end k rfl l
def fP (B:Nat) (own:Nat->Nat) (gs gl most rate:Nat) (t o:List UInt8) (d m l:Int) (g:Option Addr) (k i:Nat) (p:Int) (w:World) (r:StAt w B own gs gl most rate t) (G:d=1∨d=2∨d=3)
 (v:∀e,StAt e B own gs gl most rate t->LFS B gs w e own own->Calls prog 42 #[gs,.agg #[.int .i64 d,.int .i64 m,.int .i64 l,.slice g k i]] e fun q w'=>q=.returned (.int .i64 p)/\∃own',StAt w' B own' gs gl most rate o/\LFS B gs e w' own own'):
 Calls prog 20 #[gs,fC d m l g k i] w (StDone w B own gs most rate o ⟨p,0, [], []⟩):=by
 have c:=DoW.mk' d m l g k i r;have u:=v _ c.st (LFS.of_below B gs own c.low);have H:=c.box.cell 0;have I:=c.box.cell 1;have J:=c.box.cell 2;have K:=c.box.cell 3;obtain ⟨b,n⟩:=hqq2 c u;clear c u v r;unfold fC;rcases G with rfl | rfl | rfl
 all_goals
  go_enter func20,ntmps20;go_wp2_with fail;refine n.out.mono ?_;rintro q w1 ⟨rfl,own',y,f⟩;have a:=f.bk b.out.res b.out.ap.col b.out.ap.ne dC dC;have s:=b.out.ap.step f b.out.res.lt;have x:=(LFS.of_below B gs own b.out.low).trans f;have A:=lhd b.out.bs;have P:=a.cell 0;have Q:=a.cell 1;have R:=a.cell 2;have S:=a.cell 3;have L:=a.frozen 0;have M:=a.frozen 1;have N:=a.frozen 2;have O:=a.frozen 3;obtain ⟨E,D,C,z⟩:=hqq4 a y x s;clear a y x f s n b;go_wp2_with fail;exact jY (.inl rfl) rfl E.out D.out C.out A.out oM z.out rfl rfl (eU _ _ _) (eU _ _ _) (fun F j=>by cases j) (fun F j=>by cases j)
def aCk (B:Nat) (own:Nat->Nat) (gs gl most rate d:Nat) (t:List UInt8) (j i:Int) (c:Option Addr) (g e:Nat) (w:World) (b:StAt w B own gs gl most rate t) (m:t.length=d):
 Calls prog 20 #[gs,fC 4 j i c g e] w (StDone w B own gs most rate t ⟨0,(d:Int), [], []⟩):=by
 have a:=DoW.mk' 4 j i c g e b;have f:=a.st.llen m;have n:=a.box.cell 0;have z:=a.st.blk.cell 0;have u:=a.res.cell 0;have v:=a.res.cell 1;have x:=a.res.cell 2;have y:=a.res.cell 3;have p:=a.res.frozen 0;have q:=a.res.frozen 1;have r:=a.res.frozen 2;have s:=a.res.frozen 3;obtain ⟨k,l⟩:=hqq2 b f;clear a f b;unfold fC;go_enter func20,ntmps20;go_wp2_with fail;refine l.out.mono ?_;rintro o w1 ⟨rfl,rfl⟩;go_wp2_with fail;exact yP _ _ _ k.out (.inl rfl) rfl
def aCl (B:Nat) (own:Nat->Nat) (gs gl most rate:Nat) (t:List UInt8) (a k j:Int) (f:Option Addr) (i g:Nat) (w:World) (d:StAt w B own gs gl most rate t) (c:∀e:Int,1<=e->e<=8->a≠e):
 Calls prog 20 #[gs,fC a k j f i g] w (StDone w B own gs most rate t ⟨1,0, [], []⟩):=by
 have b:=DoW.mk' a k j f i g d;have m:=b.box.cell 0;have r:=b.res.cell 0;have s:=b.res.cell 1;have u:=b.res.cell 2;have v:=b.res.cell 3;have n:=b.res.frozen 0;have o:=b.res.frozen 1;have p:=b.res.frozen 2;have q:=b.res.frozen 3;have x:(a==1)=false:=zCb.2 (c 1 dC dC);have y:(a==2)=false:=zCb.2 (c 2 dC dC);have z:(a==3)=false:=zCb.2 (c 3 dC dC);have A:(a==4)=false:=zCb.2 (c 4 dC dC);have C:(a==5)=false:=zCb.2 (c 5 dC dC);have D:(a==6)=false:=zCb.2 (c 6 dC dC);have E:(a==7)=false:=zCb.2 (c 7 dC dC);have F:(a==8)=false:=zCb.2 (c 8 dC dC);have l:=lhd d;clear b d c;unfold fC;go_enter func20,ntmps20;go_wp2_with fail;exact yP _ _ _ l.out (.inl rfl) rfl
def aDS (B:Nat) (own:Nat->Nat) (gs gl most rate:Nat) (t:List UInt8) (I H:Int) (f:Option Addr) (G g:Nat) (w:World) (o:StAt w B own gs gl most rate t):
 Calls prog 20 #[gs,fC 8 I H f G g] w (StDone w B own gs most rate t ⟨0,0, [], []⟩):=by
 obtain ⟨b,e⟩:∃b,IsSuf (aI t) b:=by obtain ⟨b,gk,Z,a4,e,_⟩:=o.tp;exact ⟨b,e⟩
 have i:=DoW.mk' 8 I H f G g o;have l:=aDP B own gs gl most rate t b _ i.st e;unfold gG at l;obtain ⟨R,q⟩:=eqx ((fA (aF (aI t) b) b most rate t.length).length);rw [q] at l;have y:=fun f g w1 (d:StAt w1 B own gs gl most rate t)=>aDQ B own gs gl most rate most rate f R g t t b w1 d e d.n127 d.r1 d.r2 d.len d.max q;have S:=i.box.cell 0;obtain ⟨c,v,r⟩:=hqq3 i l y;clear i l y o q e;unfold fC;go_enter func20,ntmps20;go_wp2_with fail;refine v.out.mono ?_;rintro Q w1 ⟨J,P,rfl,k,m⟩;have E:=c.out.st.vb m.1;have C:=(LFS.of_below B gs own c.out.low).trans (LFS.of_vb gs own m);have D:=m.1.bk c.out.res dC dC;have z:=r.out J P w1 E k.rd k.cap k.max;obtain ⟨s,u,n⟩:=hqq3 z C D;clear E C D z k m v r;go_wp2_with fail;refine s.out.mono ?_;rintro Q a5 ⟨rfl,own',Y,F,j⟩;have a:=j.bk n.out c.out.ap.col c.out.ap.ne dC dC;have x:=c.out.ap.step j n.out.lt;have A:=u.out.trans j;have a0:=a.cell 0;have a1:=a.cell 1;have a2:=a.cell 2;have a3:=a.cell 3;have U:=a.frozen 0;have V:=a.frozen 1;have W:=a.frozen 2;have X:=a.frozen 3;obtain ⟨N,M,L,K⟩:=hqq4 a F A x;clear a F A j x s u n;go_wp2_with fail;exact jY (.inl rfl) rfl N.out M.out L.out c.out.bs oM K.out rfl rfl (eU _ _ _) (eU _ _ _) (fun O p=>by cases p) (fun O p=>by cases p)
def aAR (B gl rate a:Nat) (t:List UInt8) (b d:Int) (w:World) (f:TpAt w B gl t rate) (u:t.length=a) (g:jV a b d=false):
 Calls prog 43 #[gl,.int .i64 b,.int .i64 d] w fun c w'=>c=.returned (.tuple #[.slice none 0 0,.int .i64 2])/\w=w':=by
 have m:Calls prog 35 #[gl] w fun c w'=>c=.returned (.int .i64 (a:Int))/\w=w':=by obtain ⟨A,gk,s,z,o,l,x,y,n⟩:=f;exact bL B gl _ a w l.lvw (by rw [bH,o.len,aO,u]) oM
 have n:a<=127:=by obtain ⟨A,gk,s,z,o,l,x,y,n⟩:=f;omega
 unfold jV at g;have v:=of_decide_eq_false g;have e:=lhd m;clear f m g;by_cases i:b < 0
 · have p:decide (b < 0)=true:=zBz i;go_enter func43,ntmps43;go_wp2_with fail;go_ret2;exact ⟨rfl,rfl⟩
 · have p:decide (b < 0)=false:=zBy i;by_cases j:d < 0
   · have q:decide (d < 0)=true:=zBz j;go_enter func43,ntmps43;go_wp2_with fail;go_ret2;exact ⟨rfl,rfl⟩
   · have q:decide (d < 0)=false:=zBy j;by_cases k:b > (a:Int)
     · have r:decide (b > (a:Int))=true:=zBz k;go_enter func43,ntmps43;go_wp2_with fail;refine e.out.mono ?_;rintro c w1 ⟨rfl,rfl⟩;go_wp2_with fail;go_ret2;exact ⟨rfl,rfl⟩
     · have r:decide (b > (a:Int))=false:=zBy k;have D:IntKind.i64.wrap ((a:Int) - b)=(a:Int) - b:=(by rw [IntKind.wrap_i64];omega);have C:decide (d > (a:Int) - b)=true:=zBz oM;clear v;go_enter func43,ntmps43;go_wp2_with fail;refine e.out.mono ?_;rintro c w1 ⟨rfl,rfl⟩;go_wp2_with fail;refine e.out.mono ?_;rintro c w1 ⟨rfl,rfl⟩;go_wp2_with fail;go_ret2;exact ⟨rfl,rfl⟩
def qO (B:Nat) (own:Nat->Nat) (gs gl most rate:Nat) (t:List UInt8) (u y:Int) (C:Option Addr) (H D:Nat) (w:World) (E:StAt w B own gs gl most rate t) (l:List UInt8) (o:Int) (e:Nat) (a6:l.length=e)
 (P:∀m,StAt m B own gs gl most rate t->LFS B gs w m own own->Calls prog 43 #[gl,.int .i64 u,.int .i64 y] m fun L w'=>∃a b,L=.returned (.tuple #[.slice a e b,.int .i64 o])/\Made w' m.heap.size 5 1 a e b (l.map bv)/\VB B m w'):
 Calls prog 20 #[gs,fC 5 u y C H D] w (StDone w B own gs most rate t ⟨o,0,l, []⟩):=by
 have s:=DoW.mk' 5 u y C H D E;have A:=fun f (x:VB B _ f)=>P f (s.st.vb x.1) ((LFS.of_below B gs own s.low).trans (LFS.of_vb gs own x));have aq:=E.blk.lt;have Z:=s.box.cell 0;have a0:=s.box.cell 1;have a1:=s.box.cell 2;have ac:=s.st.blk.cell 0;obtain ⟨n,J⟩:=hqq2 s A;clear s A E P;unfold fC;go_enter func20,ntmps20;go_wp2_with fail;generalize (w.alloc (.cells #[.int .i64 5,.int .i64 u,.int .i64 y,.slice C H D] 58)).alloc (.cells #[.int .i64 0,.int .i64 0,.slice none 0 0,.slice none 0 0] 55)=m at*
 clear Z a0 a1 ac;refine wp_region_any kR ?_;refine aX [34,35,36,37,38,39,40,41,42,33,43,44,5,6] (VB B) (Vs [is gs,is gs,is gs,is gl,is (.pointer (some ⟨w.heap.size,1,none⟩)),is (.int .i64 u),is (.pointer (some ⟨w.heap.size,2,none⟩)),is (.int .i64 y),fun g i=>∃a b,g=.tuple #[.slice a e b,.int .i64 o]/\Made i w.heap.size 5 1 a e b (l.map bv),fun g i=>∃a b,g=.tuple #[.slice a e b,.int .i64 o]/\Made i w.heap.size 5 1 a e b (l.map bv),fun g i=>∃a b,g=.slice a e b/\Made i w.heap.size 5 1 a e b (l.map bv),is (.int .i64 o),fun g i=>∃a b,g=.slice a e b/\Made i w.heap.size 5 1 a e b (l.map bv),is (.int .i64 o)]) _ _ rfl kR vR (fun _ _=>VisK.trans) (cM (by repeat' (first | exact gP _ _ | exact iY _ | exact fun _ _ _ ⟨a,b,a3,a4⟩ x=>⟨a,b,a3,x.1.made a4 dC dC⟩|(refine zAe.2 ⟨?_,?_⟩)|(intro u A;cases A)))) ?_ ?_
 · refine aR ?_;refine pH 0 (.pointer (some gs)) ?_;refine pV 0 34 ?_;refine pV 1 35 ?_;refine sC (fun _ f c _ _ _ d _ _ _ j=>?_) ?_
   · have ad:_=_:=d 2 36 kR rfl;replace c:(VB B) m f:=bD c;have a5:=c.1.bk n.out.st.blk dC dC;have K:=a5.cell 0;go_simp;exact j _ _ vR rfl
   refine pH 3 (.pointer (some w.heap.size)) ?_;refine sC (fun _ f c _ _ _ d _ _ _ j=>?_) ?_
   · have af:_=_:=d 4 38 kR rfl;replace c:(VB B) m f:=bD c;have G:=c.1.bk n.out.box dC dC;have K:=G.cell 1;go_simp;exact j _ _ vR rfl
   refine pH 3 (.pointer (some w.heap.size)) ?_;refine sC (fun _ f c _ _ _ d _ _ _ j=>?_) ?_
   · have ah:_=_:=d 6 40 kR rfl;replace c:(VB B) m f:=bD c;have G:=c.1.bk n.out.box dC dC;have K:=G.cell 2;go_simp;exact j _ _ vR rfl
   refine sC (fun _ f c _ _ _ d _ _ _ j=>?_) ?_
   · have ae:_=_:=d 3 37 kR rfl;have ag:_=_:=d 5 39 kR rfl;have ai:_=_:=d 7 41 kR rfl;replace c:(VB B) m f:=bD c;have a8:=c.1.size;go_simp;refine (J.out f c).mono ?_;rintro L ax ⟨a,b,rfl,z,a7⟩;exact j _ _ a7 ⟨a,b,rfl,⟨bV z.own (zAk n.out.low.size a8),z.rd,z.cap,z.max⟩⟩
   refine sC (fun p f _ _ _ _ d _ _ _ j=>?_) ?_
   · have a9:(fun g i=>∃a b,g=.tuple #[.slice a e b,.int .i64 o]/\Made i w.heap.size 5 1 a e b (l.map bv)) (p (.tmp 42)) f:=d 8 42 kR rfl;obtain ⟨a,b,aj,q⟩:=a9;go_simp;exact j _ _ vR ⟨a,b,rfl,q⟩
   refine sC (fun p f _ _ _ _ d _ _ _ j=>?_) ?_
   · have I:(fun g i=>∃a b,g=.tuple #[.slice a e b,.int .i64 o]/\Made i w.heap.size 5 1 a e b (l.map bv)) (p (.tmp 33)) f:=d 9 33 kR rfl;obtain ⟨a,b,a2,q⟩:=I;go_simp;exact j _ _ vR ⟨a,b,rfl,q⟩
   refine sC (fun p f _ _ _ _ d _ _ _ j=>?_) ?_
   · have I:(fun g i=>∃a b,g=.tuple #[.slice a e b,.int .i64 o]/\Made i w.heap.size 5 1 a e b (l.map bv)) (p (.tmp 33)) f:=d 9 33 kR rfl;obtain ⟨a,b,a2,q⟩:=I;go_simp;exact j _ _ vR rfl
   refine sC (fun p f _ _ _ _ d _ _ _ j=>?_) ?_
   · have aa:(fun g i=>∃a b,g=.slice a e b/\Made i w.heap.size 5 1 a e b (l.map bv)) (p (.tmp 43)) f:=d 10 43 kR rfl;obtain ⟨a,b,ak,q⟩:=aa;go_simp;exact j _ _ vR ⟨a,b,rfl,q⟩
   refine pV 11 44 ?_;exact aH
 · intro p S c d;replace c:(VB B) m S:=bD c;have ab:(fun g i=>∃a b,g=.slice a e b/\Made i w.heap.size 5 1 a e b (l.map bv)) (p (.tmp 5)) S:=d 12 5 rfl;have N:p (.tmp 6)=.int .i64 o:=d 13 6 rfl;simp only [zqq];rw [N];clear d;obtain ⟨a,b,M,q⟩:=ab;rw [M];clear M N;have r:=c.1.bk n.out.res dC dC;have O:=(LFS.of_below B gs own n.out.low).trans (LFS.of_vb gs own c);have Q:=n.out.st.vb c.1;have R:∀v,a=some v->own v.block=0:=fun v F=>by subst F;exact n.out.fr _ (q.own.lt (k:=v.block) rfl).1
   have ar:=r.cell 0;have au:=r.cell 1;have av:=r.cell 2;have aw:=r.cell 3;have al:=r.frozen 0;have am:=r.frozen 1;have an:=r.frozen 2;have ao:=r.frozen 3;obtain ⟨Y,W,U,X,V⟩:=hqq5 r Q O R q;clear r Q O c R q J;go_wp2_with fail;exact jY (.inl rfl) rfl Y.out W.out U.out n.out.bs oM n.out.ap a6 rfl V.out (eU _ _ _) X.out (fun v F=>by cases F)
def xR (B:Nat) (own:Nat->Nat) (gs gl most rate:Nat) (t n:List UInt8) (s x:Int) (k:Option Addr) (g m:Nat) (w:World) (p:StAt w B own gs gl most rate t) (C:ArgZ w B own gs k g n) (aA:g<=1000000):
 Calls prog 20 #[gs,fC 6 s x k g m] w (StDone w B own gs most rate t ⟨0,((dL t n).length:Int), [], []⟩):=by
 have q:=DoW.mk' 6 s x k g m p;have a5:n.length=g:=by simpa using C.1.1
 have J:=C.vis q.low;have az:=p.blk.lt;have E:∀b e,VB B ((w.alloc (.cells #[.int .i64 6,.int .i64 s,.int .i64 x,.slice k g m] 58)).alloc (.cells #[.int .i64 0,.int .i64 0,.slice none 0 0,.slice none 0 0] 55)) b->Bk b e 34 #[.slice k g m]->Calls prog 44 #[gl,.slice (some ⟨e,0,none⟩) 1 1] b fun H w'=>H=.returned (.int .i64 ((dL t n).length:Int))/\VB B b w':=fun b e O a6=>by
  have ab:TxtAt b B gl t:=by obtain ⟨ag,gk,ay,aG,ai,aj,aK,aL,ak⟩:=(q.st.vb O.1).tp;exact ⟨ag,ai,aj.lvw,ak⟩
  have a4:=(J.step (LFS.of_vb gs own O)).1;have:=aAJ B gl t (some ⟨e,0,none⟩) 1 1 b.heap.size [(⟨k,g,m,n⟩:Sl)] n (by simp [gE]) b ab (aGJ a6 rfl) (fun aI M=>by simp at M;subst M;exact a4) nL oM oM;rw [<-aDb,pM] at this;exact this
 obtain ⟨z,P⟩:=eqx ((dL t n).length);rw [P] at E⊢;have Z:=q.box.cell 0;obtain ⟨o,S⟩:=hqq2 q E;clear q E p C J a5 P;unfold fC;go_enter func20,ntmps20;go_wp2_with fail;generalize (w.alloc (.cells #[.int .i64 6,.int .i64 s,.int .i64 x,.slice k g m] 58)).alloc (.cells #[.int .i64 0,.int .i64 0,.slice none 0 0,.slice none 0 0] 55)=W at*
 clear Z;refine wp_region_any kR ?_;refine bN B 9 [50,51,52,53,54,55,56,57,58] (fun _=>False) 8 [] (fun _=>True) (fun u _=>u=.agg #[.int .i64 0,(z:Int),.slice none 0 0,.slice none 0 0]) [is gs,is gs,is gs,is gl,is (.pointer (some ⟨w.heap.size,3,none⟩)),is (.slice k g m),fun G F=>∃e,G=.slice (some ⟨e,0,none⟩) 1 1/\Bk F e 34 #[.slice k g m],is (z:Int),dF] _ _ rfl dC kR kR kR (trivial) (fun _ _ _ _ _=>trivial) (fun _ _ _ p _=>p) (by repeat' (first | exact gP _ _ | exact iY _ | exact fun _ _ _ ⟨e,a2,a3⟩ ad=>⟨e,a2,ad.1.bk a3 dC dC (fun c=>c)⟩|(refine zAe.2 ⟨?_,?_⟩)|(intro s aa;cases aa))) ?_ ?_
 · refine bO ?_;refine pH3 0 (.pointer (some gs)) ?_;refine pV3 0 50 ?_;refine pV3 1 51 ?_;refine sC3 (fun _ b a _ _ _ _ d _ _ _ j=>?_) ?_
   · replace a:VFB B (fun _=>False) W b:=fD a;have al:_=_:=d 2 52 kR rfl;have r:=a.to_vb (fun _ _ c=>c);have a8:=r.1.bk o.out.st.blk dC dC;have a0:=a8.cell 0;go_simp;exact j _ _ (aE vR) rfl
   refine pH3 3 (.pointer (some w.heap.size)) ?_;refine sC3 (fun _ b a _ _ _ _ d _ _ _ j=>?_) ?_
   · replace a:VFB B (fun _=>False) W b:=fD a;have an:_=_:=d 4 54 kR rfl;have r:=a.to_vb (fun _ _ c=>c);have a9:=r.1.bk o.out.box dC dC;have a0:=a9.cell 3;go_simp;exact j _ _ (aE vR) rfl
   refine sC3 (fun _ _ _ _ _ _ _ d _ _ _ j=>?_) ?_
   · have ao:_=_:=d 5 55 kR rfl;go_simp;exact j _ _ (aE (vR.alloc _)) ⟨_,rfl,Bk.new _ _ _⟩
   refine sC3 (fun A b a _ _ _ _ d _ _ _ j=>?_) ?_
   · replace a:VFB B (fun _=>False) W b:=fD a;have am:_=_:=d 3 53 kR rfl;have ae:(fun G F=>∃e,G=.slice (some ⟨e,0,none⟩) 1 1/\Bk F e 34 #[.slice k g m]) (A (.tmp 56)) b:=d 6 56 kR rfl;have r:=a.to_vb (fun _ _ c=>c);obtain ⟨a1,aq,a7⟩:=ae;go_simp;refine (S.out b a1 r a7).mono ?_;rintro H aJ ⟨rfl,ac⟩;exact j _ _ (aE ac) rfl
   refine sC3 (fun _ _ _ _ _ _ _ d _ _ _ j=>?_) ?_
   · have ar:_=_:=d 7 57 kR rfl;go_simp;exact j _ _ (iW (VFB.of_vb vR)) rfl
   exact aH
 · intro A y c a d K;replace a:VFB B (fun _=>False) W y:=fD a;have Q:(fun u _=>u=.agg #[.int .i64 0,(z:Int),.slice none 0 0,.slice none 0 0]) (A (.tmp 58)) y:=d 8 58 dC rfl;obtain ⟨ah,R⟩:=K 8 dC;have af:(fun u _=>u=.agg #[.int .i64 0,(z:Int),.slice none 0 0,.slice none 0 0]) ah y:=R;clear R K;simp only [zqq];clear d;have I:=Q;rw [I];have v:=a.to_vb (fun _ _ c=>c);clear af Q I a;have l:=v.1.bk o.out.res dC dC;have N:=o.out.st.vb v.1;have L:=(LFS.of_below B gs own o.out.low).trans (LFS.of_vb gs own v);have aB:=l.cell 0;have aC:=l.cell 1;have aD:=l.cell 2;have aF:=l.cell 3;have au:=l.frozen 0;have av:=l.frozen 1;have aw:=l.frozen 2;have ax:=l.frozen 3;obtain ⟨X,V,U⟩:=hqq3 l N L;clear l N L v;change wpAny prog Region.Mode.any _ _ (1+c) (bY 9 10) _ y;rw [zCs 1 c];refine bS (f:=c) (i:=9) kR ?_;refine cG rfl rfl ?_;generalize j:wpAny prog _ _ _ c _=K5;go_simp;subst j;refine cD kR ?_;go_wp2_with fail;exact jY (.inl rfl) rfl X.out V.out U.out o.out.bs oM o.out.ap rfl rfl (eU _ _ _) (eU _ _ _) (fun Y D=>by cases D) (fun Y D=>by cases D)
def wM (B:Nat) (own:Nat->Nat) (gs gl most rate:Nat) (t l:List UInt8) (A F:Int) (j:Option Addr) (g o:Nat) (w:World) (G:StAt w B own gs gl most rate t) (J:ArgZ w B own gs j g l) (ay:g<=1000000):
 Calls prog 20 #[gs,fC 7 A F j g o] w (StDone w B own gs most rate t ⟨0,((dL t l).length:Int), [],dL t l⟩):=by
 have y:=DoW.mk' 7 A F j g o G;have a9:l.length=g:=by simpa using J.1.1
 have Q:=J.vis y.low;have ax:=G.blk.lt;have C:∀d f,VB B ((w.alloc (.cells #[.int .i64 7,.int .i64 A,.int .i64 F,.slice j g o] 58)).alloc (.cells #[.int .i64 0,.int .i64 0,.slice none 0 0,.slice none 0 0] 55)) d->Bk d f 34 #[.slice j g o]->Calls prog 45 #[gl,.slice (some ⟨f,0,none⟩) 1 1] d fun O w'=>∃a b,O=.returned (.slice a (dL t l).length b)/\Made w' d.heap.size 3 1 a (dL t l).length b ((dL t l).map nv)/\VB B d w':=fun d f X aa=>by have a8:=(Q.step (LFS.of_vb gs own X)).1;have:=aIC B gl rate t (some ⟨f,0,none⟩) 1 1 d.heap.size [(⟨j,g,o,l⟩:Sl)] l (by simp [gE]) d (y.st.vb X.1).tp (aGJ aa rfl) (fun aD U=>by simp at U;subst U;exact a8) nL oM oM;unfold aBa at this;rw [pM] at this;exact this
 obtain ⟨v,R⟩:=eqx (dL t l);rw [R] at C⊢;obtain ⟨q,u⟩:=eqx v.length;rw [u] at C⊢;have a5:=y.box.cell 0;obtain ⟨n,M,a2⟩:=hqq3 y C u;clear y C G J Q a9 R u;unfold fC;go_enter func20,ntmps20;go_wp2_with fail;generalize (w.alloc (.cells #[.int .i64 7,.int .i64 A,.int .i64 F,.slice j g o] 58)).alloc (.cells #[.int .i64 0,.int .i64 0,.slice none 0 0,.slice none 0 0] 55)=W at*
 clear a5;refine wp_region_any kR ?_;refine aX [61,62,63,64,65,66,67,68,7] (VB B) (Vs [is gs,is gs,is gs,is gl,is (.pointer (some ⟨w.heap.size,3,none⟩)),is (.slice j g o),fun L i=>∃f,L=.slice (some ⟨f,0,none⟩) 1 1/\Bk i f 34 #[.slice j g o],fun s i=>∃a b,s=.slice a q b/\Made i w.heap.size 3 1 a q b (v.map nv),fun s i=>∃a b,s=.slice a q b/\Made i w.heap.size 3 1 a q b (v.map nv)]) _ _ rfl kR vR (fun _ _=>VisK.trans) (cM (by repeat' (first | exact gP _ _ | exact iY _ | exact fun _ _ _ ⟨f,H,I⟩ E=>⟨f,H,E.1.bk I dC dC⟩| exact fun _ _ _ ⟨a,b,H,I⟩ E=>⟨a,b,H,E.1.made I dC dC⟩|(refine zAe.2 ⟨?_,?_⟩)|(intro A ae;cases ae)))) ?_ ?_
 · refine aR ?_;refine pH 0 (.pointer (some gs)) ?_;refine pV 0 61 ?_;refine pV 1 62 ?_;refine sC (fun _ d c _ _ _ e _ _ _ p=>?_) ?_
   · have ak:_=_:=e 2 63 kR rfl;replace c:(VB B) W d:=bD c;have ac:=c.1.bk n.out.st.blk dC dC;have a6:=ac.cell 0;go_simp;exact p _ _ vR rfl
   refine pH 3 (.pointer (some w.heap.size)) ?_;refine sC (fun _ d c _ _ _ e _ _ _ p=>?_) ?_
   · have am:_=_:=e 4 65 kR rfl;replace c:(VB B) W d:=bD c;have ad:=c.1.bk n.out.box dC dC;have a6:=ad.cell 3;go_simp;exact p _ _ vR rfl
   refine sC (fun _ _ _ _ _ _ e _ _ _ p=>?_) ?_
   · have an:_=_:=e 5 66 kR rfl;go_simp;exact p _ _ (vR.alloc _) ⟨_,rfl,Bk.new _ _ _⟩
   refine sC (fun x d c _ _ _ e _ _ _ p=>?_) ?_
   · have al:_=_:=e 3 64 kR rfl;have ah:(fun L i=>∃f,L=.slice (some ⟨f,0,none⟩) 1 1/\Bk i f 34 #[.slice j g o]) (x (.tmp 67)) d:=e 6 67 kR rfl;replace c:(VB B) W d:=bD c;obtain ⟨a7,ao,ab⟩:=ah;have ag:=c.1.size;go_simp;refine (M.out d a7 c ab).mono ?_;rintro O aE ⟨a,b,rfl,D,af⟩;exact p _ _ af ⟨a,b,rfl,⟨bV D.own (zAk n.out.low.size ag),D.rd,D.cap,D.max⟩⟩
   refine sC (fun x d _ _ _ _ e _ _ _ p=>?_) ?_
   · have ai:(fun s i=>∃a b,s=.slice a q b/\Made i w.heap.size 3 1 a q b (v.map nv)) (x (.tmp 68)) d:=e 7 68 kR rfl;obtain ⟨a,b,aq,z⟩:=ai;go_simp;exact p _ _ vR ⟨a,b,rfl,z⟩
   exact aH
 · intro x Y c e;replace c:(VB B) W Y:=bD c;have aj:(fun s i=>∃a b,s=.slice a q b/\Made i w.heap.size 3 1 a q b (v.map nv)) (x (.tmp 7)) Y:=e 8 7 rfl;simp only [zqq];clear e;obtain ⟨a,b,P,z⟩:=aj;rw [P];clear P;have m:=c.1.bk n.out.res dC dC;have S:=(LFS.of_below B gs own n.out.low).trans (LFS.of_vb gs own c);have V:=n.out.st.vb c.1;have u:∀r,a=some r->own r.block=0:=fun r K=>by subst K;have:=(z.own.lt (k:=r.block) rfl).1;by_cases N:own r.block=0;exact N;exact absurd (n.out.fr r.block this) N
   have az:=m.cell 0;have aA:=m.cell 1;have aB:=m.cell 2;have aC:=m.cell 3;have ar:=m.frozen 0;have au:=m.frozen 1;have av:=m.frozen 2;have aw:=m.frozen 3;obtain ⟨a4,a1,Z,a3,a0⟩:=hqq5 m V S u z;clear m V S c u z M;go_wp2_with fail;exact jY (.inl rfl) rfl a4.out a1.out Z.out n.out.bs oM n.out.ap rfl a2.out (eU _ _ _) a0.out (fun r K=>by cases K) a3.out
def aFO (B:Nat) (own:Nat->Nat) (gs gl most rate:Nat) (t i p:List UInt8) (x:Told) (l e:Int) (d:Option Addr) (a f:Nat) (w:World) (c:doM t (most:Int) 1 l e i=(p,x)) (n:StAt w B own gs gl most rate t) (u:ArgZ w B own gs d a i) (H:a<=1000000) (C:TabW w) (z:7 < B) (s:p.length<=127):
 Calls prog 20 #[gs,fC 1 l e d a f] w (StDone w B own gs most rate p x):=by
 have A:i.length=a:=by simpa using u.1.1
 have I:∀b,LFS B gs w b own own->TabW b:=fun b j=>C.below (j.below n.size) z;unfold doM at c;rw [zBx rfl] at c;cases o:jV t.length l 0 with
 | false=>
   rw [zBx o] at c;cases c;exact fP B own gs gl most rate t t 1 l e d a f 2 w n (.inl rfl) fun b g j=>(lK B own gs gl most rate _ t 1 l e d a f b g rfl (by simpa [pB] using o)).mono fun y w' ⟨r,m⟩=>⟨r,own,g.vb (Vis.of_below m),LFS.of_below B gs own m⟩
 | true=>
   rw [zBw (by rw [o];decide)] at c;obtain ⟨q,E,rfl,G,F⟩:=pZ o;by_cases v:(most:Int) -(t.length:Int) < (i.length:Int);rw [zBx v] at c;cases c;exact fP B own gs gl most rate t t 1 _ e d a f 3 w n (.inl rfl) fun b g j=>(wL B own gs gl most rate _ t q e d a f b g rfl oM oM).mono fun y w' ⟨r,m⟩=>⟨r,own,g.vb m.1,LFS.of_vb gs own m⟩;rw [zBw v] at c;cases c;rw [zBr] at s⊢;have D:=uS t i (k:=q) oM;exact fP B own gs gl most rate t _ 1 _ e d a f 0 w n (.inl rfl) fun b g j=>xP B own gs gl most rate _ t i q e d a f b g rfl (u.step j) oM oM (by rw [<-A,<-D];exact s)
def aFN (B:Nat) (own:Nat->Nat) (gs gl most rate:Nat) (t l m:List UInt8) (p:Told) (g f:Int) (d:Option Addr) (b e:Nat) (w:World) (c:doM t (most:Int) 2 g f l=(m,p)) (n:StAt w B own gs gl most rate t) (u:ArgZ w B own gs d b l) (E:b<=1000000) (v:TabW w) (o:7 < B) (C:m.length<=127):
 Calls prog 20 #[gs,fC 2 g f d b e] w (StDone w B own gs most rate m p):=by
 have D:l.length=b:=by simpa using u.1.1
 have y:∀a,LFS B gs w a own own->TabW a:=fun a k=>v.below (k.below n.size) o;unfold doM at c;rw [zBw dC] at c;rw [zBx rfl] at c;cases i:jV t.length g f with
 | false=>
   rw [zBx i] at c;cases c;exact fP B own gs gl most rate t t 2 g f d b e 2 w n (.inr (.inl rfl)) fun a j k=>(lK B own gs gl most rate _ t 2 g f d b e a j rfl (by simpa [pB] using i)).mono fun A w' ⟨z,q⟩=>⟨z,own,j.vb (Vis.of_below q),LFS.of_below B gs own q⟩
 | true=>
   rw [zBw (by rw [i];decide)] at c;cases c;obtain ⟨r,s,rfl,rfl,x⟩:=pZ i;rw [zBr,zBr];exact fP B own gs gl most rate t _ 2 _ _ d b e 0 w n (.inr (.inl rfl)) fun a j k=>xQ B own gs gl most rate _ t r s d b e a j (y a k) o rfl x
def aFM (B:Nat) (own:Nat->Nat) (gs gl most rate:Nat) (t f m:List UInt8) (q:Told) (j e:Int) (d:Option Addr) (c g:Nat) (w:World) (a:doM t (most:Int) 3 j e f=(m,q)) (n:StAt w B own gs gl most rate t) (p:ArgZ w B own gs d c f) (F:c<=1000000) (v:TabW w) (o:7 < B) (C:m.length<=127):
 Calls prog 20 #[gs,fC 3 j e d c g] w (StDone w B own gs most rate m q):=by
 have u:f.length=c:=by simpa using p.1.1
 have x:∀b,LFS B gs w b own own->TabW b:=fun b i=>v.below (i.below n.size) o;unfold doM at a;rw [zBw dC] at a;rw [zBw dC] at a;rw [zBw dC] at a;rw [zBx rfl] at a;cases k:jV t.length j (f.length:Int) with
 | false=>
   rw [zBx k] at a;cases a;exact fP B own gs gl most rate t t 3 j e d c g 2 w n (.inr (.inr rfl)) fun b l i=>(lK B own gs gl most rate _ t 3 j e d c g b l rfl (by simpa [pB,u] using k)).mono fun A w' ⟨y,r⟩=>⟨y,own,l.vb (Vis.of_below r),LFS.of_below B gs own r⟩
 | true=>
   rw [zBw (by rw [k];decide)] at a;cases a;obtain ⟨s,z,rfl,E,D⟩:=pZ k;rw [zBr];exact fP B own gs gl most rate t _ 3 _ e d c g 0 w n (.inr (.inr rfl)) fun b l i=>xO B own gs gl most rate _ t f s e d c g b l (x b i) o rfl (p.step i) oM
def aFL (B:Nat) (own:Nat->Nat) (gs gl most rate:Nat) (t j k:List UInt8) (r:Told) (e d:Int) (f:Option Addr) (c m:Nat) (w:World) (b:doM t (most:Int) 5 e d j=(k,r)) (n:StAt w B own gs gl most rate t) (s:ArgZ w B own gs f c j) (E:c<=1000000) (u:TabW w) (q:7 < B) (C:k.length<=127):
 Calls prog 20 #[gs,fC 5 e d f c m] w (StDone w B own gs most rate k r):=by
 have D:j.length=c:=by simpa using s.1.1
 have x:∀a,LFS B gs w a own own->TabW a:=fun a i=>u.below (i.below n.size) q;unfold doM at b;rw [zBw dC] at b;rw [zBw dC] at b;rw [zBx rfl] at b;cases g:jV t.length e d with
 | false=>
   rw [zBx g] at b;cases b;exact qO B own gs gl most rate t e d f c m w n [] 2 0 rfl fun a o i=>(aAR B gl rate _ t e d a o.tp rfl g).mono fun A w' ⟨y,z⟩=>by subst z;exact ⟨none,0,y,eU _ _ _,VisK.refl _ _⟩
 | true=>
   rw [zBw (by rw [g];decide)] at b;cases b;obtain ⟨p,l,rfl,rfl,v⟩:=pZ g;rw [zBr,zBr];exact qO B own gs gl most rate t _ _ f c m w n ((t.drop p).take l) 0 l (by rw [zAj,zAw];omega) fun a o i=>aFS B gl rate t p l a o.tp (x a i) q v
def aFK (B:Nat) (own:Nat->Nat) (gs gl most rate:Nat) (t c e:List UInt8) (m:Told) (i g:Int) (d:Option Addr) (b j:Nat) (w:World) (a:doM t (most:Int) 7 i g c=(e,m)) (k:StAt w B own gs gl most rate t) (l:ArgZ w B own gs d b c) (p:b<=1000000) (o:TabW w) (n:7 < B) (r:e.length<=127):
 Calls prog 20 #[gs,fC 7 i g d b j] w (StDone w B own gs most rate e m):=by
 have s:c.length=b:=by simpa using l.1.1
 have u:∀f,LFS B gs w f own own->TabW f:=fun f q=>o.below (q.below k.size) n;unfold doM at a;rw [zBw dC] at a;rw [zBw dC] at a;rw [zBw dC] at a;rw [zBw dC] at a;rw [zBw dC] at a;rw [zBw dC] at a;rw [zBx rfl] at a;cases a;exact wM B own gs gl most rate t c i g d b j w k l p
def aFJ (B:Nat) (own:Nat->Nat) (gs gl most rate:Nat) (t d e:List UInt8) (l:Told) (i g:Int) (c:Option Addr) (b j:Nat) (w:World) (a:doM t (most:Int) 8 i g d=(e,l)) (k:StAt w B own gs gl most rate t) (n:ArgZ w B own gs c b d) (s:b<=1000000) (o:TabW w) (m:7 < B) (q:e.length<=127):
 Calls prog 20 #[gs,fC 8 i g c b j] w (StDone w B own gs most rate e l):=by
 have r:d.length=b:=by simpa using n.1.1
 have u:∀f,LFS B gs w f own own->TabW f:=fun f p=>o.below (p.below k.size) m;unfold doM at a;rw [zBw dC] at a;rw [zBw dC] at a;rw [zBw dC] at a;rw [zBw dC] at a;rw [zBw dC] at a;rw [zBw dC] at a;rw [zBw dC] at a;rw [zBx rfl] at a;cases a;exact aDS B own gs gl most rate t i g c b j w k
def jG (B:Nat) (own:Nat->Nat) (gs gl most rate:Nat) (t i j:List UInt8) (l:Told) (d f e:Int) (c:Option Addr) (b g:Nat) (w:World) (m:doM t (most:Int) d f e i=(j,l)) (k:StAt w B own gs gl most rate t) (n:ArgZ w B own gs c b i) (o:b<=1000000) (r:TabW w) (q:7 < B) (p:j.length<=127):
 Calls prog 20 #[gs,fC d f e c b g] w (StDone w B own gs most rate j l):=by
 have a:=m;unfold doM at a;by_cases s:d=1;subst s;exact aFO B own gs gl most rate t i j l f e c b g w m k n o r q p;rw [zBw s] at a;by_cases u:d=2;subst u;exact aFN B own gs gl most rate t i j l f e c b g w m k n o r q p;rw [zBw u] at a;by_cases y:d=5;subst y;exact aFL B own gs gl most rate t i j l f e c b g w m k n o r q p;rw [zBw y] at a;by_cases v:d=3;subst v;exact aFM B own gs gl most rate t i j l f e c b g w m k n o r q p;rw [zBw v] at a;by_cases x:d=4;subst x;rw [zBx rfl] at a;cases a;exact aCk B own gs gl most rate _ t f e c b g w k rfl;rw [zBw x] at a;by_cases z:d=6;subst z;rw [zBx rfl] at a;cases a;exact xR B own gs gl most rate t i f e c b g w k n o;rw [zBw z] at a;by_cases A:d=7;subst A;exact aFK B own gs gl most rate t i j l f e c b g w m k n o r q p;rw [zBw A] at a;by_cases C:d=8;subst C;exact aFJ B own gs gl most rate t i j l f e c b g w m k n o r q p;rw [zBw C] at a;cases a;exact aCl B own gs gl most rate t d f e c b g w k fun F D E=>by omega
def aIw (w:World) (B:Nat) (own:Nat->Nat) (gs most rate:Nat) (T:List UInt8) (g l:Int) (i:List UInt8) (m:List Nat) (e f:Nat) (j:Ending) (w':World):Prop:=
 ∃a c b d own' k,j=.returned (.agg #[.int .i64 g,.int .i64 l,.slice a e c,.slice b f d])/\StAt w' B own' gs k most rate T/\LFS B gs w w' own own'/\MadeZ w' own' gs 5 a e c (i.map bv)/\MadeZ w' own' gs 3 b f d (m.map nv)
def StDone.v {w w':World} {B gs most rate:Nat} {own:Nat->Nat} {T:List UInt8} {j o:Int} {e:List UInt8} {i:List Nat} {m n:Nat} {l:Ending} (F:gs < w.heap.size) (u:e.length=m) (x:i.length=n) (z:StDone w B own gs most rate T ⟨j,o,e,i⟩ l w'):aIw w B own gs most rate T j o e i m n l w':=by
 subst u x;obtain ⟨p,r,q,s,own',y,rfl,A,C,b,c,D,E⟩:=z;refine ⟨p,r,q,s,own',y,rfl,A,C,⟨⟨bV b.own (zAp _),b.rd,b.cap,b.max⟩,fun a d=>?_⟩,⟨⟨bV c.own (zAp _),c.rd,c.cap,c.max⟩,fun a d=>?_⟩⟩;have f:=D a d;subst d;have g:=b.own.lt (k:=a.block) rfl;exact ⟨g.2,f,by omega⟩;have f:=E a d;subst d;have g:=c.own.lt (k:=a.block) rfl;exact ⟨g.2,f,by omega⟩
def aHD {w:World} {B gs:Nat} {own:Nat->Nat}:ArgZ w B own gs none 0 []:=⟨Rd.nil _ _ _ _,fun a=>absurd a oM⟩
def Kp (w:World) (own:Nat->Nat) (gs a:Nat) (t:TypeId) (b:Array Value):Prop:=Bk w a t b/\Ap own gs a
def Kp.step {w w':World} {B gs c:Nat} {own own':Nat->Nat} {t:TypeId} {b:Array Value} (a:Kp w own gs c t b) (d:LFS B gs w w' own own') (e:t≠261) (f:t≠201):Kp w' own' gs c t b:=⟨d.bk a.1 a.2.col a.2.ne e f,a.2.step d a.1.lt⟩
def Kp.new {a:World} {B gs gl most rate:Nat} {own:Nat->Nat} {d:List UInt8} (c:StAt a B own gs gl most rate d) (t:TypeId) (b:Array Value):Kp (a.alloc (.cells b t)) own gs a.heap.size t b:=⟨Bk.new a t b,c.fresh nL,by have:=c.blk.lt;omega⟩
def oQ (w:World) (B:Nat) (d:List Nat) (c:Nat) (e:Ending) (w':World):Prop:=∃a b,e=.returned (.slice a c b)/\Made w' w.heap.size 3 1 a c b (d.map sv)/\VB B w w'
def aDR (B:Nat) (own:Nat->Nat) (gs gl most rate a:Nat) (t:List UInt8) (e:List Nat) (w:World) (b:StAt w B own gs gl most rate t) (d:IsSuf (aI t) e) (i:t.length+1=a):
 Calls prog 36 #[gs] w (oQ w B (aF (aI t) e) a):=by
 have u:=b.blk.cell 0;have c:Calls prog 70 #[gl] w (oQ w B (aF (aI t) e) a):=by
  obtain ⟨s,gk,o,r,q,p,y,z,x⟩:=b.tp;obtain rfl:=q.unique d;have f:(aF (aI t) s).length=a:=by rw [bH,d.len,aO,i]
  have:=qX B gl gk o _ rate _ r w p (cX (dR t)) (by rw [f];omega);unfold iE at this;rw [f] at this;exact this
 unfold oQ at c⊢;clear b d i;go_enter func36,ntmps36;go_wp2_with fail;refine c.mono ?_;rintro v w1 ⟨k,n,rfl,g,j⟩;obtain ⟨l,m⟩:=hqq2 g j;clear c g j;go_wp2_with fail;go_ret;exact ⟨k,n,rfl,l.out,m.out⟩
def mL (w:World) (B:Nat) (own:Nat->Nat) (gs most rate:Nat) (a b:List UInt8) (c:Ending) (w':World):Prop:=∃own' d,c=.returned (eJ b)/\StAt w' B own' gs d most rate a/\LFS B gs w w' own own'
def aII (a b c d:Value) (w:World):(Instr.field 55 (.agg #[a,b,c,d]) 0).run prog w=.ok a w:=by kernel_rfl
def aJv (b a c d:Value) (w:World):(Instr.field 55 (.agg #[b,a,c,d]) 1).run prog w=.ok a w:=by kernel_rfl
def aJu (b c d a:Value) (w:World):(Instr.field 55 (.agg #[b,c,d,a]) 3).run prog w=.ok a w:=by kernel_rfl
def lC (w:World) (a:Int):Rd (w.alloc (.cells #[.int .i64 a] 3)) (w.alloc (.cells #[.int .i64 a] 3)).heap.size 1 (some ⟨w.heap.size,0,none⟩) 1 ([a].map zv):=aBm (Bk.new w 3 #[.int .i64 a]) rfl
section
variable {w : World} {B : Nat} {own : Nat -> Nat} {gs gl most rate : Nat} {t : List UInt8}
def StAt.liveLen (c:StAt w B own gs gl most rate t) {a:Nat} (d:t.length=a):Calls prog 35 #[gl] w fun b w'=>b=.returned (.int .i64 (a:Int))/\w=w':=by
 obtain ⟨m,gk,g,l,f,e,j,k,i⟩:=c.tp;exact bL B gl _ a w e.lvw (by rw [bH,f.len,aO,d]) oM
end
def aFZ (ρ:List UInt8->List Nat) (B:Nat) (own:Nat->Nat) (gs gl most rate:Nat) (t a:List UInt8) (w:World) (W:IsSuf (aI t) (ρ t)) (b:StAt w B own gs gl most rate t) (V:oH a) (K:TabD w) (q:7 < B) (u:1 < B) (v:0 < B):
 Calls prog 19 #[gs,.string ⟨a.toArray⟩] w (mL w B own gs most rate t (aAF ρ t a)):=by
 obtain ⟨d,n⟩:=eqx t.length;have a5:d<=127:=by rw [<-n];exact b.n127
 have aa:w.cell? gs=some (.pointer (some gl)):=(b.blk.cell 0).trans rfl;have N:=b.liveLen n;have M:=aDR B own gs gl most rate (d+1) t (ρ t) w b W oM;have O:(aF (aI t) (ρ t)).length=d+1:=by rw [bH,W.len,aO,n]
 have P:∀A∈aF (aI t) (ρ t),A < 257:=cX (dR t);have S:=b.size;obtain ⟨p,G,s,f,a0,Z,a9,a2⟩:=hqq8 b n V K N M O P;clear b n V K N M O P;unfold aAF mL;by_cases D:a= [108,101,110]
 · subst D;rw [zBx rfl];have g:Below w.heap.size w (w.alloc (.cells #[(d:Int)] 3)):=bR.alloc nL _;have e:=dZ (some ⟨w.heap.size,0,none⟩) 1 1 [(d:Int)] _ (lC w (d:Int)) oM (fun X i=>by simp at i;subst i;omega) (f.out.below g f.out.tab.pos f.out.low.2 f.out.low.1);obtain ⟨l,j⟩:=hqq2 e g;clear e g;go_enter func19,ntmps19;go_wp2_with fail;refine a0.out.mono ?_;rintro m w1 ⟨rfl,rfl⟩;go_wp2_with fail;refine l.out.mono ?_;rintro m C ⟨rfl,c⟩;have k:=lhd (j.out.trans (c.mono j.out.size));clear c;go_wp2_with fail;go_ret;exact ⟨own,gl,congrArg (fun a7:Nat=>Ending.returned (eJ (cU [(a7:Int)]))) G.out.symm,p.out.vb (Vis.of_below k.out),LFS.of_below B gs own k.out⟩
 rw [zBw D];have ad:(a== [108,101,110])=false:=by rw [zCb];exact D
 by_cases E:a= [108,97,115,116]
 · subst E;rw [zBx rfl];go_enter func19,ntmps19;go_wp2_with fail;refine Z.out.mono ?_;rintro m w1 ⟨r,J,rfl,Q,z⟩;have o:=VB.to_below z S;have R:Rd w1 w1.heap.size 1 r (d+1) ((lZ (aF (aI t) (ρ t))).map zv):=(by have:=Q.rd;unfold lZ;rw [zCg];exact this);have e:=dZ r (d+1) J (lZ (aF (aI t) (ρ t))) w1 R oM (fun X i=>by
    obtain ⟨A,a6,rfl⟩:=zAy.1 i;have:=a2.out A a6;omega) (f.out.below o q u v)
   obtain ⟨l,H⟩:=hqq2 e z;clear e z o Q R;go_wp2_with fail;refine l.out.mono ?_;rintro m C ⟨rfl,c⟩;have U:VB B w C:=⟨H.out.1.below c,H.out.2.trans (Keep.of_below c)⟩;have I:=lhd U;clear U c;go_wp2_with fail;go_ret;exact ⟨own,gl,rfl,p.out.vb I.out.1,LFS.of_vb gs own I.out⟩
 rw [zBw E];have ae:(a== [108,97,115,116])=false:=by rw [zCb];exact E
 have af:(a== [112,97,105,114,115])=false:=by rw [zCb];exact s.out.1
 have ag:(a== [110,111,100,101,115])=false:=by rw [zCb];exact s.out.2.1
 have ah:(a== [115,97,118,101])=false:=by rw [zCb];exact s.out.2.2
 by_cases F:a= [114,101,108,111,97,100]
 · subst F;rw [zBx rfl];have L:=jG B own gs gl most rate t [] t ⟨0,0, [], []⟩ 8 0 0 none 0 0 w rfl p.out ⟨Rd.nil _ _ _ _,fun b=>absurd b oM⟩ oM f.out.tab q (by rw [G.out];exact a5);have Y:=lhd L;clear L;have ac:=aII;go_enter func19,ntmps19;go_wp2_with fail;refine Y.out.mono ?_;rintro m w1 ⟨r,J,a8,ab,own',a4,rfl,y,x,_,_,_,_⟩;have o:=x.below S;have g:Below w1.heap.size w1 (w1.alloc (.cells #[.int .i64 0] 3)):=bR.alloc nL _;have e:=dZ (some ⟨w1.heap.size,0,none⟩) 1 1 [0] _ (lC w1 0) oM (fun X i=>by simp at i;subst i;omega) ((f.out.below o q u v).below (g.mono y.size) q u v);obtain ⟨l,j,a3,a1⟩:=hqq4 e g y x;clear e g y x o;unfold rN;go_wp2_with fail;refine l.out.mono ?_;rintro m C ⟨rfl,c⟩;have k:=lhd (j.out.trans (c.mono j.out.size));clear c;go_wp2_with fail;go_ret;exact ⟨own',a4,rfl,a3.out.vb (Vis.of_below k.out),a1.out.trans (LFS.of_below B gs own' k.out)⟩
 rw [zBw F];have ai:(a== [114,101,108,111,97,100])=false:=by rw [zCb];exact F
 go_enter func19,ntmps19;go_wp2_with fail;go_ret;exact ⟨own,gl,rfl,p.out,LFS.refl _ _ _ _⟩
def aJa (w:World):∀a:Nat,a < 16->(Instr.index 9 (.string ⟨#[48,49,50,51,52,53,54,55,56,57,97,98,99,100,101,102]⟩) (.int .u8 (a:Int))).run prog w=.ok (.int .u8 ((vC a).toNat:Int)) w
 | 0,_=>by kernel_rfl
 | 1,_=>by kernel_rfl
 | 2,_=>by kernel_rfl
 | 3,_=>by kernel_rfl
 | 4,_=>by kernel_rfl
 | 5,_=>by kernel_rfl
 | 6,_=>by kernel_rfl
 | 7,_=>by kernel_rfl
 | 8,_=>by kernel_rfl
 | 9,_=>by kernel_rfl
 | 10,_=>by kernel_rfl
 | 11,_=>by kernel_rfl
 | 12,_=>by kernel_rfl
 | 13,_=>by kernel_rfl
 | 14,_=>by kernel_rfl
 | 15,_=>by kernel_rfl
 | _+16,h=>absurd h oM
def BldAt (w:World) (B a:Nat) (b:List UInt8):Prop:=Lib.IsBuilder 36 5 B a (Lib.byteCells b) w
def BldAt.new (w:World) {B:Nat} (b:B<=w.heap.size):BldAt (w.alloc (.cells #[.pointer none,.slice none 0 0] 36)) B w.heap.size []:=
 .inl ⟨b,.slice none 0 0,heap_alloc_new w _,World.ownsRow_nil _ _ _ _,by intro a;cases a⟩
def nS (B c:Nat) (a:List UInt8) (b:UInt8) (w:World) (e:BldAt w B c a) (j:a.length<=1000000) (i:B<=w.heap.size):
 Calls prog 49 #[c,.int .u8 (b.toNat:Int)] w fun d w'=>d=.returned .nilIface/\BldAt w' B c (a++ [b])/\Below B w w':=
 (Any.Builder_WriteByte shWrB shWrX B c (Lib.byteCells a) (b.toNat:Int) w e (by rw [Lib.byteCells_length];omega) i).mono (by
  rintro d w' ⟨rfl,f,g⟩;refine ⟨rfl,.inr ?_,g⟩;have d:Lib.byteCells (a++ [b])=Lib.byteCells a++ [Value.int .u8 (b.toNat:Int)]:=by unfold Lib.byteCells;rw [zAz];rfl
  rw [d];exact f)
def oS (B a:Nat) (b:List UInt8) (w:World) (d:BldAt w B a b) (e:B<=w.heap.size):
 Calls prog 12 #[a] w fun c w'=>c=.returned (eJ b)/\Below B w w':=
 Any.Builder_String_any shBSt shBStX B a b w d e
def aHk (T:List UInt8) (most b a:Int):(doM T most 5 b a []).1=T:=by
 unfold doM;simp only [show ((5:Int)=1)=False by simp,show ((5:Int)=2)=False by simp,if_false,if_true];split <;> rfl
def aFm (b:List UInt8) (a:UInt8):rV (b++ [a])=rV b++ [vC (a.toNat / 16)]++ [vC (a.toNat % 16)]:=by
 unfold rV;rw [List.flatMap_append];simp
def vB (a:List UInt8):(rV a).length=2*a.length:=by
 induction a with
 | nil=>rfl
 | cons c a b=>
   unfold rV at b⊢;rw [List.flatMap_cons,zAi,b];simp;omega
def BldAt.below {w w':World} {B a:Nat} {c:List UInt8} (i:BldAt w B a c) (f:Below w.heap.size w w'):BldAt w' B a c:=by
 have g:∀e,Lib.BuilderAt 36 5 B a e (Lib.byteCells c) w->Lib.BuilderAt 36 5 B a e (Lib.byteCells c) w':=by
  rintro e ⟨j,n,d,m,l⟩;have k:a < w.heap.size:=by
   rcases zBe a w.heap.size with b | b;exact b
   · rw [Array.getElem?_eq_none b] at d;cases d
  exact ⟨j,n,(f.block a k).trans d,aQ m f,l⟩
 exact i.elim (fun b=>.inl (g _ b)) (fun b=>.inr (g _ b))
def aEp (a:Nat) (b:a < (⟨#[48,49,50,51,52,53,54,55,56,57,97,98,99,100,101,102]⟩:ByteArray).size):(⟨#[48,49,50,51,52,53,54,55,56,57,97,98,99,100,101,102]⟩:ByteArray)[a]'b=vC a:=by
 have c:a < 16:=b;have:∀a (b:a < 16),(⟨#[48,49,50,51,52,53,54,55,56,57,97,98,99,100,101,102]⟩:ByteArray)[a]'b=vC a:=dC;exact this a c
def aHF (B:Nat) (own:Nat->Nat) (gs gl most rate:Nat) (t:List UInt8) (o y:Nat) (w:World) (q:StAt w B own gs gl most rate t) (bs:o<=1000000) (bA:y<=1000000) (W:TabD w) (ag:7 < B) (b7:1 < B) (b8:0 < B):
 Calls prog 22 #[gs,(o:Int),(y:Int)] w (mL w B own gs most rate t (oW (doM t (most:Int) 5 (o:Int) (y:Int) []).2)):=by
 have b6:=q.n127;have bj:=q.size;obtain ⟨a,E⟩:=eqx ((doM t (most:Int) 5 (o:Int) (y:Int) []).2);have af:doM t (most:Int) 5 (o:Int) (y:Int) []=(t,a):=Prod.ext (aHk _ _ _ _) E;have bg:a.data.length<=127:=by
  rw [<-E];unfold doM;simp only [show ((5:Int)=1)=False by simp,show ((5:Int)=2)=False by simp,if_false,if_true];split
  · simp
  simp only [zAj,zAw];omega
 have aA:-9223372036854775808<=a.code/\a.code<=9223372036854775807:=by rw [<-E];unfold doM;simp only [show ((5:Int)=1)=False by simp,show ((5:Int)=2)=False by simp,if_false,if_true];split <;> simp
 have ar:=jG B own gs gl most rate t [] t a 5 (o:Int) (y:Int) none 0 0 w af q ⟨Rd.nil _ _ _ _,fun q=>absurd q oM⟩ oM W.tab ag b6;rw [E];obtain ⟨bp,Y⟩:=eqx (oW a);rw [Y];obtain ⟨N,ac,a8⟩:=hqq3 Y ar W;clear ar W af E q Y;unfold mL;go_enter func22,ntmps22;go_wp2_with fail;refine ac.out.mono ?_;rintro l w1 ⟨M,U,a7,ae,own',V,rfl,a1,a0,aw,bf,_,_⟩;obtain ⟨j,x⟩:=eqx a.code;obtain ⟨g,K⟩:=eqx a.data.length;obtain ⟨aK,az⟩:=eqx a.places.length;obtain ⟨aJ,ay⟩:=eqx a.num;have ai:=a0.below bj;obtain ⟨d,I⟩:=eqx (w1.alloc (.cells #[.int .i64 j,.int .i64 aJ,.slice M g U,.slice a7 aK ae] 55));have r:Below w1.heap.size w1 d:=by rw [<-I];exact bR.alloc nL _
 have i:Bk d w1.heap.size 55 #[.int .i64 j,.int .i64 aJ,.slice M g U,.slice a7 aK ae]:=by rw [<-I];exact Bk.new _ _ _
 obtain ⟨b,L⟩:=eqx w1.heap.size;have aD:=a1.vb (Vis.of_below r);have au:=a0.trans (LFS.of_below B gs own' r);have ah:=a8.out.below (ai.trans (r.mono a1.size)) ag b7 b8;have aB:=aw.rd.below r;have bl:d.cell? b=some (.int .i64 j):=by rw [<-L];exact (i.cell 0).trans rfl
 have bG:d.cell? ⟨b,2,none⟩=some (.slice M g U):=by rw [<-L];exact (i.cell 2).trans rfl
 have bw:b < d.heap.size:=by rw [<-L];exact i.lt
 have bB:w1.heap.size<=d.heap.size:=r.size;obtain ⟨Q,O,c,aY,G,aV,k⟩:=hqq7 aD au ah aB I L K;unfold rN;rw [x] at aA⊢;rw [K,ay,az];clear a1 a0 aw bf ai r i aD au ah aB I ac a8 ay az;have m:Below d.heap.size d (d.alloc (.cells #[.int .i64 j] 3)):=bR.alloc nL _;have X:d.heap.size=b+1:=by rw [<-G.out,<-aV.out];rw [World.size_alloc]
 have a2:=dZ (some ⟨d.heap.size,0,none⟩) 1 1 [j] _ (lC d j) oM (fun f i=>by simp at i;subst i;exact aA) (c.out.below m c.out.tab.pos c.out.low.2 c.out.low.1);rw [X] at a2;obtain ⟨S,H,z⟩:=hqq3 a2 m X;clear a2 m X;by_cases v:j=0
 · subst v;have p:cU [0]= [48]:=(by kernel_rfl);have aC:oW a=if a.data= [] then [48,32,110,111,110,101] else [48,32]++rV a.data:=(by unfold oW;rw [x,zBw (by simp),p];rfl);rw [p] at S;obtain ⟨ad,bo⟩:=hqq2 aC x;clear x K aC p;rcases zBa g with ap | ap
   · subst ap;have ax:a.data= []:=zBk k.out;have aX:=lhd ax;clear ax;go_wp2_with fail;rw [G.out];go_wp2_with fail;refine S.out.mono ?_;rintro l bm ⟨rfl,C⟩;have A:=lhd (H.out.trans (C.mono H.out.size));clear C;go_wp2_with fail;go_ret;exact ⟨own',V,by rw [<-N.out,ad.out,zBx aX.out];kernel_rfl,Q.out.vb (Vis.of_below A.out),O.out.trans (LFS.of_below B gs own' A.out)⟩
   · have bv:g<=127:=(by rw [<-k.out];exact bg);have aq:a.data≠ []:=fun l=>by have:=k.out;rw [l] at this;simp at this;omega
     have aU:=lhd aq;clear aq;have bq:((g:Int)==0)=false:=(by rw [zCb];omega);go_wp2_with fail;rw [G.out];go_wp2_with fail;obtain ⟨aN,a3⟩:=eqx (d.alloc (.cells #[.pointer none,.slice none 0 0] 36));have bb:BldAt aN (b+1) (b+1) []:=(by rw [<-a3,<-z.out];exact BldAt.new d nL);have b9:Below (b+1) d aN:=(by rw [<-a3];exact bR.alloc (by rw [z.out];omega) _);rw [a3];go_loopw [38] (fun a6 wr=>∃e:Nat,e<=g/\a6=.int .i64 (e:Int)/\BldAt wr (b+1) (b+1) (rV (a.data.take e))/\Below (b+1) d wr) (fun a6 _=>g -(intOf a6).toNat)
     case atStart=>exact ⟨0,by omega,rfl,bb,b9⟩
     case round=>
        obtain ⟨e,bx,rfl,u,n⟩:=hrel;have F:b+1<=wr.heap.size:=(by have:=n.size;rw [z.out] at this;exact this);by_cases be:e < g
        · obtain ⟨b5,bk,rfl,bt,v⟩:=((aY.out.mono oM).below n).2 (by rw [k.out];omega);obtain ⟨f,a5⟩:∃f,a.data[e]?=some f:=⟨_,zAa (by rw [k.out];exact be)⟩;have br:wr.cell? ⟨b5,bk+e,none⟩=some (.int .u8 (f.toNat:Int)):=v e _ (by rw [zAf,a5];rfl);have bc:=k.out;have bD:f.toNat < 256:=f.toBitVec.isLt;have av:(rV (a.data.take e)).length=2*e:=(by rw [vB,zAj];omega);have aH:=nS (b+1) (b+1) _ (vC (f.toNat / 16)) wr u oM F;have bC:=aJa wr (f.toNat / 16) oM;have bE:(e:Int) < (g:Int):=oM;have aF:rV (a.data.take (e+1))=rV (a.data.take e)++ [vC (f.toNat / 16)]++ [vC (f.toNat % 16)]:=(by rw [zAv,a5];exact aFm _ _);obtain ⟨b2,aO,b0,aW,R⟩:=hqq5 aH n aF av F;clear aH n u aF av a5 v F bc;go_wp2_with fail;rw [aEp];refine b2.out.mono ?_;rintro l bn ⟨rfl,am,Z⟩;have bh:=Z.size;have aI:=nS (b+1) (b+1) _ (vC (f.toNat % 16)) bn am (by rw [zAi,aW.out,List.length_singleton];have:=k.out;omega) (zAk R.out bh);obtain ⟨b3,aP⟩:=hqq2 aI Z;clear aI Z am;go_wp2_with fail;rw [aEp];refine b3.out.mono ?_;rintro l bH ⟨rfl,an,aj⟩;have D:=(aO.out.trans aP.out).trans aj;obtain ⟨aT,aQ⟩:=hqq2 an D;clear an D aj;go_wp2_with fail;go_roundw
          case rel=>exact ⟨e+1,by omega,by go_num,by rw [b0.out];exact aT.out,aQ.out⟩
          case measure=>simp [intOf];omega
        · have bd:e=g:=oM;subst bd;rw [zAg (by rw [k.out];exact zAs _)] at u;have bF:wr.cell? b=some (.int .i64 0):=(n.cell (by show b < b+1;omega)).trans bl;have s:Below d.heap.size d wr:=(by rw [z.out];exact n);have m:Below wr.heap.size wr (wr.alloc (.cells #[.int .i64 0] 3)):=bR.alloc nL _;have a4:=dZ (some ⟨wr.heap.size,0,none⟩) 1 1 [0] _ (lC wr 0) oM (fun f i=>by simp at i;subst i;omega) ((c.out.below s c.out.tab.pos c.out.low.2 c.out.low.1).below m (c.out.below s c.out.tab.pos c.out.low.2 c.out.low.1).tab.pos (c.out.below s c.out.tab.pos c.out.low.2 c.out.low.1).low.2 (c.out.below s c.out.tab.pos c.out.low.2 c.out.low.1).low.1);have p:cU [0]= [48]:=(by kernel_rfl);rw [p] at a4;have ba:=u;obtain ⟨b4,aS,ab,a9,R⟩:=hqq5 a4 u s m F;clear a4 u n s m p ba F;go_wp2_with fail;refine b4.out.mono ?_;rintro l aL ⟨rfl,D⟩;have J:=a9.out.trans (D.mono a9.out.size);have ao:=BldAt.below aS.out J;have bi:b+1<=aL.heap.size:=zAk R.out J.size;have aE:=oS (b+1) (b+1) _ aL ao bi;obtain ⟨aZ,aR⟩:=hqq2 aE (ab.out.trans (J.mono ab.out.size));clear aE ao J D;go_wp2_with fail;refine aZ.out.mono ?_;rintro l aM ⟨rfl,ak⟩;have al:Below d.heap.size d aM:=aR.out.trans (by rw [z.out];exact ak);have bz:(rV a.data).length<=8388608:=(by rw [vB];omega);have bu:=run_string_add_lists (P:=prog) aM [48,32] (rV a.data) dC oM;have aa:=lhd al;clear al ak;go_wp2_with fail;go_ret;exact ⟨own',V,by rw [<-N.out,ad.out,zBw aU.out];kernel_rfl,Q.out.vb (Vis.of_below aa.out),O.out.trans (LFS.of_below B gs own' aa.out)⟩
 · have aG:oW a=cU [j]:=(by unfold oW;rw [x,zBx v]);have k0:(j==0)=false:=(by rw [zCb];exact v);have b1:=lhd aG;clear x aG K;go_wp2_with fail;rw [G.out];go_wp2_with fail;refine S.out.mono ?_;rintro l bm ⟨rfl,C⟩;have A:=lhd (H.out.trans (C.mono H.out.size));clear C;go_wp2_with fail;go_ret;exact ⟨own',V,by rw [<-N.out,b1.out];kernel_rfl,Q.out.vb (Vis.of_below A.out),O.out.trans (LFS.of_below B gs own' A.out)⟩
def aBQ {c:Nat} {b a:Int} (e:¬jV c b a=false):0<=b/\0<=a/\b+a<=(c:Int):=by
 cases d:jV c b a with
 | false=>exact absurd d e
 | true=>
   obtain ⟨f,g,rfl,rfl,i⟩:=pZ d;omega
def rY (T i:List UInt8) (most:Nat) (b k j:Int) (a:T.length<=most):(doM T (most:Int) b k j i).1.length<=most:=by
 unfold doM;by_cases d:b=1
 · rw [zBx d];split;exact a
   · split;exact a
     · rename_i c l
       have:=aBQ c;simp only [zAi,zAj,zAw];omega
 rw [zBw d];by_cases e:b=2;rw [zBx e];split;exact a;simp only [zAi,zAj,zAw];omega;rw [zBw e];by_cases g:b=5
 · rw [zBx g];split <;> exact a
 rw [zBw g];by_cases f:b=3
 · rw [zBx f];split;exact a
   · rename_i c
     have:=aBQ c;simp only [zAi,zAj,zAw];omega
 rw [zBw f];split;exact a;split;exact a;split;exact a;split;exact a;exact a
def nH (T a:List UInt8) (most c d b:Int):0<=(doM T most c d b a).2.code/\(doM T most c d b a).2.code<=3:=by
 unfold doM
 repeat' split
 all_goals exact ⟨by simp,by simp⟩
def rW (t a:List UInt8):(dL t a).length<=t.length+1:=by
 unfold dL mB;have:=zCu (fun b=>a.isPrefixOf (t.drop b)) (List.range (t.length+1 - a.length));rw [zCh] at this;omega
def vF (t c:List UInt8):∀b∈dL t c,b<=t.length:=by
 intro b a;unfold dL mB at a;have:=zCi.1 (zCv.1 a).1;omega
def aIl (t a:List UInt8) (most c b:Int):doM t most 6 c b a=(t,⟨0,((dL t a).length:Int), [], []⟩):=by
 unfold doM;simp
def aFw (t a:List UInt8) (most c b:Int):doM t most 7 c b a=(t,⟨0,((dL t a).length:Int), [],dL t a⟩):=by
 unfold doM;simp
def tR {w:World} {B gs gl most rate:Nat} {own:Nat->Nat} {t:List UInt8} (k:StAt w B own gs gl most rate t) (a:List UInt8):∃g l d,a.length=g/\(convert 9 34 (.string ⟨a.toArray⟩)).run prog w=.ok (.slice (some w.heap.size) g l) d/\Below w.heap.size w d/\ArgZ d B own gs (some ⟨w.heap.size,0,none⟩) g a:=by
 refine ⟨a.length,_,_,rfl,run_bytes_of_string (P:=prog) w 9 34 5 ⟨a.toArray⟩ underlying9 underlying34 underlying5,?_,?_⟩;exact (bR.drew).alloc nL _
 · refine ⟨?_,fun _ o e=>?_⟩
   · refine ⟨by simp,fun q=>⟨w.heap.size,0,rfl,by simp,fun f r b=>?_⟩⟩;have m:=fun i j=>cell_of_row (w.drew.alloc (.cells (bytesRow ⟨a.toArray⟩ i) 5 j)) w.heap.size f (bytesRow ⟨a.toArray⟩ i) 5 j (heap_alloc_new w.drew _);rw [zBi,m];unfold bytesRow;rw [zAf] at b;cases c:a[f]? with
     | none=>rw [c] at b;cases b
     | some p=>
       rw [c] at b;injection b with b;subst b;have n:f < a.length:=(zAc.1 c).1;rw [Array.getElem?_append_left (by simpa using n)];simp [c,bv]
   · injection e with e;subst e;refine .inr ⟨⟨k.fresh nL,by have:=k.blk.lt;show w.heap.size≠gs;omega⟩,_,_,heap_alloc_new w.drew _⟩
end Go.Proofs.YtcfpmjbojoidoaaGreatDoor
