/- Lemmas of the walk. Conditions: each its own. -/
import Derived.Test.YtcoooelofcejbaaGreatDoorPd11
import Derived.Test.YtcoooelofcejbaaGreatDoorPd12
import Derived.Test.YtcoooelofcejbaaGreatDoorProg
import Derived.Test.YtcoooelofcejbaaGreatDoorShl
set_option linter.all false
set_option maxRecDepth 100000
set_option maxHeartbeats 4000000
open Go.Proofs.Tryz
namespace Go.Proofs.YtcoooelofcejbaaGreatDoor
section
open Go.RowKit
def bE (a:List Nat) (b:Nat):Nat:=a.getD ((b+a.length - 1)% a.length) 0
def aD (a b:List Nat):List Nat:=b.map (bE a)
def bF (b a:List Nat):(aD b a).length=a.length:=by simp [aD]
def aHI {a:List Nat} (d:∀e∈a,e < 257) (b:Nat):bE a b < 257:=by
 unfold bE;rw [zAb];cases c:a[(b+a.length - 1)% a.length]? with
 | none=>simp
 | some f=>simpa using d f (zAd c)
def cL {b rs:List Nat} (c:∀a∈b,a < 257):∀a∈aD b rs,a < 257:=by
 intro a d;obtain ⟨e,_,rfl⟩:=zAy.1 d;exact aHI c e
def aFT (a:Nat) (i:a<=1000000) (b:World):(Instr.makeSlice 48 (.int .i64 0) (.int .i64 (a:Int))).run prog b=.ok (.slice (some b.heap.size) 0 a) (b.alloc (.cells (madeCells #[.int .i64 0] a) 3)):=by
 obtain ⟨g,c,d,e,f⟩:=info_parts iD;have:=run_make (P:=prog) b 48 3 g (.int .i64 0) underlying48 c d .i64 .i64 0 a oM oM (by rw [f];omega) oM;rw [this,e];simp only [Value.cells,zBr,zBl];rfl
def aCg {a c:World} {k j:Nat} {b:Option Addr} {l:List Value} {row:Option Nat} (f:Rd a a.heap.size k b j l) (i:a.grownBy c row) (n:∀d,b=some d->row≠some d.block):Rd c c.heap.size k b j l:=by
 refine ⟨f.1,fun p=>?_⟩;obtain ⟨e,s,rfl,g,o⟩:=f.2 p;refine ⟨e,s,rfl,zAl g i.size,fun r t q=>?_⟩;rw [World.cell?_of_block (w:=a) (i.block e g (fun m=>n _ rfl m.symm))];exact o r t q
def Apt (c:Value) (b:Option Addr):Prop:=∀a,b=some a->c.ownBlock≠some a.block
def Apt.next {i e:Value} {c:Option Addr} {f:Nat} (j:Apt i c) (l:e.ownBlock=i.ownBlock∨e.ownBlock=some f) (k:∀a,c=some a->a.block < f):Apt e c:=by
 intro a g b;rcases l with d | d;exact j a g (d.symm.trans b);rw [d] at b;injection b with b;have:=k a g;omega
def nM {A:Option Addr} {m:Nat} (o:Nat) {B:Nat} {t:List UInt8} {w:World} (S:Rd w B 1 A m (t.map bv)) (a9:B<=w.heap.size) (b2:m<=127):
 Calls prog 60 #[.slice A m o] w fun J aq=>∃g j k,IsSuf (aF t) g/\J=.returned (.slice j (m+1) k)/\Made aq w.heap.size 3 1 j (m+1) k ((aD (aF t) g).map sv)/\Below w.heap.size w aq:=by
 obtain ⟨b9,aY,b6,b7,b8⟩:=info_parts iD;have ao:t.length=m:=by simpa using S.1
 obtain ⟨a7,aH⟩:=hqq2 S ao;clear S ao;go_enter func60,ntmps60;go_wp2_with fail;obtain ⟨a,y⟩:=eqx (m+1);have U:=xM (gs:=w.heap.size) (A:=A) (m:=m) (c:=o) (B:=w.heap.size) (t:=t) (w:=(w.alloc (.cells #[.slice A m o] 34))) 0 (Bk.new _ _ _) ((a7.out.mono a9).alloc nL _) (by simp) oM;have T:=fun a8 (l:Below w.heap.size w a8)=>nK (A:=A) (m:=m) (B:=w.heap.size) (t:=t) (w:=a8) o ((a7.out.mono a9).below l) l.size b2;simp only [y] at U T;have bi:a<=128:=oM;have bh:1<=a:=oM;have ag:(aF t).length=a:=by rw [aK,aH.out,y]
 obtain ⟨a0,F,a1⟩:=hqq3 y ag T;clear y ag T;refine U.mono ?_;clear U;rintro J w1 ⟨D,be,rfl,ai,ad⟩;have ae:=((Below.refl w.heap.size w).alloc nL _).trans (ad.mono (by simp));have ba:=aFT a oM;obtain ⟨G,u⟩:=hqq2 ai ae;clear ai ad ae;go_wp2_with fail;clear ba;have q:=u.out.alloc u.out.size (.cells (madeCells #[.int .i64 0] a) 3);have N:=G.out.below (bR.alloc nL (.cells (madeCells #[.int .i64 0] a) 3));have f:(w1.alloc (.cells (madeCells #[.int .i64 0] a) 3)).ownsRow w.heap.size 3 1 (.slice (some w1.heap.size) 0 a) 0 []:=World.ownsRow_made _ _ _ u.out.size (by unfold maxLen;omega) (by simp [madeCells]);obtain ⟨p,L⟩:=eqx w1.heap.size;have aX:p < (w1.alloc (.cells (madeCells #[.int .i64 0] a) 3)).heap.size:=by rw [<-L];simp
 have aa:Apt (.slice (some p) 0 a) D:=by
  intro b d l;obtain ⟨au,aL,i,_,K⟩:=aQ G.out.own;injection i with i;have:=(K b (i.symm.trans d)).2;have aO:p=b.block:=by simpa [Value.ownBlock] using l
  omega
 have av:=lhd aa;clear aa;rw [L] at f⊢;generalize w1.alloc (.cells (madeCells #[.int .i64 0] a) 3)=W2 at q N f aX⊢;obtain ⟨a3,a2⟩:=hqq2 f N;clear f N G u L;refine (a1.out W2 q).mono ?_;rintro J bq ⟨g,E,bf,am,rfl,O,v⟩;have af:=q.trans (v.mono q.size);have ak:=aM a3.out v;have aj:=a2.out.below v;have ab:Apt (.slice (some p) 0 a) E:=by
  intro b d l;obtain ⟨au,aL,i,_,K⟩:=aQ O.own;injection i with i;have:=(K b (i.symm.trans d)).1;have aO:p=b.block:=by simpa [Value.ownBlock] using l
  omega
 have aw:=lhd ab;clear ab;obtain ⟨H,aA,az,aB,ax⟩:=hqq5 am O.rd aj.rd ak af;clear am O aj ak af v q a3 a2 a1;go_wp2_with fail;go_loopw [4,6,16] (fun Z _ X wr=>∃e:Nat,e<=a/\X=.int .i64 e/\wr.ownsRow w.heap.size 3 1 Z e ((aD (aF t) (g.take e)).map sv)/\Below w.heap.size w wr/\Apt Z D/\Apt Z E/\Rd wr wr.heap.size 1 D a ((aF t).map sv)/\Rd wr wr.heap.size 1 E a (g.map sv)) (fun _ _ X _=>a -(intOf X).toNat)
 case atStart=>exact ⟨0,by omega,rfl,aB.out,ax.out,av.out,aw.out,az.out,aA.out⟩
 case round=>
  obtain ⟨e,bg,rfl,f,x,Q,R,z,C⟩:=hrel;by_cases b1:e < a
  · obtain ⟨aI,bb,bm,rfl,aP,V,aU⟩:=C.get b1;rw [zAf] at V;obtain ⟨s,P,rfl⟩:=Option.map_eq_some_iff.1 V;have bj:s < a:=(by have:=H.out.lt (zAd P);rw [F.out] at this;exact this);obtain ⟨Y,r⟩:=eqx ((s+a - 1)% a);have b5:Y < a:=(by rw [<-r];exact Nat.mod_lt _ oM);obtain ⟨aJ,bc,bn,rfl,aS,W,aV⟩:=z.get b5;rw [zAf] at W;obtain ⟨ar,ap,rfl⟩:=Option.map_eq_some_iff.1 W;have al:bE (aF t) s=ar:=(by unfold bE;rw [F.out,r,zAb,ap];rfl);have an:aD (aF t) (g.take (e+1))=aD (aF t) (g.take e)++ [ar]:=(by rw [zAv,P,aD,zAz,<-al];rfl);unfold sv at aU aV;have b4:((s:Int)+(a:Int) - 1)%(a:Int)=(Y:Int):=(by rw [<-r,Int.natCast_emod];congr 1;omega);have bk:((s:Int)+(a:Int) - 1).tmod (a:Int)=(Y:Int):=(by rw [Int.tmod_eq_emod_of_nonneg oM];exact b4);obtain ⟨aG,a4,a5,a6,n,aC,aE,bd⟩:=hqq8 an f Q R x z C r;clear V W ap al an f x Q R z C r P;go_wp2_with (at_builtin;refine bP _ rfl (.tmp 20) (.tmp 32) _ rfl w.heap.size 3 b9 (.int .i64 0) 1 8 underlying48 aY b6 b7 b8 rfl dC _ e _ rfl a4.out rfl rfl (by simp [Value.oneCell']) (by unfold maxLen;omega) oM n.out.size ?_;intro bo bp b3 M bl ac);have aT:=bC n.out a4.out M n.out.size;have aZ:∀b,some (⟨aJ,bc,none⟩:Addr)=some b->b.block < _:=fun b d=>by injection d with d;subst d;exact aS
    have b0:∀b,some (⟨aI,bb,none⟩:Addr)=some b->b.block < _:=fun b d=>by injection d with d;subst d;exact aP
    go_roundw
    case rel=>refine ⟨e+1,by omega,by go_num,?_,aT,a5.out.next ac (fun b d=>Nat.lt_succ_of_lt (aZ b d)),a6.out.next ac (fun b d=>Nat.lt_succ_of_lt (b0 b d)),aCg aC.out M a5.out,aCg aE.out M a6.out⟩;rw [aG.out,zAz];exact b3
    case measure=>simp [intOf];omega
  · obtain rfl:a=e:=oM;rw [zAg (by rw [H.out.len,F.out];omega)] at f;obtain ⟨j,k,rfl,ah⟩:=aR f;obtain ⟨ay,n⟩:=hqq2 ah x;clear f ah x Q R z C;go_wp2_with fail;go_ret;have aW:∀I,Made wr w.heap.size 3 1 j a k I->Made wr w.heap.size 3 1 j (m+1) k I:=fun I aN=>by rw [a0.out];exact aN
    exact ⟨g,j,k,H.out,by rw [a0.out];rfl,aW _ ay.out,n.out⟩
end
section
open Go.RowKit Go.Shelf
open Go.Sort (Holds)
def iK (b:Nat->Bool):List Nat->Nat->Int
 | [],_=>-1
 | k::l,a=>if b k then (a:Int) else iK b l (a+1)
def jY {p:Nat->Bool} {l:List Nat} (b:∀a∈l,p a=false) (c:Nat):iK p l c=-1:=by
 induction l generalizing c with
 | nil=>rfl
 | cons a l e=>
   unfold iK;rw [zBw (by rw [b a (by simp)];simp)];exact e (fun a d=>b a (by simp [d])) _
def tU {p:Nat->Bool} {l:List Nat} (b:∃a∈l,p a=true) (d:Nat):∃(e a:Nat),iK p l d=((d+e:Nat):Int)/\l[e]?=some a/\p a=true:=by
 induction l generalizing d with
 | nil=>obtain ⟨a,f,_⟩:=b;cases f
 | cons i l o=>
   unfold iK;by_cases c:p i=true;rw [zBx c];exact ⟨0,i,rfl,rfl,c⟩;rw [zBw c];obtain ⟨a,f,g⟩:=b;have n:a∈l:=(by rcases List.mem_cons.1 f with rfl | b;exact absurd g c;exact b);obtain ⟨e,q,j,k,m⟩:=o ⟨a,n,g⟩ (d+1);exact ⟨e+1,q,by rw [j];congr 1;omega,by simpa using k,m⟩
def aGc {b:Nat} {c:List Nat} (e:∀a∈c,a < b+1) (f:Nat->Bool) (g:Fin (b+1)) (d:Nat):Lib.idxByFrom (fun (_ k:Fin (b+1))=>f k.val) g ((c.map fun a=>(⟨a %(b+1),Nat.mod_lt _ (Nat.succ_pos b)⟩:Fin (b+1)))) d=iK f c d:=by
 induction c generalizing d with
 | nil=>rfl
 | cons a l j=>
   rw [List.map_cons];unfold Lib.idxByFrom iK;simp only [zBu (e a (by simp))];rw [j (fun a i=>e a (by simp [i]))]
def iI {B gp ga:Nat} {vl vo vt vf:Value} {R P:Nat} {ks:List Nat} {C:List (Nat×Nat)} {tk:List Bool} {fr:List Nat} (e:Nat) {w:World} (f:PermAt w B gp ga vl vo vt vf R P ks C tk fr) (F:ks.length<=1099511627776):
 Calls prog 68 #[gp,(e:Int)] w fun b k=>b=.returned (.int .i64 (iK (fun a=>decide (aJ C a=e)) ks 0))/\Below w.heap.size w k:=by
 have a4:=f.blk.lt;have K:w.cell? ⟨gp,2,none⟩=some vo:=(f.blk.cell 2).trans rfl;obtain ⟨g,o⟩:∃g,g=(w.alloc (.cells #[gp] 72)).alloc (.cells #[(e:Int)] 3):=⟨_,rfl⟩;have d:Below w.heap.size w g:=o ▸(bR.alloc nL _).alloc (by simp) _;have r:Bk g w.heap.size 72 #[gp]:=o ▸(Bk.new _ _ _).alloc _;have s:Bk g (w.heap.size+1) 3 #[(e:Int)]:=by have:=Bk.new (w.alloc (.cells #[gp] 72)) 3 #[(e:Int)];rw [<-o] at this;simpa using this
 have A:∀l p j,vo=.slice l p j->Calls prog 112 #[.slice l p j,.func (.func 113) #[] #[w.heap.size,.pointer (some ⟨w.heap.size+1,0,none⟩)]] g fun b k=>b=.returned (.int .i64 (iK (fun a=>decide (aJ C a=e)) ks 0))/\Below w.heap.size w k:=by
  intro l p j v;rcases zBa ks.length with n | n;have X:ks= []:=zBk n;obtain ⟨a0,a1,m,_⟩:=aQ f.orow;rw [v] at m;injection m with _ m _;rw [n] at m;subst m;subst X;refine (AnyE.slices_IndexFunc_empty shIdx l j (.func (.func 113) #[] #[w.heap.size,.pointer (some ⟨w.heap.size+1,0,none⟩)]) _).mono ?_;rintro b k ⟨rfl,rfl⟩;exact ⟨rfl,d⟩
  · rcases f.orow.2 with ⟨_,b⟩|⟨x,a2,L,b,a3,T,a6,a5,a7,H⟩;omega
    · rw [v] at b;injection b with e1 e2 e3;subst e1 e2 e3;rw [zBl] at H;obtain ⟨k0,W⟩:∃a,a∈ks:=(by obtain ⟨i,Y⟩:=List.exists_mem_of_length_pos n;exact ⟨i,Y⟩);obtain ⟨c,D⟩:∃c,C.length=c+1:=⟨C.length - 1,by have:=f.lt k0 W;omega⟩;have G:∀a∈ks,a < c+1:=fun a F=>by rw [<-D];exact f.lt a F
      have E:Bk w x 3 L:=T;have U:=E.below d E.lt;have N:=pM U G H;have u:PredAt prog 113 #[w.heap.size,.pointer (some ⟨w.heap.size+1,0,none⟩)] (eM c) (fun i=>decide (aJ C i.val=e)) g:=(by intro J i q;have Q:=r.below q r.lt;have S:=s.below q s.lt;obtain ⟨l,p,j,b,u⟩:=f.prd (w':=J) (Q.cell 0) (d.trans (q.mono d.size));exact aBB i.val u (S.cell 0) (by rw [D];exact i.isLt));have a8:ks.length=(ks.map fun a=>(⟨a %(c+1),Nat.mod_lt _ (Nat.succ_pos c)⟩:Fin (c+1))).length:=(by simp);have y:=AnyE.slices_IndexFunc shIdx (eM c) (fun i=>decide (aJ C i.val=e)) 113 #[w.heap.size,.pointer (some ⟨w.heap.size+1,0,none⟩)] (enters_of func113 kR rfl) x 0 ks.length j (ks.map fun a=>(⟨a %(c+1),Nat.mod_lt _ (Nat.succ_pos c)⟩:Fin (c+1))) g u (by simp) oM (fun Z V=>by
       have M:=(N Z (by simpa [fA] using V)).1;simpa [fA] using M)
      rw [zAg (by simp),Lib.idxBy,aGc G (fun a=>decide (aJ C a=e))] at y;refine y.mono ?_;rintro b k ⟨rfl,a9,rfl⟩;exact ⟨rfl,d.os,d.tape,d.output,d.size,d.block⟩
 obtain ⟨l,j,b,_⟩:=aQ f.orow;have z:=A _ _ _ b;rw [b] at K;obtain ⟨I,t⟩:∃I,iK (fun a=>decide (aJ C a=e)) ks 0=I:=⟨_,rfl⟩;rw [t] at z;rw [t];subst o;clear A f t d b r s;go_enter func68,ntmps68;go_wp2_with fail;refine z.mono ?_;rintro b k ⟨rfl,O⟩;go_wp2_with fail;go_ret;exact ⟨rfl,O⟩
end
section
open Go.RowKit
def sY:(prog.info? 112).map (fun a=>(a.zero,a.size,a.bytes))=some (some (.agg #[.int .i64 0,.int .i64 0]),2,16):=by kernel_rfl
def PF (c b:Nat) (d e f:Value) (a:Nat):Prop:=a=c∨a=b∨d.ownBlock=some a∨e.ownBlock=some a∨f.ownBlock=some a
def jT (a:List (Nat×Nat)) (b:Nat×Nat):bG (a++ [b])=bG a++mK b:=by simp [bG]
def PermAt.below {c q:World} {B j i:Nat} {n o p m:Value} {f e:Nat} {k:List Nat} {d:List (Nat×Nat)} {l:List Bool} {g:List Nat} (a:PermAt c B j i n o p m f e k d l g) (b:Below c.heap.size c q):PermAt q B j i n o p m f e k d l g:=
 ⟨a.blk.below b a.blk.lt,aM a.lrow b,aM a.orow b,a.ar.below b a.ar.lt,aM a.trow b,aM a.frow b,a.apart,a.lt,a.lo⟩
def fT {f:Nat->Prop} {d l:World} {e:Nat} {c:TypeId} {j i:Nat} {k:Value} {m:List Value} (o:d.ownsRow e c j k i m) (q:Keep f d l) (p:∀a b,f a->Bk d a c b->False):l.ownsRow e c j k i m:=
 aA o fun a b _ g=>q.bk g (fun n=>p a b n g)
def aHO {w:World} {B g cap:Nat} {C:List (Nat×Nat)} {y:Nat×Nat} (l:w.ownsRow B 112 2 (.slice (some g) (C.length+1) cap) (C.length+1) (bG (C++ [y]))) (a:Nat×Nat):
 ((w.setCell ⟨g,C.length*2,none⟩ (.int .i64 (a.1:Int))).setCell ⟨g,C.length*2+1,none⟩ (.int .i64 (a.2:Int))).ownsRow B 112 2 (.slice (some g) (C.length+1) cap) (C.length+1) (bG (C++ [a])):=by
 rcases l.2 with ⟨c,_⟩|⟨x,v,k,c,m,n,o,p,q,e⟩
 · cases c
 · injection c with h8 h9 h10;injection h8 with h8;injection h8 with h8 _;subst h8 h10;have r:Bk w g 112 k:=n;have s:=(r.set (C.length*2) (.int .i64 (a.1:Int))).set (C.length*2+1) (.int .i64 (a.2:Int));refine ⟨by rw [cU];simp,.inr ⟨g,cap,_,rfl,m,s,o,p,by simpa using q,?_⟩⟩;rw [jT] at e⊢;have f:=cU C;apply List.ext_getElem?;intro b;have d:=congrArg (fun t=>t[b]?) e;simp only [zBs,Array.getElem?_toList] at d;rw [zBs,Array.getElem?_toList,zCd,zCd];by_cases u:b < C.length*2
   · rw [zBx oM] at d⊢;rw [zBw oM,zBw oM,d,zAn oM,zAn oM]
   · by_cases i:b=C.length*2;subst i;rw [zBx oM,zBw oM,zBx rfl,zBx oM,zAo oM,f,Nat.sub_self];rfl
     · by_cases j:b=C.length*2+1;subst j;rw [zBx oM,zBx rfl,zBx (by simp;omega),zAo oM,f,show C.length*2+1 - C.length*2=1 by omega];rfl
       · rw [zBw oM,zBg (by simp [mK];omega)]
def aC5 {o e E:Nat} {s u H:Value} {S Q:Nat} {r:List Nat} {m:List (Nat×Nat)} {L:List Bool} {row J:Nat} {v:World} (z:PermAt v o e E s u H (.slice none 0 0) S Q r m L []) (bV:r.Pairwise (fun cm j=>aC m cm < aC m j)) (b3:∀l∈r,aC m l < row) (bU:∀l∈r,aJ m l≠J) (cX:row < S) (cW:J < Q) (al:L.length=m.length) (cy:m.length<=900000) (D:r.length<=900000) (bA:o<=v.heap.size):
 Calls prog 34 #[e,(row:Int),(J:Int)] v fun T F=>T=.returned (.int .i64 0)/\Keep (PF e E s u H) v F/\∃bc bd ab,PermAt F o e E bc bd ab (.slice none 0 0) S Q (r++ [m.length]) (m++ [(row,J)]) (L++ [true]) []/\(bd.ownBlock=u.ownBlock∨∃i,bd.ownBlock=some i/\v.heap.size<=i)/\(bc.ownBlock=s.ownBlock∨∃i,bc.ownBlock=some i/\v.heap.size<=i)/\(ab.ownBlock=H.ownBlock∨∃i,ab.ownBlock=some i/\v.heap.size<=i):=by
 obtain ⟨cJ,cC,cG,cH,cI⟩:=info_parts sY;have bF:r.countP (fun l=>decide (aC m l < row))=r.length:=List.countP_eq_length.2 fun l D=>by simpa using b3 l D
 have bG:decide (∃l∈r,aC m l=row)=false:=by rw [decide_eq_false_iff_not];rintro ⟨l,D,T⟩;have:=b3 l D;omega
 have bO:iK (fun l=>decide (aJ m l=J)) r 0=-1:=jY (fun l D=>by simpa using bU l D) 0;have co:v.cell? ⟨e,3,none⟩=some (.int .i64 (S:Int)):=(z.blk.cell 3).trans rfl;have cp:v.cell? ⟨e,4,none⟩=some (.int .i64 (Q:Int)):=(z.blk.cell 4).trans rfl;have ae:=jK (B:=o) (gp:=e) (ga:=E) (vl:=s) (vo:=u) (vt:=H) (vf:=(.slice none 0 0)) (R:=S) (P:=Q) (ks:=r) (C:=m) (tk:=L) (fr:=[]) (w:=v) row z bV oM;rw [bF,bG] at ae;have aX:=fun cl cz=>iI (B:=o) (gp:=e) (ga:=E) (vl:=s) (vo:=u) (vt:=H) (vf:=(.slice none 0 0)) (R:=S) (P:=Q) (ks:=r) (C:=m) (tk:=L) (fr:=[]) (w:=cl) J cz oM;simp only [bO] at aX;obtain ⟨I,b0⟩:=eqx r.length;obtain ⟨b,bB⟩:=eqx m.length;rw [b0] at ae;obtain ⟨bo,av,aF,O,br⟩:=hqq5 aX z b0 bB al;have cV:b<=900000:=oM;have cZ:I<=900000:=oM;have ax:=lhd bA;clear bF bG bO aX bV b3 bU z b0 bB al cy D bA;go_enter func34,ntmps34;go_wp2_with fail;refine ae.mono ?_;clear ae;rintro T w1 ⟨rfl,aM⟩;have X:=av.out.below aM;obtain ⟨aw,ay⟩:=hqq2 X aM;clear X aM co cp;go_wp2_with fail;refine (bo.out w1 aw.out).mono ?_;rintro T a1 ⟨rfl,aN⟩;have a5:=aw.out.below aN;have bD:=ay.out.trans (aN.mono ay.out.size);have cn:a1.cell? e=some (.pointer (some E)):=(a5.blk.cell 0).trans rfl;obtain ⟨t,V⟩:=hqq2 a5 bD;clear a5 bD aN aw ay bo;go_wp2_with fail;obtain ⟨bi,bv,aq,_⟩:=aQ t.out.trow;have am:L.length=b:=by rw [br.out,O.out]
 have aK:=rS (A:=bi) (c:=bv) (N:=b) o E none 0 L a1 (by have:=t.out.ar;rw [aq,am] at this;exact this) (by have:=t.out.trow;rw [aq,am] at this;exact this) (by have:=ax.out;have:=V.out.size;omega) oM;have c3:H=.slice bi b bv:=by rw [aq,am]
 rw [<-c3] at aK;refine aK.mono ?_;clear aK aq c3 am;rintro T be ⟨rfl,a6,ab,bE,bT,bH⟩;have a9:=a6.bk t.out.blk (fun a=>by
  rcases a with a | a;exact Bk.ne t.out.blk t.out.ar dC a
  · exact aS t.out.trow t.out.blk dC a.symm)
 have an:=fT t.out.lrow a6 (fun j q a d=>by
  rcases a with a | a;subst a;exact Bk.ne d t.out.ar dC rfl
  · exact aS t.out.trow d dC a.symm)
 have c0:=fT t.out.orow a6 (fun j q a d=>by
  rcases a with a | a;subst a;exact Bk.ne d t.out.ar dC rfl
  · exact aS t.out.trow d dC a.symm)
 obtain ⟨c9,cr,bX,_⟩:=aQ an;have b5:s=.slice c9 b cr:=by rw [bX,O.out]
 have a8:be.cell? ⟨e,1,none⟩=some s:=(a9.cell 1).trans rfl;have cu:=a9.frozen 1;rw [b5] at a8;have cB:=a9.lt;rw [O.out] at an;have cx:o<=be.heap.size:=by have:=a6.size;have:=ax.out;have:=V.out.size;omega
 obtain ⟨aE,aB,bq,ca,aD,a3,bt,bs⟩:=hqq8 a6 bE bT bH a9 an c0 b5;have cs:=(World.cell?_alloc_lt be (Obj.cells #[.int .i64 0,.int .i64 0] 112) ⟨e,1,none⟩ cB).trans a8;clear a6 bE bT bH a9 an c0 bX b5 cn;go_wp2_with fail;refine wp_loop_rounds 2 ?_;rw [rounds_succ];go_wp2_with (at_builtin;refine bP _ rfl (.tmp 72) (.tmp 74) _ rfl o 112 cJ (.agg #[.int .i64 0,.int .i64 0]) 2 16 underlying86 cC cG cH cI rfl dC s b _ bs.out.symm a3.out rfl rfl (by simp [Value.oneCell']) (by unfold maxLen;omega) oM cx ?_;intro d1 M b1 aT d0 bC;have af:=aD.out.grown aT (aS a3.out aD.out dC);have bx:M.cell? ⟨e,1,none⟩=some s:=(af.cell 1).trans rfl;have ct:=af.frozen 1;rw [bs.out] at bx;obtain ⟨c8,x,rfl,cF⟩:=aR b1;obtain ⟨W,aG,a7,bj⟩:=hqq4 af b1 aT bC;clear cF b1 aT bC af);obtain ⟨f,bw,rfl,cY,aP,cA⟩:∃f,∃ac:Array Value,c8=some ⟨f,0,none⟩/\o<=f/\Bk M f 112 ac/\b*2+1 < ac.size:=by rcases aG.out.2 with ⟨X,a5⟩|⟨i,cq,ac,X,a5,cw,cP,cQ,cR,cS⟩;omega;injection X with X _ _;exact ⟨i,ac,X,a5,cw,by omega⟩
 have bN:e≠f:=Bk.ne W.out aP dC;have aa:=W.out.set 1 (.slice (some ⟨f,0,none⟩) (b+1) x);have Y:=aP.far (p:=⟨e,1,none⟩) (fun T=>bN T.symm) (.slice (some ⟨f,0,none⟩) (b+1) x);have aY:Keep (PF e E s u H) a1 (M.setCell ⟨e,1,none⟩ (.slice (some ⟨f,0,none⟩) (b+1) x)):=
  ((aE.out.mono (G:=PF e E s u H) (fun j _ a=>by rcases a with a | a;exact .inr (.inl a);exact .inr (.inr (.inr (.inr a))))).grown a7.out (fun l D=>.inl (.inr (.inr (.inl D))))).setCell (.inl (.inl rfl)) _
 have b6:=aA (w':=M.setCell ⟨e,1,none⟩ (.slice (some ⟨f,0,none⟩) (b+1) x)) aG.out fun j q _ d=>d.far (p:=⟨e,1,none⟩) (Bk.ne d W.out dC) _;have c1:=aA (w':=M) bt.out fun j q _ d=>d.grown a7.out (aS a3.out d dC);have ap:=aA (w':=M.setCell ⟨e,1,none⟩ (.slice (some ⟨f,0,none⟩) (b+1) x)) c1 fun j q _ d=>d.far (p:=⟨e,1,none⟩) (Bk.ne d W.out dC) _;have aV:=aB.out.grown a7.out (aS a3.out aB.out dC);have aW:=aV.far (p:=⟨e,1,none⟩) (Bk.ne aV W.out dC) (.slice (some ⟨f,0,none⟩) (b+1) x);have c4:=aA (w':=M) bq.out fun j q _ d=>d.grown a7.out (aS a3.out d dC);have b9:=aA (w':=M.setCell ⟨e,1,none⟩ (.slice (some ⟨f,0,none⟩) (b+1) x)) c4 fun j q _ d=>d.far (p:=⟨e,1,none⟩) (Bk.ne d W.out dC) _;have bI:(Value.slice (some ⟨f,0,none⟩) (b+1) x).ownBlock=s.ownBlock∨∃i,(Value.slice (some ⟨f,0,none⟩) (b+1) x).ownBlock=some i/\a1.heap.size<=i:=by rcases bj.out with a | a;exact .inl a;exact .inr ⟨_,a,by have:=aE.out.size;omega⟩
 clear aE aB bq aD a3 bt W aG a7 bj a8 cu cs ct bx c1 aV c4;generalize M.setCell ⟨e,1,none⟩ (.slice (some ⟨f,0,none⟩) (b+1) x)=w6 at aa Y aY b6 ap aW b9⊢;have a8:w6.cell? ⟨e,1,none⟩=some (.slice (some ⟨f,0,none⟩) (b+1) x):=(aa.cell 1).trans rfl;have bf:=Y.cell (b*2);have bg:=Y.cell (b*2+1);rw [zAq oM] at bf bg;have cK:=Y.frozen (b*2);have cL:=Y.frozen (b*2+1);generalize bw[b*2]' oM=u0 at bf;generalize bw[b*2+1]' oM=u1 at bg;obtain ⟨cd,az,bp,cg,ci,bm,cj,bl⟩:=hqq8 aa Y aY b6 ap aW b9 bI;have cD:decide (b+1<=b)=false:=by simp
 have cE:decide ((b:Int)+1<=(b:Int))=false:=by simp;omega
 have ad:w6.cell? ⟨e,2,none⟩=some u:=(aa.cell 2).trans rfl;obtain ⟨bh,bu,bZ,_⟩:=aQ ap;have b8:u=.slice bh I bu:=by rw [bZ,aF.out]
 have aH:=lhd b8;rw [b8] at ad;clear aa Y aY b6 ap aW b9 bI bZ b8 aP cA;rw [rounds_succ];go_wp2_with fail
 have ao:=aHO (C:=m) (y:=(0,0)) (g:=f) (cap:=x) (w:=w6) (B:=o) (by
  rw [O.out,jT];exact cg.out) (row,J)
 rw [O.out] at ao;have a0:Keep (fun j=>j=f) w6 ((w6.setCell ⟨f,b*2,none⟩ (.int .i64 (row:Int))).setCell ⟨f,b*2+1,none⟩ (.int .i64 (J:Int))):=((Keep.refl (fun j=>j=f) w6).setCell (p:=⟨f,b*2,none⟩) (.inl rfl) _).setCell (p:=⟨f,b*2+1,none⟩) (.inl rfl) _;have b4:((w6.setCell ⟨f,b*2,none⟩ (.int .i64 (row:Int))).setCell ⟨f,b*2+1,none⟩ (.int .i64 (J:Int))).heap.size=w6.heap.size:=by simp [World.setCell]
 rw [<-b4];clear bf bg cK cL a8 ad cD cE;generalize (w6.setCell ⟨f,b*2,none⟩ (.int .i64 (row:Int))).setCell ⟨f,b*2+1,none⟩ (.int .i64 (J:Int))=w7 at ao a0 b4⊢;have bM:=a0.bk cd.out (fun a=>bN a);have bK:=a0.bk bm.out (fun a=>by subst a;exact Bk.ne bm.out az.out dC rfl);have c2:=fT ci.out a0 (fun j q a d=>by subst a;exact Bk.ne d az.out dC rfl);have c5:=fT cj.out a0 (fun j q a d=>by subst a;exact Bk.ne d az.out dC rfl);have cT:o<=a1.heap.size:=by have:=ax.out;have:=V.out.size;omega
 have cU:=bp.out.size;have aI:o<=(w7.alloc (.cells #[(b:Int)] 3)).heap.size:=by simp;omega
 have bb:w7.heap.size < (w7.alloc (.cells #[(b:Int)] 3)).heap.size:=by simp
 have ak:Rd (w7.alloc (.cells #[(b:Int)] 3)) (w7.alloc (.cells #[(b:Int)] 3)).heap.size 1 (some ⟨w7.heap.size,0,none⟩) 1 [sv b]:=(Rd.new_ w7 3 1 #[(b:Int)] rfl).mono (by simp);have K:=c2.alloc (.cells #[(b:Int)] 3);have b7:=ao.alloc (.cells #[(b:Int)] 3);have ba:=c5.alloc (.cells #[(b:Int)] 3);have ah:=bM.alloc (.cells #[(b:Int)] 3);have ag:=bK.alloc (.cells #[(b:Int)] 3);have aO:Below w7.heap.size w7 (w7.alloc (.cells #[(b:Int)] 3)):=bR.alloc nL _;obtain ⟨cv,aU⟩:=eqx w7.heap.size;rw [aU] at ak bb;rw [aU];generalize w7.alloc (.cells #[(b:Int)] 3)=w8 at aI ak K b7 ba ah ag aO bb⊢;have aZ:Keep (PF e E s u H) a1 w8:=(bp.out.trans' (a0.trans' (Keep.of_below aO) (fun _ _ a=>a)) (fun j d a=>by
  rcases bl.out with z |⟨i,z,cO⟩;exact .inr (.inr (.inl (by rw [<-z,a];rfl)))
  · exfalso;have:f=i:=(by simpa [Value.ownBlock] using z);omega))
 rw [aF.out,aH.out] at K;have bQ:=oZ (B:=o) (A:=bh) (n:=I) (c:=bu) (xs:=(r.map sv)) (Av:=(some ⟨cv,0,none⟩)) (k:=b) (w:=w8) 1 K ak aI oM;refine bQ.mono ?_;clear bQ;rintro T U ⟨c7,rfl,b2,Z,aL⟩;rw [<-aH.out] at Z aL K;have ai:=ah.grown Z (aS K ah dC);have bL:=ag.grown Z (aS K ag dC);have bY:=aA (w':=U) b7 fun j q _ d=>d.grown Z (aS K d dC);have c6:=aA (w':=U) ba fun j q _ d=>d.grown Z (aS K d dC);have bS:=aZ.grown Z (fun l D=>.inl (.inr (.inr (.inr (.inl D)))));have bJ:c7.ownBlock=u.ownBlock∨∃i,c7.ownBlock=some i/\a1.heap.size<=i:=by rcases aL with a | a;exact .inl a;exact .inr ⟨_,a,aZ.size⟩
 have ad:U.cell? ⟨e,2,none⟩=some u:=(ai.cell 2).trans rfl;rw [aH.out] at ad;have cN:=ai.frozen 2;obtain ⟨a2,a4,bW,_⟩:=aQ b2;obtain ⟨cM,bn,cc,ch,ck,cf,ce,cb⟩:=hqq8 bW ai bL bY c6 b2 bS bJ;clear ao a0 b4 bM bK c2 c5 aI bb ak K b7 ba ah ag aO aU aZ Z aL ai bL bY c6 b2 bS bJ;subst bW;go_wp2_with fail;go_ret;have aj:∀j au q,Bk U j au q->au≠110->Bk (U.setCell ⟨e,2,none⟩ (.slice a2 (I+1) a4)) j au q:=fun j au q d al=>d.far (p:=⟨e,2,none⟩) (Bk.ne d bn.out al) _;refine ⟨rfl,(Keep.of_below V.out).trans' (ce.out.setCell (.inl (.inl rfl)) _) (fun _ _ a=>a),.slice (some ⟨f,0,none⟩) (b+1) x,.slice a2 (I+1) a4,ab,⟨bn.out.set 2 _,?_,?_,aj _ _ _ cc.out dC,?_,?_,?_,?_,av.out.lo⟩,?_,?_,?_⟩;have:=aA (w':=U.setCell ⟨e,2,none⟩ (.slice a2 (I+1) a4)) ch.out fun j q _ d=>aj _ _ _ d dC;simpa [O.out] using this;have:=aA (w':=U.setCell ⟨e,2,none⟩ (.slice a2 (I+1) a4)) cf.out fun j q _ d=>aj _ _ _ d dC;simpa [aF.out,O.out] using this;have:=aA (w':=U.setCell ⟨e,2,none⟩ (.slice a2 (I+1) a4)) ck.out fun j q _ d=>aj _ _ _ d dC;simpa [br.out,O.out] using this;exact World.ownsRow_nil _ _ _ _;rcases (Value.slice a2 (I+1) a4).ownBlock with _ | i;exact .inl rfl;exact .inr (by simp [Value.ownBlock]);intro l D;rcases zCp.1 D with z | z;have:=av.out.lt l z;simp;omega;simp at z;simp;omega;rcases cb.out with a |⟨i,a,bz⟩;exact .inl a;exact .inr ⟨i,a,by have:=V.out.size;omega⟩;rcases bl.out with a |⟨i,a,bz⟩;exact .inl a;exact .inr ⟨i,a,by have:=V.out.size;omega⟩;rcases ca.out with a |⟨i,a,bz⟩;exact .inl a;exact .inr ⟨i,a,by have:=V.out.size;omega⟩
def aC3 (a:Nat) (b:World) (p:a<=2147483648):
 Calls prog 32 #[(a:Int),.slice none 0 0] b fun e j=>∃f l,e=.returned (.tuple #[.pointer (some ⟨f,0,none⟩),.int .i64 0])/\PermAt j b.heap.size f l (.slice none 0 0) (.slice none 0 0) (.slice none 0 0) (.slice none 0 0) a a [] [] [] []/\Below b.heap.size b j:=by
 have n:¬((a:Int) < 0):=oM;have o:¬((a:Int) > 2147483648):=oM;go_enter func32,ntmps32;go_wp2_with fail;refine (sQ _).mono ?_;rintro e w1 ⟨rfl,c,g⟩;obtain ⟨k,d⟩:=hqq2 c g;have q:=c.lt;clear c g;go_wp2_with fail;refine wp_loop_rounds 1 ?_;rw [rounds_succ];go_wp2_with fail;go_ret2;have i:=d.out.size;exact ⟨_,_,rfl,⟨Bk.new _ _ _,World.ownsRow_nil _ _ _ _,World.ownsRow_nil _ _ _ _,k.out.alloc _,World.ownsRow_nil _ _ _ _,World.ownsRow_nil _ _ _ _,.inl rfl,fun r m=>(by cases m),⟨i,zAs _⟩⟩,d.out.alloc i _⟩
def cJ (b:List Nat) (d c:Nat):List (Nat×Nat):=((List.range c).filter fun a=>b.getD a 0 % d==0).map fun a=>(a,b.getD a 0)
def aDF (b:List Nat) (c a:Nat):cJ b c (a+1)=if b.getD a 0 % c=0 then cJ b c a++ [(a,b.getD a 0)] else cJ b c a:=by
 unfold cJ;rw [List.range_succ,List.filter_append,zAz];by_cases d:b.getD a 0 % c=0
 · rw [zBx d];simp only [List.filter_cons,d,beq_self_eq_true,if_true,List.filter_nil,List.map_cons,List.map_nil]
 · rw [zBw d];have:(b.getD a 0 % c==0)=false:=(by simpa using d);simp only [List.filter_cons,this,Bool.false_eq_true,if_false,List.filter_nil,List.map_nil,List.append_nil]
def nT {d:List Nat} {f c:Nat} {a:Nat×Nat} (b:a∈cJ d f c):a.1 < c/\a.2=d.getD a.1 0:=by
 unfold cJ at b;obtain ⟨g,e,rfl⟩:=zAy.1 b;have:=(zCw.1 e).1;exact ⟨by simpa using this,rfl⟩
def qL (e:List Nat) (d c:Nat):(cJ e d c).Pairwise (fun a b=>a.1 < b.1):=by
 unfold cJ;rw [List.pairwise_map];exact List.Pairwise.filter _ List.pairwise_lt_range
def aCa {C:List (Nat×Nat)} {a:Nat} (b:a < C.length):(aC C a,aJ C a)∈C:=by
 unfold aC aJ;rw [zAb,zAa b];exact zBj b
def aB9 {a:List (Nat×Nat)} (i:a.Pairwise (fun b c=>b.1 < c.1)):(List.range a.length).Pairwise (fun b c=>aC a b < aC a c):=by
 rw [zAr];intro f g j l k;have d:f < a.length:=by simpa using j
 have e:g < a.length:=by simpa using l
 have:=zAr.1 i f g d e k;simp only [List.getElem_range];unfold aC;rw [zAb,zAb,zAa d,zAa e];exact this
def Apt.next2 {j f:Value} {c:Option Addr} {g:Nat} (k:Apt j c) (m:f.ownBlock=j.ownBlock∨∃e,f.ownBlock=some e/\g<=e) (l:∀a,c=some a->a.block < g):Apt f c:=by
 intro a i b;rcases m with d |⟨e,d,n⟩;exact k a i (d.symm.trans b);rw [d] at b;injection b with b;have:=l a i;omega
def PermAt.foot {r:World} {c f e:Nat} {g i j q:Value} {m l:Nat} {o:List Nat} {k:List (Nat×Nat)} {p:List Bool} {n:List Nat} (b:PermAt r c f e g i j q m l o k p n) {d:Nat} (a:PF f e g i j d):c<=d:=by
 rcases a with rfl | rfl | a | a | a;exact b.lo.1;exact b.lo.2;exact (b.lrow.lt _ a).1;exact (b.orow.lt _ a).1;exact (b.trow.lt _ a).1
def PermAt.keep {F:Nat->Prop} {i x:World} {j p o:Nat} {u v w t:Value} {m l:Nat} {q:List Nat} {k:List (Nat×Nat)} {s:List Bool} {n:List Nat} (b:PermAt i j p o u v w t m l q k s n) (f:Keep F i x)
 (e:∀d r g,F d->Bk i d r g->r∉ [110,112,3,154,4]):PermAt x j p o u v w t m l q k s n:=
 ⟨f.bk b.blk (fun a=>e _ _ _ a b.blk dC),fT b.lrow f (fun d g a c=>e _ _ _ a c dC),fT b.orow f (fun d g a c=>e _ _ _ a c dC),f.bk b.ar (fun a=>e _ _ _ a b.ar dC),fT b.trow f (fun d g a c=>e _ _ _ a c dC),fT b.frow f (fun d g a c=>e _ _ _ a c dC),b.apart,b.lt,b.lo⟩
structure LvInv (w2:World) (B1 B3 gl gk gp ga n rate:Nat) (A3:Option Addr) (c3:Nat) (rs:List Nat) (k:Nat) (vl vo vt:Value) (tk:List Bool) (wr:World):Prop where
 perm:PermAt wr B1 gp ga vl vo vt (.slice none 0 0) n n (List.range (cJ rs rate k).length) (cJ rs rate k) tk []
 len:tk.length=(cJ rs rate k).length
 apt:Apt vo A3
 row:wr.ownsRow B3 3 1 (.slice A3 n c3) n (rs.map sv)
 blk:Bk wr gl 74 #[gk,gp,(rate:Int),.int .i64 0]
 below:Below w2.heap.size w2 wr
structure LiveAt (w:World) (Bw gl gk gp ga:Nat) (vl vo vt:Value) (B n rate:Nat) (L:List Nat) (C:List (Nat×Nat)) (tk:List Bool):Prop where
 blk:Bk w gl 74 #[gk,gp,(rate:Int),.int .i64 0]
 walk:WalkAt w Bw gk L
 perm:PermAt w B gp ga vl vo vt (.slice none 0 0) n n (List.range C.length) C tk []
end
section
open Go.RowKit Go.Shelf
def ShelfRow.same {o w':World} {e:Nat} {n:Value} {f:List Nat} {k l:Nat} (q:ShelfRow o e n f k l) (j:∀a d b,Bk o a d b->Bk w' a d b):ShelfRow w' e n f k l:=by
 obtain ⟨p,r,g⟩:=q;exact ⟨p,aA r fun a b _ c=>j _ _ _ c,fun m i=>⟨(g m i).1,(g m i).2.same fun a d b _ c=>j _ _ _ c⟩⟩
def WalkAt.same {g w':World} {b gk:Nat} {c:List Nat} (l:WalkAt g b gk c) (a:∀d f e,Bk g d f e->Bk w' d f e):WalkAt w' b gk c:=by
 obtain ⟨k,j,n,⟨m,i,t,o,p⟩,q⟩:=l;exact ⟨k,j,a _ _ _ n,⟨m,i,t,a _ _ _ o,fun s r=>(p s r).same a⟩,a _ _ _ q⟩
def LvW (a:World) (b d:Nat) (c:List Nat):Prop:=∃gk e f g,Bk a d 74 #[.pointer (some ⟨gk,0,none⟩),e,f,g]/\WalkAt a b gk c
def LvW.vis {e w':World} {a c:Nat} {b:List Nat} (f:LvW e a c b) (d:Vis e w'):LvW w' a c b:=by
 obtain ⟨gk,j,k,l,g,i⟩:=f;exact ⟨gk,j,k,l,d.bk g dC dC,i.vis d⟩
def LvW.same {i w':World} {a e:Nat} {b:List Nat} (j:LvW i a e b) (f:∀c g d,Bk i c g d->Bk w' c g d):LvW w' a e b:=by
 obtain ⟨gk,m,n,o,k,l⟩:=j;exact ⟨gk,m,n,o,f _ _ _ k,l.same f⟩
def LvW.lt {b:World} {c a:Nat} {d:List Nat} (e:LvW b c a d):a < b.heap.size:=by
 obtain ⟨gk,i,j,k,f,g⟩:=e;exact f.lt
def ShelfRow.sameT {o p:World} {e:Nat} {n:Value} {f:List Nat} {k l:Nat} (r:ShelfRow o e n f k l) (j:∀a c b,c≠3->Bk o a c b->Bk p a c b):ShelfRow p e n f k l:=by
 obtain ⟨q,s,g⟩:=r;exact ⟨q,aA s fun a b _ d=>j _ _ _ dC d,fun m i=>⟨(g m i).1,(g m i).2.same fun a c b t d=>j _ _ _ (by rintro rfl;revert t;decide) d⟩⟩
def LvW.sameT {i j:World} {c g:Nat} {d:List Nat} (n:LvW i c g d) (a:∀e b f,b≠3->Bk i e b f->Bk j e b f):LvW j c g d:=by
 obtain ⟨gk,w,x,y,o,m,l,p,⟨t,k,z,q,r⟩,s⟩:=n;exact ⟨gk,w,x,y,a _ _ _ dC o,m,l,a _ _ _ dC p,⟨t,k,z,a _ _ _ dC q,fun v u=>(r v u).sameT a⟩,a _ _ _ dC s⟩
def LvW.visI {k d:World} {n p b:Nat} {e z:Value} {o:List Nat} (s:LvW k n p o) (g:VisF (fun a=>a=b) k d) (t:Bk k b 3 #[e]) (u:Bk d b 3 #[z]):LvW d n p o:=by
 have r:Bk (d.setCell b e) b 3 #[e]:=u.set 0 e;have j:∀a,a≠b->(d.setCell b e).heap[a]?=d.heap[a]?:=fun a w=>heap_setCell_other d ⟨b,0,none⟩ a e w;have y:Vis k (d.setCell b e):=by refine ⟨g.os,g.tape,g.output,by simpa [World.setCell] using g.size,fun a v _=>?_⟩;by_cases c:a=b;subst c;exact .inl (r.trans t.symm);rcases g.block a v c with f |⟨i,m,f,l⟩|⟨i,m,f,l⟩;exact .inl ((j a c).trans f);exact .inr (.inl ⟨i,m,f,(j a c).trans l⟩);exact .inr (.inr ⟨i,m,f,(j a c).trans l⟩)
 refine (s.vis y).sameT fun a A i x q=>?_;have c:a≠b:=fun c=>by subst c;exact x (aL q r).1
 exact (j a c).symm.trans q
def LiveAt.lvw {e:World} {a c gk j i:Nat} {n o p:Value} {f k l:Nat} {b:List Nat} {g:List (Nat×Nat)} {m:List Bool} (d:LiveAt e a c gk j i n o p f k l b g m):LvW e a c b:=⟨gk,_,_,_,d.blk,d.walk⟩
def bM {B gl:Nat} {a:List Nat} {n:Nat} {w:World} (e:LvW w B gl a) (g:a.length=n+1) (k:n<=1000000):
 Calls prog 42 #[gl] w fun b d=>b=.returned (.int .i64 (n:Int))/\w=d:=by
 obtain ⟨gk,l,m,o,c,f⟩:=e;have i:=c.cell 0;have j:IntKind.i64.wrap (((n+1:Nat):Int) - 1)=(n:Int):=by rw [IntKind.wrap_i64];omega
 clear c;go_enter func42,ntmps42;go_wp2_with fail;refine (kC f).mono ?_;rintro b d ⟨rfl,rfl⟩;rw [g];go_wp2_with fail;go_ret;exact ⟨eS oM,rfl⟩
def aF5 (a:List Nat) (b:Nat) {c d:Nat} (e:c<=d):cB a b c<=cB a b d:=by
 unfold cB;have:=(List.take_sublist_take_left (l:=a) e).count_le b;omega
def uT (b:List Nat) (a e:Nat):cB b a e<=b.length:=by
 unfold cB;have j:=(List.take_sublist e b).count_le a;have k:b.countP (fun c=>decide (c < a))+b.count a<=b.length:=by
  induction b with
  | nil=>simp
  | cons c i g=>
    have:=g ((List.take_sublist e i).count_le a);rw [zBn,List.count_cons];by_cases d:c < a;have:¬c=a:=oM;simp [d,this];omega;by_cases f:c=a;simp [d,f];omega;simp [d,f];omega
 omega
end
section
def Pq (a:List Nat) (b:Bool):List Nat->Nat->Bool
 | [],_=>b
 | c::q,p=>decide (aN a p < (c:Int))||(decide (aN a p=(c:Int))&&Pq a b q (p+1))
def sW (a:List Nat):List Nat->Nat->Bool
 | [],_=>true
 | b::q,p=>decide (aN a p=(b:Int))&&sW a q (p+1)
def aBu (a:List Nat) (d:Bool) (c:Nat) (e:List Nat) (b:Nat):Pq a d (c::e) b=(decide (aN a b < (c:Int))||(decide (aN a b=(c:Int))&&Pq a d e (b+1))):=rfl
def zR (a:List Nat) (d:Nat) (c:List Nat) (b:Nat):sW a (d::c) b=(decide (aN a b=(d:Int))&&sW a c (b+1)):=rfl
def pE (e:List Nat) (c d:Nat):sufLt e c d↔aN e c < aN e d∨(aN e c=aN e d/\sufLt e (c+1) (d+1)):=by
 constructor
 · rintro ⟨j,b,m,f,g⟩;rcases b with _ | b;exact .inl g
   · refine .inr ⟨f 0 oM,j,b,by omega,fun a i=>?_,?_⟩
     · have:=f (a+1) oM;rwa [show c+(a+1)=c+1+a by omega,show d+(a+1)=d+1+a by omega] at this
     · rwa [show c+(b+1)=c+1+b by omega,show d+(b+1)=d+1+b by omega] at g
 · rintro (k |⟨l,j,b,m,f,g⟩);exact ⟨1,0,by omega,fun a i=>absurd i oM,k⟩
   · refine ⟨j+1,b+1,by omega,fun a i=>?_,?_⟩
     · rcases a with _ | a;exact l
       · have:=f a oM;rwa [show c+(a+1)=c+1+a by omega,show d+(a+1)=d+1+a by omega]
     · rwa [show c+(b+1)=c+1+b by omega,show d+(b+1)=d+1+b by omega]
def aBt {d:List Nat} {f:Bool} (e:List Nat):∀ {b c:Nat},sufLt d c b->Pq d f e b=true->Pq d f e c=true:=by
 induction e with
 | nil=>intro b c _ a;exact a
 | cons m e l=>
   intro b c k a;unfold Pq at a⊢;simp only [Bool.or_eq_true,zBd,zCa] at a⊢;rcases (pE d c b).1 k with g |⟨g,i⟩;rcases a with a |⟨a,_⟩;exact .inl oM;exact .inl oM;rcases a with a |⟨a,j⟩;exact .inl oM;exact .inr ⟨by omega,l i j⟩
def sT {f:Nat->Nat->Prop} {P:Nat->Bool} {b:List Nat} (o:b.Pairwise f) (l:∀c a,f c a->P a=true->P c=true):b.take (b.countP P)=b.filter P:=by
 induction b with
 | nil=>rfl
 | cons c e q=>
   obtain ⟨i,j⟩:=List.pairwise_cons.1 o;rw [zBn,List.filter_cons];by_cases d:P c=true
   · simp only [d,if_true];rw [List.take_succ_cons,q j]
   · have g:∀a∈e,¬P a=true:=fun a p n=>d (l c a (i a p) n);have k:e.countP P=0:=List.countP_eq_zero.2 g;have m:e.filter P= []:=List.filter_eq_nil_iff.2 g;simp [d,k,m]
def Nq (a:List Nat) (b:Bool) (c:List Nat):Nat:=(List.range a.length).countP (Pq a b c)
def IsSuf.count {b c:List Nat} (d:IsSuf b c) (a:Nat->Bool):c.countP a=(List.range b.length).countP a:=d.perm.countP_eq a
def aJ3 (a:List Nat) (b:Bool) (c:List Nat):Nq a b c<=a.length:=by
 unfold Nq;have:=zBh (p:=Pq a b c) (l:=List.range a.length);simpa using this
def aDy {a f:List Nat} (d:IsSuf a f) (c:Bool) (b:List Nat) (g:Nat):((aD a f).take (Nq a c b)).count g=(List.range a.length).countP (fun e=>decide (bE a e=g)&&Pq a c b e):=by
 have i:Nq a c b=f.countP (Pq a c b):=(d.count _).symm;rw [i,aD,<-List.map_take,sT d.sorted (fun l m j k=>aBt b j k),<-d.count,List.count_eq_countP,List.countP_map,List.countP_filter];refine List.countP_congr fun e _=>?_;simp [Function.comp,and_comm]
def bI {a:List Nat} (b:0 < a.length):bE a 0=a.getD (a.length - 1) 0:=by
 unfold bE;rw [zBi,zBu oM]
def aT {a:List Nat} {b:Nat} (c:b+1 < a.length):bE a (b+1)=a.getD b 0:=by
 unfold bE;rw [show b+1+a.length - 1=b+a.length by omega,Nat.add_mod_right,zBu oM]
def eJ {a:List Nat} {b:Nat} (c:b < a.length):aN a b=((a.getD b 0:Nat):Int):=by
 rw [aJ2 c,zAb,zAa c];rfl
def fQ {m:Nat} (b:Nat->Bool) (c:Nat->Bool) (d:b 0=c m) (e:∀a,a < m->b (a+1)=c a):(List.range (m+1)).countP b=(List.range (m+1)).countP c:=by
 rw [List.range_succ_eq_map,zBn,List.countP_map,<-List.range_succ_eq_map,List.range_succ,List.countP_append,zBn,List.countP_nil,zBi,d];congr 1;refine List.countP_congr fun a f=>?_;have g:a < m:=by simpa using f
 simp [Function.comp,e a g]
def tF {α:Type} (b:List α) (c d:α->Bool) (e:∀a∈b,¬(c a=true/\d a=true)):b.countP (fun a=>c a||d a)=b.countP c+b.countP d:=by
 induction b with
 | nil=>rfl
 | cons a b g=>
   rw [zBn,zBn,zBn,g (fun i f=>e i (by simp [f]))];have:=e a (by simp);cases j:c a <;> cases k:d a <;> simp_all <;> omega
structure EndOk (l:List Nat) (m:Nat):Prop where
 len:l.length=m+1
 last:l.getD m 0=0
 pos:∀p,p < m->0 < l.getD p 0
def aE1 {a j:List Nat} {e:Nat} (k:IsSuf a j) (l:EndOk a e) (f:Bool) (g:List Nat) (c:Nat) (u:0 < c):cB (aD a j) c (Nq a f g)=Nq a f (c::g):=by
 have d:=l.len;unfold cB;rw [aDy k];have m:(aD a j).countP (fun q=>decide (q < c))=(List.range (e+1)).countP (fun b=>decide (a.getD b 0 < c)):=by
  rw [aD,List.countP_map,k.count,d];refine fQ _ _ ?_ fun b i=>?_
  · show decide (bE a 0 < c)=_;rw [bI oM,d,zBb]
  · show decide (bE a (b+1) < c)=_;rw [aT oM]
 have n:(List.range a.length).countP (fun b=>decide (bE a b=c)&&Pq a f g b)=(List.range (e+1)).countP (fun b=>decide (a.getD b 0=c)&&Pq a f g (b+1)):=by
  rw [d];refine fQ _ _ ?_ fun b i=>?_;show (decide (bE a 0=c)&&_)=(decide (a.getD e 0=c)&&_);rw [bI oM,d,zBb,l.last];have:decide (0=c)=false:=(by simp;omega);rw [this];rfl
  · show (decide (bE a (b+1)=c)&&_)=_;rw [aT oM]
 rw [m,n,<-tF]
 · unfold Nq;rw [d];refine List.countP_congr fun b i=>?_;have t:b < e+1:=(by simpa using i);rw [aBu,eJ oM];have o:decide (((a.getD b 0:Nat):Int) < (c:Int))=decide (a.getD b 0 < c):=(by rw [decide_eq_decide];omega);have p:decide (((a.getD b 0:Nat):Int)=(c:Int))=decide (a.getD b 0=c):=(by rw [decide_eq_decide];omega);rw [o,p]
 intro b _;simp only [zBd,zCa];rintro ⟨r,s,_⟩;omega
def aKK (a:List Nat):Nq a false []=0/\Nq a true []=a.length:=by
 constructor;unfold Nq;exact List.countP_eq_zero.2 fun _ _ b=>by simp [Pq] at b
 · unfold Nq;have:=(List.countP_eq_length (p:=Pq a true []) (l:=List.range a.length)).2 (fun _ _=>rfl);rw [this];simp
def eK (a:List UInt8):EndOk (aF a) a.length:=by
 refine ⟨aK a,?_,fun c b=>?_⟩
 · unfold aF cZ;rw [zAb,zAo (by simp)];simp
 · unfold aF cZ;rw [zAb,zAn (by simpa using b),zAf,zAa b];simp
def aIP (b:List Nat) (c:List Nat):∀a,Pq b true c a=(Pq b false c a||sW b c a)/\¬(Pq b false c a=true/\sW b c a=true):=by
 induction c with
 | nil=>intro a;exact ⟨rfl,fun j=>by simp [Pq] at j⟩
 | cons d c m=>
   intro a;obtain ⟨k,l⟩:=m (a+1);rw [aBu,aBu,zR,k];by_cases e:aN b a < (d:Int)
   · have:¬aN b a=(d:Int):=oM;simp [e,this]
   · by_cases f:aN b a=(d:Int);have g:decide (aN b a < (d:Int))=false:=(by simpa using e);have i:decide (aN b a=(d:Int))=true:=(by simpa using f);rw [g,i,Bool.false_or,Bool.true_and,Bool.false_or,Bool.true_and,Bool.true_and];exact ⟨rfl,l⟩
     · simp [e,f]
def occ (a:List Nat) (b:List Nat):Nat:=(List.range a.length).countP (sW a b)
def aEE (a:List Nat) (b:List Nat):Nq a true b=Nq a false b+occ a b:=by
 unfold Nq occ;rw [<-tF _ _ _ fun c _=>(aIP a b c).2];exact List.countP_congr fun c _=>by rw [(aIP a b c).1]
end
section
open Go.RowKit
def dW (c d:List Nat) (a b:Nat):aI (c++d) a b=aI c a b++aI d a b:=by
 unfold aI;rw [List.filter_append,zAz]
def kB (c:Nat) (d:List Nat) (a b:Nat):aI (c::d) a b=if aW c a=b then fR c a::aI d a b else aI d a b:=by
 unfold aI;rw [List.filter_cons];by_cases e:aW c a=b
 · simp [e]
 · simp [e]
def rN (a:List Nat) (d b c:Nat):aI a b c=aI (a.take d) b c++aI (a.drop d) b c:=by
 rw [<-dW,zAu]
def aAi (b:List Nat) (c d a:Nat):(aI (b.take c) a (aW d a)).length=fB b c d a:=by
 rw [jG];rfl
def aEq (c:List Nat) (d b a:Nat):aI (aP c d b) a (aW b a)=aP (aI c a (aW b a)) (fB c d b a) (fR b a):=by
 have e:=aAi c d b a;unfold aP;rw [dW,kB,zBx rfl]
 conv=>rhs;rw [rN c d a (aW b a)]
 rw [<-e,List.take_left,List.drop_left]
def yL (c:List Nat) (f d a b:Nat) (e:aW d a≠b):aI (aP c f d) a b=aI c a b:=by
 unfold aP;rw [dW,kB,zBw e,<-rN]
def aIv {a:List Nat} {b c:Nat} (d:a[b]?=some c):a=a.take b++c::a.drop (b+1):=by
 obtain ⟨e,f⟩:=zAc.1 d;rw [<-f,<-zAx e,zAu]
def aEr {c:List Nat} {d b:Nat} (a:Nat) (g:c[d]?=some b):aI (aG c d) a (aW b a)=aG (aI c a (aW b a)) (fB c d b a):=by
 have e:=aAi c d b a;have f:aI c a (aW b a)=aI (c.take d) a (aW b a)++fR b a::aI (c.drop (d+1)) a (aW b a):=by
  conv=>lhs;rw [aIv g]
  rw [dW,kB,zBx rfl]
 unfold aG;rw [dW,f];generalize aI (c.take d) a (aW b a)=A at e⊢;generalize aI (c.drop (d+1)) a (aW b a)=C;rw [<-e,List.take_left,List.drop_append,List.drop_eq_nil_of_le oM,show A.length+1 - A.length=1 by omega];rfl
def yM {a:List Nat} {d e:Nat} (b c:Nat) (f:a[d]?=some e) (g:aW e b≠c):aI (aG a d) b c=aI a b c:=by
 conv=>rhs;rw [aIv f]
 unfold aG;rw [dW,dW,kB,zBw g]
def aFx {α:Type} {b:List α} {a:Nat} (d:α) (e:a<=b.length):(aP b a d).take a=b.take a:=by
 unfold aP;have c:(b.take a).length=a:=by rw [zAj];omega
 rw [List.take_append,c,Nat.sub_self,List.take_zero,List.append_nil,List.take_take,Nat.min_self]
def aJA {b:List Nat} {e d c:Nat} (f:∀a∈b,a < c) (i:d < c):∀a∈aP b e d,a < c:=fun a j=>by
 rcases List.mem_cons.1 ((eO b e d).mem_iff.1 j) with rfl | g;exact i;exact f a g
def oI {c:List Nat} {g d:Nat} (e:∀a∈c,a < d):∀a∈aG c g,a < d:=fun a f=>by
 unfold aG at f;rcases zCp.1 f with b | b;exact e a (List.mem_of_mem_take b);exact e a (List.mem_of_mem_drop b)
def TC (a b:Nat):Nat:=16+512*a+b
def aKG {c a d b:Nat} (f:a < 512) (g:b < 512) (e:TC c a=TC d b):c=d/\a=b:=by
 unfold TC at e;omega
def aKf {a b:Nat} (d:a < 9) (e:b < 2 ^ a):b < 512:=by
 have:2 ^ a<=2 ^ 9:=zBp dC oM;have c:(2:Nat)^ 9=512:=dC;omega
def dI (own:Nat->Nat) (d c b a:Nat):Nat:=if a < d then own a else if a < c then b else 0
structure WaveS (w:World) (B:Nat) (own:Nat->Nat) (gv:Nat) (S:Nat->Value) (Ls:Nat->List Nat) (n v:Int):Prop where
 blk:Bk w gv 206 (wcells S n v)
 base:B<=gv/\own gv=2
 rows:∀lv,lv < 9->∃G:Nat->Nat,w.ownsRow B 211 3 (S lv) (2 ^ lv) (eA G lv (2 ^ lv))/\(∀b,(S lv).ownBlock=some b->own b=2)/\∀p,p < 2 ^ lv->TreeE w (fun b=>own b=TC lv p) (G p) (aI (Ls lv) lv p)
 bnd:∀b,own b≠0->B<=b/\b < w.heap.size
def WaveE (f:World) (b:Nat) (own:Nat->Nat) (d:Nat) (a:List Nat):Prop:=∃c e,WaveS f b own d c (fun _=>a) (a.length:Int) e
def WaveS.vis {l w':World} {d:Nat} {own:Nat->Nat} {i:Nat} {f:Nat->Value} {e:Nat->List Nat} {k v:Int} (a:WaveS l d own i f e k v) (b:Vis l w'):∃c,WaveS w' d own i f e k c:=by
 obtain ⟨c,q⟩:=b.waveC a.blk;refine ⟨c,q,a.base,fun t r=>?_,fun g j=>⟨(a.bnd g j).1,zAl (a.bnd g j).2 b.size⟩⟩;obtain ⟨m,n,o,p⟩:=a.rows t r;exact ⟨m,b.own n dC dC,o,fun u s=>(p u s).vis b⟩
def WaveE.vis {e w':World} {b:Nat} {own:Nat->Nat} {d:Nat} {c:List Nat} (a:WaveE e b own d c) (i:Vis e w'):WaveE w' b own d c:=by
 obtain ⟨f,k,a⟩:=a;obtain ⟨j,g⟩:=a.vis i;exact ⟨f,j,g⟩
def WaveE.at {k:World} {d:Nat} {own:Nat->Nat} {g:Nat} {e:List Nat} (a:WaveE k d own g e):WaveAt k d g e:=by
 obtain ⟨l,p,a⟩:=a;refine ⟨a.base.1,l,p,a.blk,fun j o=>?_⟩;obtain ⟨c,m,q,f⟩:=a.rows j o;refine ⟨c,m,fun b i=>⟨?_,(f b i).at⟩⟩;have n:own (c b)=TC j b:=(f b i).fg;exact (a.bnd (c b) (by rw [n];unfold TC;omega)).1
def WaveS.edit {f l:World} {t:Nat} {own:Nat->Nat} {y:Nat} {u:Nat->Value} {q:Nat->List Nat} {F a7 P:Int} (g:WaveS f t own y u q F a7) {lv p gx:Nat} (a2:lv < 9) (a4:p < 2 ^ lv) {o:Nat->Nat} (W:f.ownsRow t 211 3 (u lv) (2 ^ lv) (eA o lv (2 ^ lv)))
 (L:own gx < 16) (a0:∀w,¬Bk f gx 211 w) {I:List Bool} (a5:TreeE l (Gw (fun a=>own a=TC lv p) f.heap.size) (o p) I) (E:Keep (fun G=>own G=TC lv p∨G=y∨G=gx) f l) (D:Bk l y 206 (wcells u F P))
 {L':List Nat} (Y:aI L' lv p=I) (Z:∀c,c≠p->aI L' lv c=aI (q lv) lv c):
 WaveS l t (dI own f.heap.size l.heap.size (TC lv p)) y u (fun b=>if b=lv then L' else q b) F P:=by
 have ak:t<=f.heap.size:=zAk g.base.1 (zCm g.blk.lt);have B:∀a,a < f.heap.size->dI own f.heap.size l.heap.size (TC lv p) a=own a:=fun a D=>by unfold dI;rw [zBx D]
 refine ⟨D,⟨g.base.1,by rw [B _ g.blk.lt];exact g.base.2⟩,fun b O=>?_,fun a k=>?_⟩
 · obtain ⟨n,x,J,K⟩:=g.rows b O;refine ⟨n,aA x fun a w A r=>E.bk r fun d=>?_,fun a A=>?_,fun c s=>?_⟩;rcases d with d | d | d;rw [J a A] at d;unfold TC at d;omega;subst d;exact absurd (aL r g.blk).1 dC;subst d;exact a0 w r;rw [B _ (x.lt a A).2];exact J a A
   · have N:(b≠lv∨c≠p)->TreeE l (fun a=>dI own f.heap.size l.heap.size (TC lv p) a=TC b c) (n c) (aI (q b) b c):=fun a3=>by
        have a6:=(K c s).keep E fun a am w M r i d=>by rcases d with d | d | d;rw [i] at d;obtain ⟨e,m⟩:=aKG (aKf O s) (aKf a2 a4) d;rcases a3 with z | z;exact z e;exact z m;subst d;rw [(aL r g.blk).1] at M;exact absurd M dC;subst d;rw [i] at L;unfold TC at L;omega
        have al:TreeE f (fun a=>own a=TC b c) (n c) (aI (q b) b c):=K c s;refine a6.mono fun a k i=>?_;have a1:a < f.heap.size:=(g.bnd a (by rw [i];unfold TC;omega)).2;rw [B a a1];exact i
     by_cases e:b=lv
     · subst e;rw [zBx rfl];by_cases m:c=p
       · subst m;rw [Y]
         have X:n c=o c:=by
           have z:=x.1;have e:=(eU n b (2 ^ b) c s).1;have m:=(eU o b (2 ^ b) c s).1
           have V:eA n b (2 ^ b)=eA o b (2 ^ b):=by
             rcases x.2 with ⟨H,Q⟩|⟨ai,ae,ag,H,Q,R,a8,a9,aa,S⟩;have:=Nat.two_pow_pos b;omega
             · rcases W.2 with ⟨j,v⟩|⟨aj,af,ah,j,v,T,ab,ac,ad,U⟩;have:=Nat.two_pow_pos b;omega
               · rw [H] at j;injection j with j _ _;injection j with j;injection j with j _;subst j;obtain ⟨_,rfl⟩:=aL R T;rw [<-S,<-U]
           rw [V,m] at e;injection e with e;injection e with e;injection e with e;injection e with e _;exact e.symm
         rw [X];refine a5.mono fun a k i=>?_;rcases i with i | i;rw [B a (g.bnd a (by rw [i];unfold TC;omega)).2];exact i
         · unfold dI;rw [zBw oM,zBx k]
       rw [Z c m];exact N (.inr m)
     rw [zBw e];exact N (.inl e)
 unfold dI at k;by_cases C:a < f.heap.size;rw [zBx C] at k;exact ⟨(g.bnd a k).1,zAl C E.size⟩;rw [zBw C] at k;by_cases v:a < l.heap.size;exact ⟨by omega,v⟩;rw [zBw v] at k;exact absurd rfl k
def aGT (a:Nat->Value) (d b c:Int):(wcells a d c).setIfInBounds 9 (.int .i64 b)=wcells a b c:=by
 unfold wcells;rfl
def WaveS.set_n {f:World} {i:Nat} {own:Nat->Nat} {b:Nat} {k:Nat->Value} {j:Nat->List Nat} {A o:Int} (c:WaveS f i own b k j A o) (e:Int):WaveS (f.setCell ⟨b,9,none⟩ (.int .i64 e)) i own b k j e o:=by
 have g:Keep (fun a=>a=b) f (f.setCell ⟨b,9,none⟩ (.int .i64 e)):=Keep.setCell (F:=fun a=>a=b) (Keep.refl _ _) (p:=⟨b,9,none⟩) (.inl rfl) _;refine ⟨by have:=c.blk.set 9 (.int .i64 e);rw [aGT] at this;exact this,c.base,fun z x=>?_,fun a l=>⟨(c.bnd a l).1,zAl (c.bnd a l).2 g.size⟩⟩;obtain ⟨q,u,v,w⟩:=c.rows z x;exact ⟨q,aA u fun a r _ d=>g.bk d (Bk.ne d c.blk dC),v,fun n y=>(w n y).keep g fun a B r m d _ s=>by
  have t:a=b:=s;subst t;rw [(aL d c.blk).1] at m;exact absurd m dC⟩
def WaveS.far {p w':World} {f:Nat} {own:Nat->Nat} {k:Nat} {i:Nat->Value} {g:Nat->List Nat} {n o:Int} (b:WaveS p f own k i g n o) {H:Nat->Prop} (d:Keep H p w') (e:∀a,H a->own a≠2/\own a < 16):WaveS w' f own k i g n o:=by
 refine ⟨d.bk b.blk (fun c=>by have:=e _ c;have:=b.base.2;omega),b.base,fun y w=>?_,fun a l=>⟨(b.bnd a l).1,zAl (b.bnd a l).2 d.size⟩⟩;obtain ⟨q,s,j,t⟩:=b.rows y w;exact ⟨q,aA s fun a r u m=>d.bk m (fun c=>by have:=e _ c;have:=j a u;omega),j,fun z x=>(t z x).keep d fun a B r A m v c=>by
  have:=e a c;rw [v] at this;unfold TC at this;omega⟩
def WaveE.far {f w':World} {c:Nat} {own:Nat->Nat} {e:Nat} {d:List Nat} (b:WaveE f c own e d) {H:Nat->Prop} (j:Keep H f w') (i:∀a,H a->own a≠2/\own a < 16):WaveE w' c own e d:=by
 obtain ⟨g,k,b⟩:=b;exact ⟨g,k,b.far j i⟩
def WaveS.paint {c:World} {d:Nat} {own own':Nat->Nat} {e:Nat} {j:Nat->Value} {i:Nat->List Nat} {n o:Int} (b:WaveS c d own e j i n o) (f:∀a,a < c.heap.size->2<=own a->own' a=own a) (r:∀a,own' a≠0->d<=a/\a < c.heap.size):WaveS c d own' e j i n o:=by
 refine ⟨b.blk,⟨b.base.1,by rw [f e b.blk.lt (by rw [b.base.2];omega)];exact b.base.2⟩,fun v t=>?_,r⟩;obtain ⟨p,k,l,q⟩:=b.rows v t;refine ⟨p,k,fun a g=>?_,fun w u=>(q w u).mono fun a s m=>?_⟩;rw [f a (k.lt a g).2 (by rw [l a g];omega)];exact l a g;rw [f a s (by rw [m];unfold TC;omega)];exact m
def WaveE.paint {b:World} {c:Nat} {own own':Nat->Nat} {f:Nat} {e:List Nat} (d:WaveE b c own f e) (i:∀a,a < b.heap.size->2<=own a->own' a=own a) (j:∀a,own' a≠0->c<=a/\a < b.heap.size):WaveE b c own' f e:=by
 obtain ⟨g,k,d⟩:=d;exact ⟨g,k,d.paint i j⟩
end
end Go.Proofs.YtcoooelofcejbaaGreatDoor
