/- Lemmas of the walk. Conditions: each its own. -/
import Derived.Test.YtnmapianpjamnaaGreatDoorPk11
import Derived.Test.YtnmapianpjamnaaGreatDoorShl
import Derived.Test.YtnmapianpjamnaaGreatDoorProg
set_option linter.all false
set_option maxRecDepth 100000
set_option maxHeartbeats 4000000
open Go.Proofs.Tryz
namespace Go.Proofs.YtnmapianpjamnaaGreatDoor
section
open Go.RowKit Go
open Go.Sort (SortedIn PermIn SWO Holds)
def hD (n:Nat) (j:n<=1000000) (a:World):(Instr.makeSlice 27 (.int .i64 (n:Int)) (.int .i64 (n:Int))).run prog a=.ok (.slice (some a.heap.size) n n) (a.alloc (.cells (Array.replicate n (.int .i64 0)) 3)):=by
 obtain ⟨i,c,e,f,g⟩:=info_parts fZ;have:=run_make (P:=prog) a 27 3 i (.int .i64 0) underlying27 c e .i64 .i64 n n oM (Int.le_refl _) (by rw [g];omega) oM;rw [this,f];have b:madeCells #[.int .i64 0] n=Array.replicate n (.int .i64 0):=by apply Array.ext';rw [toList_madeCells_one];simp
 simp only [Value.cells,zBq,zBl];rw [b]
def eJ (n b:Nat):Array Value:=((List.range n).map fun a=>Value.int .i64 (((if a < b then a else 0:Nat)):Int)).toArray
def oG (n a:Nat):(eJ n a).size=n:=by simp [eJ]
def wW (n:Nat):eJ n 0=Array.replicate n (.int .i64 0):=by
 apply Array.ext
 · simp [eJ]
 · intro c a b;simp [eJ]
def wZ (n a:Nat) (g:a < n):(eJ n a).setIfInBounds a (.int .i64 (a:Int))=eJ n (a+1):=by
 apply Array.ext
 · simp [eJ]
 · intro e i f;rw [Array.getElem_setIfInBounds (by simpa [eJ] using f)];by_cases b:a=e
   · subst b;simp [eJ]
   · rw [zBv b];simp only [eJ,List.getElem_toArray,List.getElem_map,List.getElem_range];by_cases c:e < a
     · rw [zBw c,zBw oM]
     · rw [zBv c,zBv oM]
def aAe (m:Nat):eJ (m+1) (m+1)=(oB m).map (dT m):=by
 apply Array.ext
 · simp [eJ,oB]
 · intro c a e;have b:c < m+1:=(by simpa [eJ] using a);simp [eJ,oB,dT,b]
def yG {e:World} {b:Nat} {c:TypeId} {a:Array Value} {n B:Nat} (j:Bk e b c a) (k:B<=b) (i:a.size=n) (f:n<=maxLen):Made e B c 1 (some ⟨b,0,none⟩) n n a.toList:=by
 have g:e.ownsRow B c 1 (.slice (some b) n n) n a.toList:=⟨by simp [i],.inr ⟨b,n,a,rfl,k,j,zAs _,f,by omega,by rw [zAg (by simp [i])]⟩⟩;exact ⟨g,Rd.of_own g,zAs _,f⟩
def aB4 {m:Nat} (d:Array (Fin (m+1))):(d.map (dT m)).toList=(d.toList.map (·.val)).map sv:=by
 simp [dT,sv]
def qC {f:Array Value} {c e:Nat->Nat} {b g:Nat} (j:∀a,a < b->f[c a]?=some (.int .i64 ((e a:Nat):Int))) (o:c b < f.size) (k:∀a,a < b->c a≠c b) (p:e b=g) (a:Nat) (r:a < b+1):(f.setIfInBounds (c b) (.int .i64 (g:Int)))[c a]?=some (.int .i64 ((e a:Nat):Int)):=by
 by_cases i:a=b
 · subst i;rw [zCc,zBw rfl,zBw o,p]
 rw [zCc,zBv (fun q=>k a oM q.symm)];exact j a oM
structure RInv (B0:Nat) (w0:World) (m n:Nat) (l:List Nat) (gn gr gx:Nat) (wr:World) (gw g6 g7 c6 c7 wd:Nat) (d:Array (Fin (m+1))) (R:List Nat):Prop where
 wide:Bk wr gw 3 #[(wd:Int)]
 len:Bk wr gn 3 #[(n:Int)]
 box:Bk wr gr 27 #[.slice (some g6) n c6]
 rank:∃cs:Array Value,Bk wr g6 3 cs/\n<=cs.size/\∀(j:Nat) u,(R.map sv)[j]?=some u->cs[j]?=some u
 next:∃cs:Array Value,Bk wr g7 3 cs/\n<=cs.size
 rows:Bk wr gx 3 (d.map (dT m))
 ok:RowsOk m d
 ap:gx≠gw/\gx≠gn/\gx≠g6/\gx≠g7/\g7≠gw/\g7≠gn/\g7≠g6/\g6≠gw/\g6≠gn
 lo:B0<=gx/\B0<=g6/\B0<=g7/\B0<=gr
 cap:n<=c6/\n<=c7
 rlen:R.length=n
 rle:∀r∈R,r<=1000
 rk:RankOk (aN l) (aN R) wd
 wd1:1<=wd
 wdn:wd<=n
 below:Below B0 w0 wr
structure SetT (B:Nat) (T:TypeId) (w w':World):Prop where
 below:Below B w w'
 other:∀b t cs,t≠T->Bk w b t cs->Bk w' b t cs
 one:∀b c,Bk w b T #[c]->∃c',Bk w' b T #[c']
def SetT.set {g:Nat} {i:TypeId} {f:World} {a:Nat} {k:Value} (q:Bk f a i #[k]) (r:g<=a) (e:Value):SetT g i f (f.setCell a e):=by
 refine ⟨bR.setCell r _,fun j t s ht b=>?_,fun j o b=>?_⟩;exact b.far (fun c=>ht (by subst c;exact (aU b q).1)) _;by_cases c:j=a;subst c;exact ⟨e,b.set 0 e⟩;exact ⟨o,b.far (p:=a) c _⟩
section
variable {B0 : Nat} {w0 : World} {m n : Nat} {l : List Nat} {gn gr gx : Nat} {wr w' : World} {gw g6 g7 c6 c7 wd : Nat} {d d' : Array (Fin (m + 1))} {R : List Nat}
def tP {f:World} {e n:Nat} {R:List Nat} (k:R.length=n) (i:∃a:Array Value,Bk f e 3 a/\n<=a.size/\∀(b:Nat) c,(R.map sv)[b]?=some c->a[b]?=some c):Rd f f.heap.size 1 (some ⟨e,0,none⟩) n (R.map sv):=by
 obtain ⟨a,g,p,j⟩:=i;refine ⟨by simp [k],fun _=>⟨e,0,rfl,g.lt,fun b c o=>?_⟩⟩;rw [zBi,g.cell];exact j b c o
def RInv.ordk (a:RInv B0 w0 m n l gn gr gx wr gw g6 g7 c6 c7 wd d R) (b:Keep (fun g=>g=gx) wr w'):OrdAt w' gw gn gr wd n (some ⟨g6,0,none⟩) c6 R:=by
 obtain ⟨c,e,f,p,q,r,s,t,u⟩:=a.ap;obtain ⟨i,j,k,o⟩:=a.rank;exact ⟨((b.bk a.wide c.symm).cell 0).trans rfl,((b.bk a.len e.symm).cell 0).trans rfl,((b.bk a.box (Bk.ne a.box a.rows dC)).cell 0).trans rfl,tP a.rlen ⟨i,b.bk j f.symm,k,o⟩⟩
def RInv.keepx (a:RInv B0 w0 m n l gn gr gx wr gw g6 g7 c6 c7 wd d R) (b:Keep (fun c=>c=gx) wr w') (u:Bk w' gx 3 (d'.map (dT m))) (t:RowsOk m d'):RInv B0 w0 m n l gn gr gx w' gw g6 g7 c6 c7 wd d' R:=by
 obtain ⟨e,f,g,i,v,w,x,y,z⟩:=a.ap;obtain ⟨j,o,p,q⟩:=a.rank;obtain ⟨k,r,s⟩:=a.next
 exact ⟨b.bk a.wide e.symm,b.bk a.len f.symm,b.bk a.box (Bk.ne a.box a.rows dC),⟨j,b.bk o g.symm,p,q⟩,⟨k,b.bk r i.symm,s⟩,u,t,a.ap,a.lo,a.cap,a.rlen,a.rle,a.rk,a.wd1,a.wdn,
  a.below.trans (b.to_below (by have:=a.lo.1;have:=a.rows.lt;omega) (fun c B A=>by have:=a.lo.1;omega))⟩
def RInv.keep7 (a:RInv B0 w0 m n l gn gr gx wr gw g6 g7 c6 c7 wd d R) (b:Keep (fun e=>e=g7) wr w') (r:∃c:Array Value,Bk w' g7 3 c/\n<=c.size):RInv B0 w0 m n l gn gr gx w' gw g6 g7 c6 c7 wd d R:=by
 obtain ⟨s,t,u,f,g,i,j,v,w⟩:=a.ap;obtain ⟨c,k,o,p⟩:=a.rank;obtain ⟨x,q,z⟩:=a.next
 exact ⟨b.bk a.wide g.symm,b.bk a.len i.symm,b.bk a.box (Bk.ne a.box q dC),⟨c,b.bk k j.symm,o,p⟩,r,b.bk a.rows f,a.ok,a.ap,a.lo,a.cap,a.rlen,a.rle,a.rk,a.wd1,a.wdn,
  a.below.trans (b.to_below (by have:=a.lo.1;have:=a.rows.lt;omega) (fun e A y=>by have:=a.lo.2.2.1;omega))⟩
def RInv.grow (a:RInv B0 w0 m n l gn gr gx wr gw g6 g7 c6 c7 wd d R) (c:Below wr.heap.size wr w'):RInv B0 w0 m n l gn gr gx w' gw g6 g7 c6 c7 wd d R:=
 a.keep7 (Keep.of_below c) (by
  obtain ⟨e,b,f⟩:=a.next;exact ⟨e,b.below c b.lt,f⟩)
end
def iP (G:Option Addr) (m k cg:Nat) (K:List UInt8) (B:World) (a3:Rd B cg 1 G m (K.map bv)) (e7:cg<=B.heap.size) (fg:m<=895):
 Calls prog 72 #[.slice G m k] B fun q w'=>∃dE ar a8,IsSuf (aE K) dE/\q=.returned (.slice ar (m+1) a8)/\Made w' B.heap.size 3 1 ar (m+1) a8 (dE.map sv)/\Below B.heap.size B w':=by
 have dr:K.length=m:=by simpa using a3.1
 obtain ⟨dK,cC⟩:=hqq2 a3 dr;clear a3 dr;go_enter func72,ntmps72;go_wp2_with fail;obtain ⟨n,bV⟩:=eqx (m+1);have c2:=oX B.heap.size 0 G m k B.heap.size K (B.alloc (.cells #[.slice G m k] 22)) (Bk.new _ _ _) ((dK.out.mono e7).alloc nL _) (by simp) oM;rw [bV] at c2;have fi:n<=896:=oM;have eg:1<=n:=oM;have u:=lhd bV;clear bV;refine c2.mono ?_;clear c2;rintro q w1 ⟨bg,bA,rfl,di,d2⟩;have d3:=((Below.refl B.heap.size B).alloc nL _).trans (d2.mono (by simp));obtain ⟨cw,aF⟩:=hqq2 di d3;clear di d2 d3;go_wp2_with fail;obtain ⟨gn,aZ⟩:=eqx w1.heap.size;have az:Bk (w1.alloc (.cells #[(n:Int)] 3)) gn 3 #[(n:Int)]:=aZ ▸ Bk.new _ _ _;have b5:=cw.out.below (bR.alloc nL (.cells #[(n:Int)] 3));have bG:=aF.out.alloc aF.out.size (.cells #[(n:Int)] 3);have bF:=b5.rd;have eZ:B.heap.size<=gn:=aZ ▸ aF.out.size;rw [aZ];generalize w1.alloc (.cells #[(n:Int)] 3)=W0 at az b5 bG bF⊢;clear cw aF aZ;have d7:=az.cell 0;have dv:=az.lt;have bp:Hid (W0.cell? gn=some (.int .i64 (n:Int))):=lhd d7;obtain ⟨bq,cm,dH,aD,bl⟩:=hqq5 dv bF b5 bG az;clear d7 dv bF b5 bG az;refine wp_region_any kR ?_;refine nN [18,19,20,21,22,23,6,5,7] [6,19,21,23] 8 (SetT W0.heap.size 27) (Below W0.heap.size W0) [k0 (is (n:Int)),k0 (fun e s=>∃b,e=.slice (some ⟨b,0,none⟩) n n/\W0.heap.size<=b/\Bk s b 3 (Array.replicate n (.int .i64 0))),k0 (is (.slice bg n bA)),k0 (fun e s=>∃G k,e=.slice G n k/\Made s W0.heap.size 3 1 G n k ((aE K).map sv)),k0 (is (n:Int)),k0 (fun e s=>∃b,e=.slice (some ⟨b,0,none⟩) n n/\W0.heap.size<=b/\Bk s b 3 (Array.replicate n (.int .i64 0))),k0 (fun e s=>∃b k,e=.pointer (some ⟨b,0,none⟩)/\W0.heap.size<=b/\Bk s b 27 #[k]),kEq 19,kLk 6 21 (fun a4 e s=>∃b,a4=.pointer (some ⟨b,0,none⟩)/\W0.heap.size<=b/\Bk s b 27 #[e]),kEq 23] _ _ rfl kR kR (bR.drew) (oP rfl) (fun B w' H a=>a.elim (fun a=>H.trans (a.mono H.size)) (fun a=>H.trans a.below)) (by repeat' (first | exact xD _ | exact yK _ | exact aCm _ _ _ |(refine zAe.2 ⟨?_,?_⟩)|(intro F Q;cases Q))) (by repeat' (first | exact nC _ _ | exact tA _ | exact kK _ _ | exact eS (fun _ _ _ ⟨b,y,r,z⟩ a=>⟨b,y,r,z.below a z.lt⟩)| exact eS (fun _ _ _ ⟨G,k,y,r⟩ a=>⟨G,k,y,r.below a⟩)| exact eS (fun _ _ _ ⟨b,k,y,r,z⟩ a=>⟨b,k,y,r,z.below a z.lt⟩)| exact eS (fun _ _ _ _ ⟨b,y,r,z⟩ a=>⟨b,y,r,z.below a z.lt⟩)| exact kJ (fun _ _ _ ⟨b,y,r,z⟩ a=>⟨b,y,r,z.below a z.lt⟩)| exact kJ (fun _ _ _ ⟨G,k,y,r⟩ a=>⟨G,k,y,r.below a⟩)| exact kJ (fun _ _ _ ⟨b,k,y,r,z⟩ a=>⟨b,k,y,r,z.below a z.lt⟩)| exact kJ (fun _ _ _ _ ⟨b,y,r,z⟩ a=>⟨b,y,r,z.below a z.lt⟩)|(refine zAe.2 ⟨?_,?_⟩)|(intro F Q;cases Q))) (by simp only [List.eraseIdx_cons_zero,List.eraseIdx_cons_succ,List.eraseIdx_nil];repeat' (first | exact nC _ _ | exact tA _ | exact kK _ _ | exact eS (fun _ _ _ ⟨b,y,r,z⟩ a=>⟨b,y,r,a.other _ _ _ dC z⟩)| exact eS (fun _ _ _ ⟨G,k,y,r⟩ a=>⟨G,k,y,qD r fun S C W=>a.other _ _ _ dC W⟩)| exact eS (fun _ _ _ ⟨b,k,y,r,z⟩ a=>let ⟨a8,cW⟩:=a.one _ _ z;⟨b,a8,y,r,cW⟩)|(refine zAe.2 ⟨?_,?_⟩)|(intro F Q;cases Q))) ?_ ?_
 · refine bN ?_;refine aB (bJ rfl rfl fun x _ I _ _ _ A _ _ _ _ J=>?_) ?_
   · obtain ⟨D,P⟩:=I;have e2:x (.tmp 4)=.pointer (some gn):=A 4 kR;clear A;have ea:=(D.cell (p:=gn) bq.out).trans bp.out;go_simp;exact J _ _ (bW bR rfl rfl) rfl
   refine aB (bJ rfl rfl fun _ _ I _ _ _ A E _ _ _ J=>?_) ?_
   · obtain ⟨D,P⟩:=I;have eI:_=_:=E 0 18 kR rfl;clear A;have ep:=hD n oM;go_simp;exact J _ _ (eY (bR.alloc nL _) rfl (fun b N=>by simp [blk?] at N;subst N;simp)) ⟨_,rfl,D.size,Bk.new _ _ _⟩
   refine aB (bJ rfl rfl fun x _ I _ _ _ A _ _ _ _ J=>?_) ?_
   · obtain ⟨D,P⟩:=I;have eM:x (.tmp 3)=.slice bg n bA:=A 3 kR;clear A;go_simp;exact J _ _ (bW bR rfl rfl) rfl
   refine aB (bJ rfl rfl fun _ _ I _ _ _ A E cH _ _ J=>?_) ?_
   · obtain ⟨D,P⟩:=I;have eK:_=_:=E 2 20 kR rfl;clear A;go_simp;refine (pO bg n bA W0.heap.size (aE K) _ (cm.out.below D) D.size oM).mono ?_;rintro q fC ⟨ar,a8,rfl,bU,e8⟩;refine J _ _ (eY e8 rfl (fun b N=>?_)) ⟨ar,a8,rfl,bU.mono D.size⟩;obtain ⟨_,_,_,_,fr⟩:=aJ bU.own;rcases ar with _ | cH
     · simp [blk?] at N
     obtain ⟨ew,dW,a2,_,aY⟩:=aJ bU.own;injection a2 with a2;have:=aY cH a2.symm;simp [blk?] at N;subst N;exact this
   refine aB (bJ rfl rfl fun x _ I _ _ _ A _ _ _ _ J=>?_) ?_
   · obtain ⟨D,P⟩:=I;have e2:x (.tmp 4)=.pointer (some gn):=A 4 kR;clear A;have ea:=(D.cell (p:=gn) bq.out).trans bp.out;go_simp;exact J _ _ (bW bR rfl rfl) rfl
   refine aB (bJ rfl rfl fun _ _ I _ _ _ A E _ _ _ J=>?_) ?_
   · obtain ⟨D,P⟩:=I;have eL:_=_:=E 4 22 kR rfl;clear A;have ep:=hD n oM;go_simp;exact J _ _ (eY (bR.alloc nL _) rfl (fun b N=>by simp [blk?] at N;subst N;simp)) ⟨_,rfl,D.size,Bk.new _ _ _⟩
   refine aB (bJ rfl rfl fun _ _ I _ _ _ A _ _ _ _ J=>?_) ?_
   · obtain ⟨D,P⟩:=I;clear A;go_simp;exact J _ _ (eY (bR.alloc nL _) rfl (fun b N=>by simp [blk?] at N;subst N;simp)) ⟨_,_,rfl,D.size,Bk.new _ _ _⟩
   refine aB (bJ rfl rfl fun x aq I _ _ _ A E _ _ _ J=>?_) ?_
   · obtain ⟨D,P⟩:=I;have ca:(fun e s=>∃b,e=.slice (some ⟨b,0,none⟩) n n/\W0.heap.size<=b/\Bk s b 3 (Array.replicate n (.int .i64 0))) (x (.tmp 19)) aq:=E 1 19 kR rfl;clear A;clear ca;go_simp;exact J _ _ (bW bR rfl rfl) (by first | exact e19.symm | rfl)
   refine aB (bJ rfl rfl fun x aq I _ _ _ A E _ _ _ J=>?_) ?_
   · obtain ⟨D,P⟩:=I;have cd:(fun e s=>∃b k,e=.pointer (some ⟨b,0,none⟩)/\W0.heap.size<=b/\Bk s b 27 #[k]) (x (.tmp 6)) aq:=E 6 6 kR rfl;have cb:(fun e s=>∃G k,e=.slice G n k/\Made s W0.heap.size 3 1 G n k ((aE K).map sv)) (x (.tmp 21)) aq:=E 3 21 kR rfl;clear A;obtain ⟨b,k,e3,N,W⟩:=cd;obtain ⟨ev,eC,e1,fh⟩:=cb;have c6:=W.cell 0;have eN:=W.frozen 0;have eX:=W.lt;go_simp;exact J (.bool true) _ (aBi (SetT.set W N _) (by simp [World.setCell]) rfl) ⟨b,e3,N,by rw [e1];exact W.set 0 _⟩
   refine aB (bJ rfl rfl fun x aq I _ _ _ A E _ _ _ J=>?_) ?_
   · obtain ⟨D,P⟩:=I;have cc:(fun e s=>∃b,e=.slice (some ⟨b,0,none⟩) n n/\W0.heap.size<=b/\Bk s b 3 (Array.replicate n (.int .i64 0))) (x (.tmp 23)) aq:=E 5 23 kR rfl;clear A;clear cc;go_simp;exact J _ _ (bW bR rfl rfl) (by first | exact e23.symm | rfl)
   exact aP
 · intro x a5 D P E d1;have cT:x (.tmp 5)=x (.tmp 19):=E 7 5 rfl;have cd:(fun e s=>∃b k,e=.pointer (some ⟨b,0,none⟩)/\W0.heap.size<=b/\Bk s b 27 #[k]) (x (.tmp 6)) a5:=E 6 6 rfl;have cU:x (.tmp 7)=x (.tmp 23):=E 9 7 rfl;have ca:(fun e s=>∃b,e=.slice (some ⟨b,0,none⟩) n n/\W0.heap.size<=b/\Bk s b 3 (Array.replicate n (.int .i64 0))) (x (.tmp 19)) a5:=E 1 19 rfl;have cb:(fun e s=>∃G k,e=.slice G n k/\Made s W0.heap.size 3 1 G n k ((aE K).map sv)) (x (.tmp 21)) a5:=E 3 21 rfl;have cc:(fun e s=>∃b,e=.slice (some ⟨b,0,none⟩) n n/\W0.heap.size<=b/\Bk s b 3 (Array.replicate n (.int .i64 0))) (x (.tmp 23)) a5:=E 5 23 rfl;obtain ⟨fB,dB⟩:=d1 8 dC;have er:(fun a4 e s=>∃b,a4=.pointer (some ⟨b,0,none⟩)/\W0.heap.size<=b/\Bk s b 27 #[e]) (x (.tmp 6)) (x (.tmp 21)) a5:=dB;clear dB;simp only [zqq];clear E d1;obtain ⟨gx,b9,du,c5⟩:=ca;obtain ⟨g7,aX,eU,cZ⟩:=cc;obtain ⟨dG,c6,aW,bE⟩:=cb;obtain ⟨gr,dm,fn,c1⟩:=er;rw [aW] at c1;obtain ⟨g6,rfl,eT,cX⟩:∃g6,dG=some ⟨g6,0,none⟩/\W0.heap.size<=g6/\∃C:Array Value,Bk a5 g6 3 C/\n<=C.size/\∀(c:Nat) a4,((aE K).map sv)[c]?=some a4->C[c]?=some a4:=by
    rcases bE.own.2 with ⟨H,_⟩|⟨b,eD,dY,H,r,z,cW,eQ,eR,e6⟩;injection H with aY a2;omega
    · injection H with aY a2 h10;refine ⟨b,aY,r,dY,z,by omega,fun c a4 b7=>?_⟩;rw [<-e6,zBr,Array.getElem?_toList] at b7;split at b7;exact b7
      · cases b7
   have d8:gx≠g7:=fun q=>P.2 19 (by simp) 23 (by simp) dC gx (by rw [b9];rfl) (by rw [aX,q];rfl);have d9:gx≠g6:=fun q=>P.2 19 (by simp) 21 (by simp) dC gx (by rw [b9];rfl) (by rw [aW,q];rfl);have da:g7≠g6:=fun q=>P.2 23 (by simp) 21 (by simp) dC g7 (by rw [aX];rfl) (by rw [aW,q];rfl);have eb:=bl.out.lt;have d4:=bl.out.below D eb;have dd:=aD.out.trans (D.mono aD.out.size);have fa:=aD.out.size;rw [<-wW] at c5;have ag:n<=c6:=bE.cap;rw [cT,cU,b9,aX,dm];obtain ⟨aQ,bi,ch,aM,bm,Z⟩:=hqq6 c5 cZ cX c1 d4 dd;have cq:gx≠g7/\gx≠g6/\g7≠g6:=⟨d8,d9,da⟩;have cl:=lhd cq;clear cT cU b9 aX dm c5 cZ cX c1 d4 dd cq d8 d9 da D P cd aW bE cm dH aD bl bp bq;go_wp2_with fail;go_loopw [26,8] (fun o _ wr=>∃a:Nat,a<=n/\o=.int .i64 a/\Bk wr gx 3 (eJ n a)/\Keep (fun S=>S=gx) a5 wr) (fun o _ _=>n -(intOf o).toNat)
   case atStart=>exact ⟨0,by omega,rfl,aQ.out,Keep.refl _ _⟩
   case round=>
    obtain ⟨a,ed,rfl,ae,Y⟩:=hrel;by_cases b4:a < n
    · have cI:=ae.cell a;have e4:=ae.frozen a;rw [zAq (by rw [oG];exact b4)] at cI;obtain ⟨aG,a1⟩:=hqq2 ae Y;clear ae Y;generalize (eJ n a)[a]'(by rw [oG];exact b4)=u0 at cI;go_wp2_with fail;go_roundw
      case rel=>exact ⟨a+1,by omega,by go_num,by rw [<-wZ _ _ b4];exact aG.out.set a _,a1.out.setCell (.inl rfl) _⟩
      case measure=>simp [intOf];omega
    · obtain rfl:n=a:=oM;obtain ⟨aG,a1⟩:=hqq2 ae Y;clear ae Y;go_wp2_with fail;obtain ⟨gw,bQ⟩:=eqx wr.heap.size;have d5:Bk (wr.alloc (.cells #[(1:Int)] 3)) gw 3 #[(1:Int)]:=bQ ▸ Bk.new _ _ _
      have aj:RInv B.heap.size B m n (aE K) gn gr gx (wr.alloc (.cells #[(1:Int)] 3)) gw g6 g7 c6 n 1 (oB m) (aE K):=by
         obtain ⟨cR,cS,dZ⟩:=cl.out;obtain ⟨C,dw,el,em⟩:=ch.out;have ak:=a1.out;have ba:=ak.size;have ft:=aQ.out.lt;have fu:=bm.out.lt;have fv:=bi.out.lt;have eq:=dw.lt;have fy:=aM.out.lt;refine ⟨d5,(ak.bk bm.out (fun q=>by have:=du;omega)).alloc _,(ak.bk aM.out (fun q=>by subst q;exact Bk.ne aM.out aQ.out dC rfl)).alloc _,⟨C,(ak.bk dw (fun q=>cS q.symm)).alloc _,el,em⟩,⟨_,(ak.bk bi.out (fun q=>cR q.symm)).alloc _,by simp⟩,?_,aAY m,?_,?_,⟨ag,zAs _⟩,?_,?_,wD _,zAs _,eg,?_⟩;have:=aG.out;rw [<-u.out,aAe] at this;exact this.alloc _
         · refine ⟨?_,?_,cS,cR,?_,?_,dZ,?_,?_⟩<;> omega
         · refine ⟨?_,?_,?_,?_⟩<;> omega
         · rw [aK,cC.out,u.out]
         intro cf a3;have:=gI K cf a3;omega;refine (Z.out.trans ?_).alloc oM _;exact ak.to_below (by have:=Z.out.size;omega) (fun S W q=>by have:=du;omega)
      rw [bQ];generalize wr.alloc (.cells #[(1:Int)] 3)=W8 at aj⊢;have av:=lhd aj;clear aj d5 bQ aG a1 cl ch bm aM bi aQ Z
      go_loopg [7,9] (n) (fun gk bd be wr=>∃gw g6 g7 c6 c7 wd d R,bd=.slice (some ⟨g7,0,none⟩) n c7/\be=.pointer (some ⟨gw,0,none⟩)/\n - wd<=gk/\RInv B.heap.size B m n (aE K) gn gr gx wr gw g6 g7 c6 c7 wd d R)
      case atStart=>exact ⟨_,_,_,_,_,_,_,_,rfl,rfl,by omega,av.out⟩
      case round=>
         clear av;obtain ⟨gw,g6,g7,c6,c7,wd,d,R,rfl,rfl,fb,aj⟩:=hrel;have av:=lhd aj;clear aj;go_wp2_with fail;obtain ⟨ab,bP⟩:=eqx wr.heap.size;have ad:Bk (wr.alloc (.cells #[.func (.func 152) #[] #[.pointer (some ⟨gw,0,none⟩),gn,gr]] 64)) ab 64 #[.func (.func 152) #[] #[.pointer (some ⟨gw,0,none⟩),gn,gr]]:=bP ▸ Bk.new _ _ _;have M:=av.out.grow ((Below.refl wr.heap.size wr).alloc nL (.cells #[.func (.func 152) #[] #[.pointer (some ⟨gw,0,none⟩),gn,gr]] 64));rw [bP];generalize wr.alloc (.cells #[.func (.func 152) #[] #[.pointer (some ⟨gw,0,none⟩),gn,gr]] 64)=W1 at ad M⊢;have bL:d.size=n:=(by rw [M.ok.size,u.out]);have d6:CmpReads prog 153 #[gr,ab] (dT m) (cfF m wd R) gx 0 d.size W1:=fun t am e0 eW bd be=>by have a:=iW (enc:=dT m) M.rows.lt 0 t e0 am;exact qM gw gn gr ab wd n c6 (some ⟨g6,0,none⟩) R bd.val be.val _ (M.ordk a) (((a.bk ad (Bk.ne ad M.rows dC)).cell 0).trans rfl) (by have:=M.wdn;omega) oM M.rle (by have:=bd.isLt;have:=u.out;omega) (by have:=be.isLt;have:=u.out;omega)
         have c3:=Any.slices_SortFunc shSort (dT m) (kW m) (cfF m wd R) (aCQ m M.rk) 153 #[gr,ab] gx 0 n d W1 (enters_of func153 kR rfl) d6.lays (aBM M.rows) M.rows.lt oM;rw [bL] at c3;refine c3.mono ?_;clear c3 d6;rintro q aR ⟨rfl,d',nq,am,bY,c4,rfl⟩;have dl:RowsOk m d':=M.ok.of_perm (by rw [bL];exact bY);have b0:=M.keepx (iW (enc:=dT m) M.rows.lt 0 nq d' am) (aB1 M.rows bY.1 nq am) dl;have bH:=(iW (enc:=dT m) M.rows.lt 0 nq d' am).bk ad (Bk.ne ad M.rows dC);generalize Go.Proofs.sortWorld (dT m) W1 gx 0 nq d' am=aR at b0 bH⊢;have dp:∀o,o+1 < n->¬ltW (aN (aE K)) (wd+wd) (cD d' (o+1)) (cD d' o):=(by rw [<-u.out] at c4⊢;exact fun o ai=>aAQ b0.rk dl.size c4 o ai);obtain ⟨cB,a6,cn⟩:=hqq3 dp b0 bH;clear dp M b0 ad bH bY c4 bL av bP;have ay:=u.out;have dh:=a6.out.ok.lt 0;have cQ:aR.cell? gx=some (.int .i64 ((cD d' 0:Nat):Int)):=(a6.out.rows.cell 0).trans (a6.out.ok.cell oM);obtain ⟨dX,bc,dy⟩:=a6.out.next;obtain ⟨an,bX⟩:=eqx (cD d' 0);rw [bX] at cQ dh;have bB:=bc.cell an;rw [zAq oM] at bB;have e5:=bc.frozen an;generalize dX[an]' oM=u7 at bB;have eh:an < n:=oM;obtain ⟨cF,cy⟩:=hqq2 bc bX;clear bc bX ay dh;go_wp2_with fail;clear cQ bB e5;go_loopw [12] (fun o dF=>∃a:Nat,1<=a/\a<=n/\o=.int .i64 a/\∃C:Array Value,Bk dF g7 3 C/\n<=C.size/\(∀c,c < a->C[cD d' c]?=some (.int .i64 ((cN (fN (aN R) wd) (cD d') c:Nat):Int)))/\Keep (fun S=>S=g7) aR dF) (fun o _=>n -(intOf o).toNat)
         case atStart=>refine ⟨1,by omega,by omega,rfl,_,cF.out.set an _,by simpa using dy,fun c aC=>?_,(Keep.refl (fun S=>S=g7) aR).setCell (p:=⟨g7,an,none⟩) (.inl rfl) _⟩;obtain rfl:c=0:=oM;rw [cy.out,zCc,zBw rfl,zBw oM];rfl
         case round=>
          clear cF cy eh dy;obtain ⟨a,fe,ed,rfl,C,X,aA,af,Y⟩:=hrel;have L:=a6.out.keep7 Y ⟨C,X,aA⟩;by_cases b4:a < n
          · obtain ⟨c,aC⟩:∃c,a=c+1:=⟨a - 1,by omega⟩;have ay:=u.out;have a0:wr.cell? ⟨gx,a,none⟩=some (.int .i64 ((cD d' a:Nat):Int)):=(L.rows.cell a).trans (L.ok.cell oM);have a9:wr.cell? ⟨gx,c,none⟩=some (.int .i64 ((cD d' c:Nat):Int)):=(L.rows.cell c).trans (L.ok.cell oM);have aT:=(X.cell (cD d' c)).trans (af c oM);have dA:=L.ok.lt a;have dz:=L.ok.lt c;have ax:=X.cell (cD d' a);rw [zAq oM] at ax;have bD:=X.frozen (cD d' a);generalize C[cD d' a]' oM=uk at ax;have aS:=(L.len.cell 0).trans rfl;have aV:IntKind.i64.wrap ((a:Int) - 1)=(c:Int):=(by rw [IntKind.wrap_i64];omega);have ee:decide ((a:Int) < (n:Int))=true:=(by simp;omega);obtain ⟨O,c0⟩:=eqx (cD d' a);obtain ⟨ao,bZ⟩:=eqx (cD d' c);obtain ⟨e,b8⟩:=eqx (cN (fN (aN R) wd) (cD d') c);have ds:=mS (fN (aN R) wd) (cD d') 0 c;rw [zBi,b8] at ds;have fo:e<=1000:=(by have:cN (fN (aN R) wd) (cD d') 0=0:=rfl;omega);rw [c0] at a0 dA ax bD;rw [bZ] at a9 dz aT;rw [b8] at aT;have ej:O < n:=oM;have ei:ao < n:=oM;have fd:c < n:=oM;obtain ⟨au,U,aH,a1,g,aw,cz,dM,aL⟩:=hqq9 X aA af Y L c0 bZ b8 aC;clear X aA af Y L c0 bZ b8 ds ay dA dz aC;go_wp2_with fail;refine wp_region_still_tail 14 kR kR ?_;simp only [List.take_succ_cons,List.take_zero,List.drop_succ_cons,List.drop_zero];change wpStill _ _ wr.drew (fun dO=>wpList _ _ _ _ dO wr.drew) _ _;have cL:wr.drew.cell? ⟨gx,a,none⟩=_:=a0;have cK:wr.drew.cell? ⟨gx,c,none⟩=_:=a9;have cO:wr.drew.cell? ⟨g7,ao,none⟩=_:=aT;have cP:wr.drew.cell? ⟨g7,O,none⟩=_:=ax;have cV:wr.drew.frozen? ⟨g7,O,none⟩=false:=bD;obtain ⟨bn,bs,br⟩:=hqq3 au.out.drew a1.out.drew (g.out.keep7 (Keep.refl _ _).drew ⟨C,au.out.drew,U.out⟩);clear a0 a9 aT ax bD aS au a1 g;generalize wr.drew=W5 at cL cK cO cP cV bn bs br⊢
            iterate 14 still_step
            refine wpStill_nil ?_;go_wp2_with fail;have ag:=bn.out.set O (.int .i64 (e:Int));have b2:=bs.out.setCell (p:=⟨g7,O,none⟩) (.inl rfl) (.int .i64 (e:Int));have T:=br.out.keep7 ((Keep.refl (fun S=>S=g7) W5).setCell (p:=⟨g7,O,none⟩) (.inl rfl) (.int .i64 (e:Int))) ⟨_,ag,by simpa using U.out⟩
            have bI:=b2.bk cn.out (fun q=>by
               obtain ⟨eG,a2,_⟩:=a6.out.next;subst q;exact Bk.ne cn.out a2 dC rfl)
            generalize W5.setCell ⟨g7,O,none⟩ (.int .i64 (e:Int))=W6 at ag b2 T bI⊢;clear cL cK cO cP cV bn bs br;have a0:W6.cell? ⟨gx,a,none⟩=some (.int .i64 (O:Int)):=(by rw [<-aw.out];exact (T.rows.cell a).trans (T.ok.cell (by have:=u.out;omega)));have a9:W6.cell? ⟨gx,c,none⟩=some (.int .i64 (ao:Int)):=(by rw [<-cz.out];exact (T.rows.cell c).trans (T.ok.cell (by have:=u.out;omega)));obtain ⟨bf,ba⟩:=eqx (fN (aN R) wd ao O);have c9:∀t:Nat,Calls prog 153 #[(ao:Int),(O:Int),gr,ab] (W6.drewN t) fun q w'=>q=.returned (.int .i64 bf)/\∃ce,w'=W6.drewN ce:=fun t=>by have H:=qM gw gn gr ab wd n c6 (some ⟨g6,0,none⟩) R ao O (W6.drewN t) ((T.ordk (Keep.refl _ _)).drewN t) ((bI.drewN t).cell 0) (by have:=T.wdn;omega) oM T.rle ei ej;rw [ba] at H;exact H.mono fun _ _ ⟨bM,ce,b6⟩=>⟨bM,t+ce,by rw [b6,World.drewN_drewN]⟩
            obtain ⟨aI,cu,dJ,dN⟩:=hqq4 ag b2 T ba;have aU:((a:Int) - 1).toNat=c:=(by have:=aL.out;omega);have aa:(0:Int)<=(a:Int) - 1:=(by have:=aL.out;omega);clear ag b2 T bI ba;go_quiet ((with_reducible exact c9 _));have bO:cD d' a < C.size:=(by rw [aw.out];have:=U.out;omega);have bS:∀bb,bb < a->cD d' bb≠cD d' a:=fun bb fc q=>by have:=dJ.out.ok.inj (i:=bb) (j:=a) (by have:=u.out;omega) (by have:=u.out;omega) q;omega
            have ah:cN (fN (aN R) wd) (cD d') a=e+(if bf≠0 then 1 else 0):=(by rw [aL.out,<-dM.out];show cN _ _ c+(if fN (aN R) wd (cD d' c) (cD d' (c+1))≠0 then 1 else 0)=_;rw [<-aL.out,aw.out,cz.out,dN.out]);obtain ⟨cr,ct⟩:=hqq2 bO bS;by_cases c8:bf=0
            · subst c8;rw [zBv (by simp),zBp] at ah;have bo:=lhd ah;clear ah bO bS a0 a9 c9 aU aa aV;go_wp2_with fail;go_roundw
              case rel=>refine ⟨a+1,by omega,by omega,by go_num,_,aI.out.drewN _,by simpa using U.out,?_,cu.out.drewN _⟩;have:=qC aH.out cr.out ct.out bo.out;rw [aw.out] at this;exact this
              case measure=>simp [intOf];omega
            · rw [zBw c8] at ah;have bo:=lhd ah;have dW:W6.cell? ⟨g7,O,none⟩=some (.int .i64 (e:Int)):=(by rw [aI.out.cell,zCc,zBw rfl,zBw (by have:=U.out;omega)]);have eO:=aI.out.frozen O;have fp:IntKind.i64.wrap ((e:Int)+1)=((e+1:Nat):Int):=(by rw [IntKind.wrap_i64];omega);have fs:(bf==0)=false:=(by simpa using c8);clear ah bO bS a9 c9 aU aa aV;go_wp2_with fail;go_roundw
              case rel=>refine ⟨a+1,by omega,by omega,by go_num,_,(aI.out.drewN nq).set O _,by simpa using U.out,?_,(cu.out.drewN nq).setCell (p:=⟨g7,O,none⟩) (.inl rfl) _⟩;have:=qC aH.out cr.out ct.out bo.out;rw [aw.out] at this;rw [qW];exact this
              case measure=>simp [intOf];omega
          · obtain rfl:n=a:=oM;have ay:=u.out;obtain ⟨t,b6⟩:∃t,n=t+1:=⟨n - 1,by omega⟩;obtain ⟨al,b3⟩:=eqx (cN (fN (aN R) wd) (cD d') t);have db:=mS (fN (aN R) wd) (cD d') 0 t;rw [zBi,b3] at db;have ff:al<=t:=(by have:cN (fN (aN R) wd) (cD d') 0=0:=rfl;omega);obtain ⟨F,Q⟩:=eqx (cD d' t);have fk:F < n:=(by have:=L.ok.lt t;omega);have ac:=L.box;have eE:=(L.len.cell 0).trans rfl;have ey:=ac.cell 0;have e4:=ac.frozen 0;have b1:∀b C,Bk wr b 3 C->Bk (wr.setCell gr (.slice (some ⟨g7,0,none⟩) n c7)) b 3 C:=fun b C H=>H.far (p:=gr) (Bk.ne H ac dC) _;have a0:(wr.setCell gr (.slice (some ⟨g7,0,none⟩) n c7)).cell? ⟨gx,t,none⟩=some (.int .i64 (F:Int)):=(by rw [<-Q];exact ((b1 _ _ L.rows).cell t).trans (L.ok.cell oM));have cM:(wr.setCell gr (.slice (some ⟨g7,0,none⟩) n c7)).cell? ⟨g7,F,none⟩=some (.int .i64 (al:Int)):=(by rw [<-Q,<-b3];exact ((b1 _ _ X).cell _).trans (af t oM));have aS:=((b1 _ _ L.len).cell 0).trans rfl;have cJ:=(ac.set 0 (.slice (some ⟨g7,0,none⟩) n c7)).cell 0;have bC:=((b1 _ _ L.wide).cell 0).trans rfl;have ef:t < n:=oM;have aV:IntKind.i64.wrap ((n:Int) - 1)=(t:Int):=(by rw [IntKind.wrap_i64];omega);obtain ⟨bw,cv,ex,g,au,U,aH,dI,ck⟩:=hqq9 b6 b3 Q L X aA af ac b1;have ee:decide ((n:Int) < (n:Int))=false:=(by simp);clear b6 b3 Q L X aA af Y ac b1 ay db;go_wp2_with fail;have bK:=dI.out.set 0 (.slice (some ⟨g7,0,none⟩) n c7);have bT:=(Keep.refl (fun S=>S=gr) wr).setCell (p:=gr) (.inl rfl) (.slice (some ⟨g7,0,none⟩) n c7);have b1:=ck.out;generalize wr.setCell gr (.slice (some ⟨g7,0,none⟩) n c7)=W9 at a0 cM aS cJ bC bK bT b1⊢;have dn:=b1 _ _ g.out.rows;have d0:=b1 _ _ au.out;have dt:=b1 _ _ g.out.wide;have dj:=b1 _ _ g.out.len;obtain ⟨eF,dx,en,eo⟩:=g.out.rank;have cY:=b1 _ _ dx;have de:=g.out.below.trans (bT.to_below (by have:=g.out.lo.1;have:=g.out.rows.lt;omega) (fun S W q=>by have:=g.out.lo.2.2.2;omega));obtain ⟨cp,cA,cj,cE,cx,ci,a7⟩:=hqq7 bK dn d0 dt dj cY de;clear bK bT b1 dn d0 dt dj cY de dx eo ck;have aU:((n:Int) - 1).toNat=t:=(by have:=bw.out;omega);have aa:(0:Int)<=(n:Int) - 1:=(by have:=bw.out;omega);have dk:∀o c,fN (aN R) wd o c=0↔eqW (aN (aE K)) (wd+wd) o c:=aB9 g.out.rk;have df:(aE K).length=n:=(by rw [aK,cC.out,u.out]);obtain ⟨bu,V⟩:=hqq2 dk df;clear dk df;go_quiet (fail);clear aU aa aV a0 cM aS cJ bC;obtain ⟨co,aO,bj,bx,bt,bh⟩:=hqq6 (cp.out.drewN nq) (cA.out.drewN nq) (cj.out.drewN nq) (cE.out.drewN nq) (cx.out.drewN nq) (ci.out.drewN nq);have dc:Below B.heap.size B (W9.drewN nq):=⟨a7.out.os,a7.out.tape,a7.out.output,a7.out.size,a7.out.block⟩;have Z:=lhd dc;clear dc cp cA cj cE cx ci a7;generalize W9.drewN nq=W10 at co aO bj bx bt bh Z⊢;by_cases dg:al=t
            · subst dg;have dq:=g.out.ok.suf (l:=aE K) (by rw [V.out,u.out]) (w:=wd+wd) (fun o c ec aC=>aC7 bu.out cB.out oM (by have:=bw.out;have:=cv.out;rw [show n - 1=al by omega];exact this) o c ec (by have:=u.out;omega));have dL:=lhd dq;clear dq;go_wp2_with fail;go_ret;refine ⟨_,some ⟨gx,0,none⟩,n,dL.out,by rw [u.out];rfl,?_,Z.out⟩;rw [<-aB4];have:=yG aO.out g.out.lo.1 (n:=n) (by simp [g.out.ok.size,u.out]) (by unfold maxLen;omega);have e9:∀bz,Made W10 B.heap.size 3 1 (some ⟨gx,0,none⟩) n n bz->Made W10 B.heap.size 3 1 (some ⟨gx,0,none⟩) (m+1) n bz:=fun bz H=>by rw [u.out];exact H
              exact e9 _ this
            · have fl:((al:Int)==(t:Int))=false:=(by simp;omega);have fm:(al==t)=false:=(by simp;omega);have bC:=bx.out.cell 0;have eH:=bx.out.lt;have fq:wd<=896:=(by have:=g.out.wdn;omega);go_wp2_with fail;have fj:wd+wd < n:=by rcases zBe (wd+wd) n with H | H;exact H;exfalso;apply dg;rw [<-cv.out];refine aCs (n:=n) (fun o ai bM=>?_) t ef;have:=(bu.out _ _).1 bM;have eV:=u.out;refine aCe (l:=aE K) (by rw [V.out];exact H) (by rw [V.out];have:=g.out.ok.lt o;omega) (by rw [V.out];have:=g.out.ok.lt (o+1);omega) (fun q=>?_) this;have:=g.out.ok.inj oM oM q;omega
              go_roundg (n -(wd+wd))
              case measure=>have:=g.out.wd1;omega
              case rel=>
               obtain ⟨cG,dD,es,et,eu⟩:=aA3 (cs:=C) (f:=cD d') (v:=cN (fN (aN R) wd) (cD d')) U.out (fun c _=>by have:=g.out.ok.lt c;have:=u.out;omega) aH.out (fun F Q=>by
                obtain ⟨o,y,r⟩:=g.out.ok.sur (p:=F) (by have:=u.out;omega);exact ⟨o,by have:=u.out;omega,r⟩)
               have ek:RankOk (aN (aE K)) (aN cG) (wd+wd):=(by refine zP (by have:=g.out.wd1;omega) bu.out (fun o ai=>cB.out o (by rw [<-V.out];exact ai)) (by rw [dD,V.out]) (fun o ai=>es o (by rw [<-V.out];exact ai)) (fun F Q=>?_);obtain ⟨o,y,r⟩:=g.out.ok.sur (p:=F) (by have:=u.out;rw [V.out] at Q;omega);exact ⟨o,by have:=u.out;rw [V.out];omega,r⟩);obtain ⟨ez,dP,dQ,dR,eA,dS,dU,eB,dV⟩:=g.out.ap;have fA:=aO.out.lt;have fz:=g.out.wd1;have fw:=bj.out.lt;have eq:=bh.out.lt;have fx:=bt.out.lt;have aa:(wd:Int)*2=((wd+wd:Nat):Int):=oM;rw [aa];refine ⟨_,_,_,_,_,wd+wd,d',cG,rfl,rfl,zAs _,Bk.new _ _ _,bt.out.alloc _,co.out.alloc _,⟨_,bj.out.alloc _,U.out,et⟩,⟨_,bh.out.alloc _,en⟩,aO.out.alloc _,g.out.ok,⟨?_,dP,dR,dQ,?_,dV,dU.symm,?_,dS⟩,⟨g.out.lo.1,g.out.lo.2.2.1,g.out.lo.2.1,g.out.lo.2.2.2⟩,⟨g.out.cap.2,g.out.cap.1⟩,dD,?_,ek,by omega,by omega,Z.out.alloc Z.out.size _⟩;omega;omega;omega;intro cf a3;obtain ⟨c,aC,rfl⟩:=eu cf a3;have:=mS (fN (aN R) wd) (cD d') 0 c;rw [zBi] at this;have eP:cN (fN (aN R) wd) (cD d') 0=0:=rfl;omega
end
section
open Go.RowKit
def WaveAt.mono {e:World} {B B' b:Nat} {a:List Nat} (g:WaveAt e B b a) (c:B'<=B):WaveAt e B' b a:=by
 obtain ⟨i,f,p,j,k⟩:=g;exact ⟨zAk c i,f,p,j,fun lv o=>(k lv o).mono c⟩
def WalkAt (a:World) (f gk:Nat) (b:List Nat):Prop:=
 ∃e c,Bk a gk 148 #[.pointer (some ⟨e,0,none⟩),.pointer (some ⟨c,0,none⟩)]/\WaveAt a f e b/\Bk a c 236 (tcells b)
def WalkAt.vis {e w':World} {b gk:Nat} {c:List Nat} (i:WalkAt e b gk c) (a:Vis e w'):WalkAt w' b gk c:=by
 obtain ⟨g,f,j,k,o⟩:=i;exact ⟨g,f,a.bk j dC dC,k.vis a,a.bk o dC dC⟩
def WalkAt.mono {b:World} {B B' gk:Nat} {a:List Nat} (f:WalkAt b B gk a) (k:B'<=B):WalkAt b B' gk a:=by
 obtain ⟨e,c,g,i,j⟩:=f;exact ⟨e,c,g,i.mono k,j⟩
def uP (f c:Nat) (a:List Nat) (b:World) (j:WaveAt b f c a):
 Calls prog 34 #[c] b fun i w'=>i=.returned (.int .i64 (a.length:Int))/\b=w':=by
 obtain ⟨_,g,k,e,_⟩:=j;have o:b.cell? ⟨c,9,none⟩=some (.int .i64 (a.length:Int)):=by rw [e.cell];have:=aT g (a.length:Int) k;simp [this]
 clear e;go_enter func34,ntmps34;go_wp2;go_ret;exact ⟨rfl,rfl⟩
def mU (c gk:Nat) (a:List Nat) (b:World) (i:WalkAt b c gk a):
 Calls prog 131 #[gk] b fun e w'=>e=.returned (.int .i64 (a.length:Int))/\b=w':=by
 obtain ⟨g,p,f,j,k⟩:=i;have o:=f.cell 0;clear f k;go_enter func131,ntmps131;go_wp2_with fail;refine (uP c g a _ j).mono ?_;rintro e w' ⟨rfl,rfl⟩;go_wp2_with fail;go_ret;exact ⟨rfl,rfl⟩
def jN (o gk:Nat) (a:List Nat) (b:Nat) (c:World) (r:WalkAt c o gk a) (v:b < 257) (u:a.length<=1000):
 Calls prog 172 #[gk,(b:Int)] c fun f w'=>f=.returned (.int .i64 ((a.countP (fun e=>decide (e < b)):Nat):Int))/\Below c.heap.size c w':=by
 obtain ⟨x,q,g,s,i⟩:=r;have w:=g.cell 1;clear g s;have p:=lhd i;clear i;go_enter func172,ntmps172;go_wp2_with fail;refine (iN q a b _ p.out v u).mono ?_;rintro f w' ⟨rfl,t⟩;obtain ⟨k,j⟩:∃k,a.countP (fun e=>decide (e < b))=k:=⟨_,rfl⟩;rw [j];go_wp2_with fail;go_ret;exact ⟨by rw [j];rfl,t⟩
def dZ (a:List Nat) (b c:Nat):Nat:=a.countP (fun e=>decide (e < b))+(a.take c).count b
end
section
open Go.RowKit Go.Shelf
def gX (a:Nat×Nat):List Value:= [.int .i64 (a.1:Int),.int .i64 (a.2:Int)]
def cJ (a:List (Nat×Nat)):List Value:=a.flatMap gX
def aY (a:List (Nat×Nat)) (b:Nat):Nat:=(a.getD b (0,0)).1
def dM (a:List (Nat×Nat)) (b:Nat):Nat:=(a.getD b (0,0)).2
def jT (a:List (Nat×Nat)):(cJ a).length=a.length*2:=by
 induction a with
 | nil=>rfl
 | cons b l c=>
   have:cJ (b::l)=gX b++cJ l:=rfl;rw [this,zAi,c];simp [gX];omega
def gM (b:List (Nat×Nat)) (a:Nat) (e:a < b.length):(cJ b)[a*2]?=some (.int .i64 ((aY b a:Nat):Int))/\(cJ b)[a*2+1]?=some (.int .i64 ((dM b a:Nat):Int)):=by
 induction b generalizing a with
 | nil=>cases e
 | cons c l g=>
   have f:cJ (c::l)=gX c++cJ l:=rfl;rcases a with _ | a;exact ⟨rfl,rfl⟩;have:=g a (by simpa using e);rw [f,zAo (by simp [gX];omega),zAo (by simp [gX];omega)];rw [show (a+1)*2 -(gX c).length=a*2 by simp [gX];omega,show (a+1)*2+1 -(gX c).length=a*2+1 by simp [gX];omega];exact this
structure PRd (W:World) (gb gp:Nat) (A:Option Addr) (n c:Nat) (C:List (Nat×Nat)):Prop where
 box:W.cell? gb=some (.pointer (some gp))
 sl:W.cell? ⟨gp,1,none⟩=some (.slice A n c)
 rd:Rd W W.heap.size 2 A n (cJ C)
def PRd.below {a j:World} {c e n k:Nat} {g:Option Addr} {i:List (Nat×Nat)} (f:PRd a c e g n k i) (o:c < a.heap.size) (p:e < a.heap.size) (b:Below a.heap.size a j):PRd j c e g n k i:=
 ⟨(b.cell o).trans f.box,(b.cell p).trans f.sl,(f.rd.below b).mono b.size⟩
def PRd.drewN {e:World} {g i n f:Nat} {b:Option Addr} {c:List (Nat×Nat)} (a:PRd e g i b n f c) (j:Nat):PRd (e.drewN j) g i b n f c:=⟨a.box,a.sl,a.rd⟩
def PRd.at {f:World} {p q n k:Nat} {g:Option Addr} {b:List (Nat×Nat)} (i:PRd f p q g n k b) {a:Nat} (t:a < b.length):
 a < n/\∃c e,g=some ⟨c,e,none⟩/\f.cell? ⟨c,e+a*2,none⟩=some (.int .i64 ((aY b a:Nat):Int))/\f.cell? ⟨c,e+a*2+1,none⟩=some (.int .i64 ((dM b a:Nat):Int)):=by
 have u:=i.rd.1;rw [jT] at u;have v:a < n:=oM;obtain ⟨c,e,o,_,j⟩:=i.rd.2 oM;obtain ⟨r,s⟩:=gM b a t;exact ⟨v,c,e,o,j _ _ r,by rw [Nat.add_assoc];exact j _ _ s⟩
def vD (i o:Nat) (j:Option Addr) (n k:Nat) (a:List (Nat×Nat)) (b row:Nat) (c:World) (e:PRd c i o j n k a) (q:b < a.length):
 Calls prog 212 #[(b:Int),(row:Int),i] c fun g w'=>g=.returned (.int .i64 (Lib.compareInt (aY a b:Nat) row))/\c=w':=by
 obtain ⟨w,s,x,rfl,v,p⟩:=e.at q;have t:=e.box;have u:=e.sl;have f:=AnyG.cmp_Compare_int shCmp ((aY a b:Nat):Int) (row:Int) c;change Calls prog 187 _ _ _ at f;generalize Lib.compareInt (aY a b:Nat) row=r at f⊢;clear e p;go_enter func212,ntmps212;go_wp2_with fail;refine f.mono ?_;rintro g w' ⟨rfl,rfl⟩;go_wp2_with fail;go_ret;exact ⟨rfl,rfl⟩
def sB (i j r:Nat) (p:Option Addr) (n q:Nat) (a:List (Nat×Nat)) (f g:Nat) (b:World) (e:PRd b i r p n q a) (B:b.cell? j=some (.int .i64 (g:Int))) (u:f < a.length):
 Calls prog 214 #[(f:Int),i,j] b fun c w'=>c=.returned (.bool (decide (dM a f=g)))/\∃v,w'=b.drewN v:=by
 obtain ⟨A,w,C,rfl,s,t⟩:=e.at u;have x:=e.box;have y:=e.sl;obtain ⟨o,k⟩:=eqx (dM a f);rw [k] at t⊢;clear e s k;by_cases c:o=g
 · subst c;go_enter func214,ntmps214;go_wp2;go_quiet (fail);go_wp2;go_ret;exact ⟨by simp,_,rfl⟩
 · have z:((o:Int)==(g:Int))=false:=(by simp;omega);go_enter func214,ntmps214;go_wp2;go_quiet (fail);go_wp2;go_ret;exact ⟨by simp [c],_,rfl⟩
end
end Go.Proofs.YtnmapianpjamnaaGreatDoor
