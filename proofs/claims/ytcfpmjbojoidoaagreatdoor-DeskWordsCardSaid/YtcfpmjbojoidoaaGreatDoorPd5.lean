/- Lemmas of the walk. Conditions: each its own. -/
import Derived.Test.YtcfpmjbojoidoaaGreatDoorPd2
import Derived.Test.YtcfpmjbojoidoaaGreatDoorPd3
import Derived.Test.YtcfpmjbojoidoaaGreatDoorProg
import Derived.Test.YtcfpmjbojoidoaaGreatDoorShl
set_option linter.all false
set_option maxRecDepth 100000
set_option maxHeartbeats 4000000
open Go.Proofs.Tryz
namespace Go.Proofs.YtcfpmjbojoidoaaGreatDoor
section
open Go.RowKit
def aW (b a:Nat):Nat:=b / 2 ^(9 - a)
def fO (b a:Nat):Bool:=decide (b / 2 ^(8 - a)% 2=1)
def eO (a:Nat) (b:World) (g:a < 257):
 Calls prog 149 #[(a:Int)] b fun c w'=>c=.returned (.bool true)/\Below b.heap.size b w':=by
 have e:(0:Int)<=(a:Int):=oM;have f:(a:Int) < 257:=oM;go_enter func149,ntmps149;go_wp2;go_ret;exact ⟨rfl,Below.refl _ _⟩
def aB2 (b a:Nat):(b:Int)/ 2 ^ a=((b / 2 ^ a:Nat):Int):=by push_cast;rfl
def aJC (a:Nat) (c:a < 257):bits .and .i64 (a:Int) 1=((a % 2:Nat):Int):=by
 have b:=(bits_nat .i64 10 dC (fun n e b=>by rw [IntKind.wrap_i64];omega) a 1 oM oM).1;rw [show ((1:Nat):Int)=1 from rfl] at b;rw [b,Nat.and_one_is_mod]
def jS (b a:Nat) (c:World) (g:b < 257) (k:a<=9):
 Calls prog 172 #[(b:Int),(a:Int)] c fun e w'=>e=.returned (.int .i64 ((aW b a:Nat):Int))/\Below c.heap.size c w':=by
 have i:¬((a:Int) < 0):=oM;have j:¬((a:Int) > 9):=oM;go_enter func172,ntmps172;go_wp2_with fail;refine (eO b _ g).mono ?_;rintro e w1 ⟨rfl,f⟩;go_wp2_with fail;go_ret;exact ⟨eR (aB2 _ _),f⟩
def lJ (b a:Nat) (c:World) (g:b < 257) (r:a < 9):
 Calls prog 173 #[(b:Int),(a:Int)] c fun e w'=>e=.returned (.bool (fO b a))/\Below c.heap.size c w':=by
 have p:¬((a:Int) < 0):=oM;have q:¬((a:Int)>=9):=oM;go_enter func173,ntmps173;go_wp2_with fail;refine (eO b _ g).mono ?_;rintro e w1 ⟨rfl,k⟩;go_wp2_with fail;go_ret;refine ⟨pG ?_,k⟩;have o:b / 2 ^(8 - a) < 257:=Nat.lt_of_le_of_lt (Nat.div_le_self _ _) g;rw [aB2,aJC _ o];unfold fO;generalize b / 2 ^(8 - a)% 2=i;by_cases f:i=1;subst f;rfl
 · have j:((i:Int)==1)=false:=(by simp;omega);rw [j];simp [f]
end
section
open Go.RowKit Go
open Go.Sort (SortedIn PermIn SWO Holds)
def lV (n:Nat) (j:n<=1000000) (a:World):(Instr.makeSlice 48 (.int .i64 (n:Int)) (.int .i64 (n:Int))).run prog a=.ok (.slice (some a.heap.size) n n) (a.alloc (.cells (Array.replicate n (.int .i64 0)) 3)):=by
 obtain ⟨i,c,e,f,g⟩:=info_parts iA;have:=run_make (P:=prog) a 48 3 i (.int .i64 0) underlying48 c e .i64 .i64 n n oM (Int.le_refl _) (by rw [g];omega) oM;rw [this,f];have b:madeCells #[.int .i64 0] n=Array.replicate n (.int .i64 0):=by apply Array.ext';rw [toList_madeCells_one];simp
 simp only [Value.cells,zBr,zBl];rw [b]
def iD (n b:Nat):Array Value:=((List.range n).map fun a=>Value.int .i64 (((if a < b then a else 0:Nat)):Int)).toArray
def vH (n a:Nat):(iD n a).size=n:=by simp [iD]
def aDv (n:Nat):iD n 0=Array.replicate n (.int .i64 0):=by
 apply Array.ext
 · simp [iD]
 · intro c a b;simp [iD]
def aDw (n a:Nat) (g:a < n):(iD n a).setIfInBounds a (.int .i64 (a:Int))=iD n (a+1):=by
 apply Array.ext
 · simp [iD]
 · intro e i f;rw [Array.getElem_setIfInBounds (by simpa [iD] using f)];by_cases b:a=e
   · subst b;simp [iD]
   · rw [zBw b];simp only [iD,List.getElem_toArray,List.getElem_map,List.getElem_range];by_cases c:e < a
     · rw [zBx c,zBx oM]
     · rw [zBw c,zBw oM]
def aFs (m:Nat):iD (m+1) (m+1)=(uJ m).map (eL m):=by
 apply Array.ext
 · simp [iD,uJ]
 · intro c a e;have b:c < m+1:=(by simpa [iD] using a);simp [iD,uJ,eL,b]
def aEh {e:World} {b:Nat} {c:TypeId} {a:Array Value} {n B:Nat} (j:Bk e b c a) (k:B<=b) (i:a.size=n) (f:n<=maxLen):Made e B c 1 (some ⟨b,0,none⟩) n n a.toList:=by
 have g:e.ownsRow B c 1 (.slice (some b) n n) n a.toList:=⟨by simp [i],.inr ⟨b,n,a,rfl,k,j,zAs _,f,by omega,by rw [zAg (by simp [i])]⟩⟩;exact ⟨g,Rd.of_own g,zAs _,f⟩
def aH3 {m:Nat} (d:Array (Fin (m+1))):(d.map (eL m)).toList=(d.toList.map (·.val)).map sv:=by
 simp [eL,sv]
def yW {f:Array Value} {c e:Nat->Nat} {b g:Nat} (j:∀a,a < b->f[c a]?=some (.int .i64 ((e a:Nat):Int))) (o:c b < f.size) (k:∀a,a < b->c a≠c b) (p:e b=g) (a:Nat) (r:a < b+1):(f.setIfInBounds (c b) (.int .i64 (g:Int)))[c a]?=some (.int .i64 ((e a:Nat):Int)):=by
 by_cases i:a=b
 · subst i;rw [zCd,zBx rfl,zBx o,p]
 rw [zCd,zBw (fun q=>k a oM q.symm)];exact j a oM
structure RInv (B0:Nat) (w0:World) (m n:Nat) (l:List Nat) (gn gr gx:Nat) (wr:World) (gw g6 g7 c6 c7 wd:Nat) (d:Array (Fin (m+1))) (R:List Nat):Prop where
 wide:Bk wr gw 3 #[(wd:Int)]
 len:Bk wr gn 3 #[(n:Int)]
 box:Bk wr gr 48 #[.slice (some g6) n c6]
 rank:∃cs:Array Value,Bk wr g6 3 cs/\n<=cs.size/\∀(j:Nat) u,(R.map sv)[j]?=some u->cs[j]?=some u
 next:∃cs:Array Value,Bk wr g7 3 cs/\n<=cs.size
 rows:Bk wr gx 3 (d.map (eL m))
 ok:RowsOk m d
 ap:gx≠gw/\gx≠gn/\gx≠g6/\gx≠g7/\g7≠gw/\g7≠gn/\g7≠g6/\g6≠gw/\g6≠gn
 lo:B0<=gx/\B0<=g6/\B0<=g7/\B0<=gr
 cap:n<=c6/\n<=c7
 rlen:R.length=n
 rle:∀r∈R,r<=1000
 rk:RankOk (aN l) (aN R) wd
 wd1:1<=wd
 wdn:wd<=n
 below:Below B0 w0 wr
structure SetT (B:Nat) (T:TypeId) (w w':World):Prop where
 below:Below B w w'
 other:∀b t cs,t≠T->Bk w b t cs->Bk w' b t cs
 one:∀b c,Bk w b T #[c]->∃c',Bk w' b T #[c']
def SetT.set {g:Nat} {i:TypeId} {f:World} {a:Nat} {k:Value} (q:Bk f a i #[k]) (r:g<=a) (e:Value):SetT g i f (f.setCell a e):=by
 refine ⟨bR.setCell r _,fun j u t s b=>?_,fun j o b=>?_⟩;exact b.far (fun c=>s (by subst c;exact (aK b q).1)) _;by_cases c:j=a;subst c;exact ⟨e,b.set 0 e⟩;exact ⟨o,b.far (p:=a) c _⟩
section
variable {B0 : Nat} {w0 : World} {m n : Nat} {l : List Nat} {gn gr gx : Nat} {wr w' : World} {gw g6 g7 c6 c7 wd : Nat} {d d' : Array (Fin (m + 1))} {R : List Nat}
def aBB {f:World} {e n:Nat} {R:List Nat} (k:R.length=n) (i:∃a:Array Value,Bk f e 3 a/\n<=a.size/\∀(b:Nat) c,(R.map sv)[b]?=some c->a[b]?=some c):Rd f f.heap.size 1 (some ⟨e,0,none⟩) n (R.map sv):=by
 obtain ⟨a,g,p,j⟩:=i;refine ⟨by simp [k],fun _=>⟨e,0,rfl,g.lt,fun b c o=>?_⟩⟩;rw [zBi,g.cell];exact j b c o
def RInv.ordk (a:RInv B0 w0 m n l gn gr gx wr gw g6 g7 c6 c7 wd d R) (b:Keep (fun g=>g=gx) wr w'):OrdAt w' gw gn gr wd n (some ⟨g6,0,none⟩) c6 R:=by
 obtain ⟨c,e,f,p,q,r,s,t,u⟩:=a.ap;obtain ⟨i,j,k,o⟩:=a.rank;exact ⟨((b.bk a.wide c.symm).cell 0).trans rfl,((b.bk a.len e.symm).cell 0).trans rfl,((b.bk a.box (Bk.ne a.box a.rows dC)).cell 0).trans rfl,aBB a.rlen ⟨i,b.bk j f.symm,k,o⟩⟩
def RInv.keepx (a:RInv B0 w0 m n l gn gr gx wr gw g6 g7 c6 c7 wd d R) (b:Keep (fun c=>c=gx) wr w') (u:Bk w' gx 3 (d'.map (eL m))) (t:RowsOk m d'):RInv B0 w0 m n l gn gr gx w' gw g6 g7 c6 c7 wd d' R:=by
 obtain ⟨e,f,g,i,v,w,x,y,z⟩:=a.ap;obtain ⟨j,o,p,q⟩:=a.rank;obtain ⟨k,r,s⟩:=a.next
 exact ⟨b.bk a.wide e.symm,b.bk a.len f.symm,b.bk a.box (Bk.ne a.box a.rows dC),⟨j,b.bk o g.symm,p,q⟩,⟨k,b.bk r i.symm,s⟩,u,t,a.ap,a.lo,a.cap,a.rlen,a.rle,a.rk,a.wd1,a.wdn,
  a.below.trans (b.to_below (by have:=a.lo.1;have:=a.rows.lt;omega) (fun c B A=>by have:=a.lo.1;omega))⟩
def RInv.keep7 (a:RInv B0 w0 m n l gn gr gx wr gw g6 g7 c6 c7 wd d R) (b:Keep (fun e=>e=g7) wr w') (r:∃c:Array Value,Bk w' g7 3 c/\n<=c.size):RInv B0 w0 m n l gn gr gx w' gw g6 g7 c6 c7 wd d R:=by
 obtain ⟨s,t,u,f,g,i,j,v,w⟩:=a.ap;obtain ⟨c,k,o,p⟩:=a.rank;obtain ⟨x,q,z⟩:=a.next
 exact ⟨b.bk a.wide g.symm,b.bk a.len i.symm,b.bk a.box (Bk.ne a.box q dC),⟨c,b.bk k j.symm,o,p⟩,r,b.bk a.rows f,a.ok,a.ap,a.lo,a.cap,a.rlen,a.rle,a.rk,a.wd1,a.wdn,
  a.below.trans (b.to_below (by have:=a.lo.1;have:=a.rows.lt;omega) (fun e A y=>by have:=a.lo.2.2.1;omega))⟩
def RInv.grow (a:RInv B0 w0 m n l gn gr gx wr gw g6 g7 c6 c7 wd d R) (c:Below wr.heap.size wr w'):RInv B0 w0 m n l gn gr gx w' gw g6 g7 c6 c7 wd d R:=
 a.keep7 (Keep.of_below c) (by
  obtain ⟨e,b,f⟩:=a.next;exact ⟨e,b.below c b.lt,f⟩)
end
def mJ (G:Option Addr) (m k ce:Nat) (K:List UInt8) (B:World) (a3:Rd B ce 1 G m (K.map bv)) (e7:ce<=B.heap.size) (fe:m<=200):
 Calls prog 26 #[.slice G m k] B fun q w'=>∃dB ar a8,IsSuf (aI K) dB/\q=.returned (.slice ar (m+1) a8)/\Made w' B.heap.size 3 1 ar (m+1) a8 (dB.map sv)/\Below B.heap.size B w':=by
 have dp:K.length=m:=by simpa using a3.1
 obtain ⟨dJ,cA⟩:=hqq2 a3 dp;clear a3 dp;go_enter func26,ntmps26;go_wp2_with fail;obtain ⟨n,bU⟩:=eqx (m+1);have c0:=wK B.heap.size 0 G m k B.heap.size K (B.alloc (.cells #[.slice G m k] 34)) (Bk.new _ _ _) ((dJ.out.mono e7).alloc nL _) (by simp) oM;rw [bU] at c0;have fg:n<=201:=oM;have eg:1<=n:=oM;have u:=lhd bU;clear bU;refine c0.mono ?_;clear c0;rintro q w1 ⟨bh,bB,rfl,dg,d0⟩;have d1:=((Below.refl B.heap.size B).alloc nL _).trans (d0.mono (by simp));obtain ⟨cu,aE⟩:=hqq2 dg d1;clear dg d0 d1;go_wp2_with fail;obtain ⟨gn,b0⟩:=eqx w1.heap.size;have az:Bk (w1.alloc (.cells #[(n:Int)] 3)) gn 3 #[(n:Int)]:=b0 ▸ Bk.new _ _ _;have b6:=cu.out.below (bR.alloc nL (.cells #[(n:Int)] 3));have bH:=aE.out.alloc aE.out.size (.cells #[(n:Int)] 3);have bG:=b6.rd;have eX:B.heap.size<=gn:=b0 ▸ aE.out.size;rw [b0];generalize w1.alloc (.cells #[(n:Int)] 3)=W0 at az b6 bH bG⊢;clear cu aE b0;have d5:=az.cell 0;have dt:=az.lt;have bq:Hid (W0.cell? gn=some (.int .i64 (n:Int))):=lhd d5;obtain ⟨br,ck,dG,aD,bm⟩:=hqq5 dt bG b6 bH az;clear d5 dt bG b6 bH az;refine wp_region_any kR ?_;refine tY [18,19,20,21,22,23,6,5,7] [6,19,21,23] 8 (SetT W0.heap.size 48) (Below W0.heap.size W0) [k0 (is (n:Int)),k0 (fun e s=>∃b,e=.slice (some ⟨b,0,none⟩) n n/\W0.heap.size<=b/\Bk s b 3 (Array.replicate n (.int .i64 0))),k0 (is (.slice bh n bB)),k0 (fun e s=>∃G k,e=.slice G n k/\Made s W0.heap.size 3 1 G n k ((aI K).map sv)),k0 (is (n:Int)),k0 (fun e s=>∃b,e=.slice (some ⟨b,0,none⟩) n n/\W0.heap.size<=b/\Bk s b 3 (Array.replicate n (.int .i64 0))),k0 (fun e s=>∃b k,e=.pointer (some ⟨b,0,none⟩)/\W0.heap.size<=b/\Bk s b 48 #[k]),kEq 19,kLk 6 21 (fun a4 e s=>∃b,a4=.pointer (some ⟨b,0,none⟩)/\W0.heap.size<=b/\Bk s b 48 #[e]),kEq 23] _ _ rfl kR kR (bR.drew) (vP rfl) (fun B w' H a=>a.elim (fun a=>H.trans (a.mono H.size)) (fun a=>H.trans a.below)) (by repeat' (first | exact aDA _ | exact aEs _ | exact aIm _ _ _ |(refine zAe.2 ⟨?_,?_⟩)|(intro F Q;cases Q))) (by repeat' (first | exact tH _ _ | exact aBj _ | exact pA _ _ | exact iN (fun _ _ _ ⟨b,y,r,z⟩ a=>⟨b,y,r,z.below a z.lt⟩)| exact iN (fun _ _ _ ⟨G,k,y,r⟩ a=>⟨G,k,y,r.below a⟩)| exact iN (fun _ _ _ ⟨b,k,y,r,z⟩ a=>⟨b,k,y,r,z.below a z.lt⟩)| exact iN (fun _ _ _ _ ⟨b,y,r,z⟩ a=>⟨b,y,r,z.below a z.lt⟩)| exact oZ (fun _ _ _ ⟨b,y,r,z⟩ a=>⟨b,y,r,z.below a z.lt⟩)| exact oZ (fun _ _ _ ⟨G,k,y,r⟩ a=>⟨G,k,y,r.below a⟩)| exact oZ (fun _ _ _ ⟨b,k,y,r,z⟩ a=>⟨b,k,y,r,z.below a z.lt⟩)| exact oZ (fun _ _ _ _ ⟨b,y,r,z⟩ a=>⟨b,y,r,z.below a z.lt⟩)|(refine zAe.2 ⟨?_,?_⟩)|(intro F Q;cases Q))) (by simp only [List.eraseIdx_cons_zero,List.eraseIdx_cons_succ,List.eraseIdx_nil];repeat' (first | exact tH _ _ | exact aBj _ | exact pA _ _ | exact iN (fun _ _ _ ⟨b,y,r,z⟩ a=>⟨b,y,r,a.other _ _ _ dC z⟩)| exact iN (fun _ _ _ ⟨G,k,y,r⟩ a=>⟨G,k,y,mZ r fun S C W=>a.other _ _ _ dC W⟩)| exact iN (fun _ _ _ ⟨b,k,y,r,z⟩ a=>let ⟨a8,cU⟩:=a.one _ _ z;⟨b,a8,y,r,cU⟩)|(refine zAe.2 ⟨?_,?_⟩)|(intro F Q;cases Q))) ?_ ?_
 · refine aR ?_;refine aC (cL rfl rfl fun x _ I _ _ _ A _ _ _ _ J=>?_) ?_
   · obtain ⟨D,P⟩:=I;have e2:x (.tmp 4)=.pointer (some gn):=A 4 kR;clear A;have ea:=(D.cell (p:=gn) br.out).trans bq.out;go_simp;exact J _ _ (dD bR rfl rfl) rfl
   refine aC (cL rfl rfl fun _ _ I _ _ _ A E _ _ _ J=>?_) ?_
   · obtain ⟨D,P⟩:=I;have eI:_=_:=E 0 18 kR rfl;clear A;have ep:=lV n oM;go_simp;exact J _ _ (iS (bR.alloc nL _) rfl (fun b N=>by simp [blk?] at N;subst N;simp)) ⟨_,rfl,D.size,Bk.new _ _ _⟩
   refine aC (cL rfl rfl fun x _ I _ _ _ A _ _ _ _ J=>?_) ?_
   · obtain ⟨D,P⟩:=I;have eM:x (.tmp 3)=.slice bh n bB:=A 3 kR;clear A;go_simp;exact J _ _ (dD bR rfl rfl) rfl
   refine aC (cL rfl rfl fun _ _ I _ _ _ A E cE _ _ J=>?_) ?_
   · obtain ⟨D,P⟩:=I;have eJ:_=_:=E 2 20 kR rfl;clear A;go_simp;refine (yF bh n bB W0.heap.size (aI K) _ (ck.out.below D) D.size oM).mono ?_;rintro q fA ⟨ar,a8,rfl,bT,e8⟩;refine J _ _ (iS e8 rfl (fun b N=>?_)) ⟨ar,a8,rfl,bT.mono D.size⟩;obtain ⟨_,_,_,_,fp⟩:=aP bT.own;rcases ar with _ | cE
     · simp [blk?] at N
     obtain ⟨ew,dW,a2,_,aZ⟩:=aP bT.own;injection a2 with a2;have:=aZ cE a2.symm;simp [blk?] at N;subst N;exact this
   refine aC (cL rfl rfl fun x _ I _ _ _ A _ _ _ _ J=>?_) ?_
   · obtain ⟨D,P⟩:=I;have e2:x (.tmp 4)=.pointer (some gn):=A 4 kR;clear A;have ea:=(D.cell (p:=gn) br.out).trans bq.out;go_simp;exact J _ _ (dD bR rfl rfl) rfl
   refine aC (cL rfl rfl fun _ _ I _ _ _ A E _ _ _ J=>?_) ?_
   · obtain ⟨D,P⟩:=I;have eK:_=_:=E 4 22 kR rfl;clear A;have ep:=lV n oM;go_simp;exact J _ _ (iS (bR.alloc nL _) rfl (fun b N=>by simp [blk?] at N;subst N;simp)) ⟨_,rfl,D.size,Bk.new _ _ _⟩
   refine aC (cL rfl rfl fun _ _ I _ _ _ A _ _ _ _ J=>?_) ?_
   · obtain ⟨D,P⟩:=I;clear A;go_simp;exact J _ _ (iS (bR.alloc nL _) rfl (fun b N=>by simp [blk?] at N;subst N;simp)) ⟨_,_,rfl,D.size,Bk.new _ _ _⟩
   refine aC (cL rfl rfl fun x aq I _ _ _ A E _ _ _ J=>?_) ?_
   · obtain ⟨D,P⟩:=I;have c8:(fun e s=>∃b,e=.slice (some ⟨b,0,none⟩) n n/\W0.heap.size<=b/\Bk s b 3 (Array.replicate n (.int .i64 0))) (x (.tmp 19)) aq:=E 1 19 kR rfl;clear A;clear c8;go_simp;exact J _ _ (dD bR rfl rfl) (by first | exact e19.symm | rfl)
   refine aC (cL rfl rfl fun x aq I _ _ _ A E _ _ _ J=>?_) ?_
   · obtain ⟨D,P⟩:=I;have cb:(fun e s=>∃b k,e=.pointer (some ⟨b,0,none⟩)/\W0.heap.size<=b/\Bk s b 48 #[k]) (x (.tmp 6)) aq:=E 6 6 kR rfl;have c9:(fun e s=>∃G k,e=.slice G n k/\Made s W0.heap.size 3 1 G n k ((aI K).map sv)) (x (.tmp 21)) aq:=E 3 21 kR rfl;clear A;obtain ⟨b,k,e3,N,W⟩:=cb;obtain ⟨ev,eC,e1,ff⟩:=c9;have c6:=W.cell 0;have eN:=W.frozen 0;have eW:=W.lt;go_simp;exact J (.bool true) _ (aG4 (SetT.set W N _) (by simp [World.setCell]) rfl) ⟨b,e3,N,by rw [e1];exact W.set 0 _⟩
   refine aC (cL rfl rfl fun x aq I _ _ _ A E _ _ _ J=>?_) ?_
   · obtain ⟨D,P⟩:=I;have ca:(fun e s=>∃b,e=.slice (some ⟨b,0,none⟩) n n/\W0.heap.size<=b/\Bk s b 3 (Array.replicate n (.int .i64 0))) (x (.tmp 23)) aq:=E 5 23 kR rfl;clear A;clear ca;go_simp;exact J _ _ (dD bR rfl rfl) (by first | exact e23.symm | rfl)
   exact aH
 · intro x a5 D P E cZ;have cR:x (.tmp 5)=x (.tmp 19):=E 7 5 rfl;have cb:(fun e s=>∃b k,e=.pointer (some ⟨b,0,none⟩)/\W0.heap.size<=b/\Bk s b 48 #[k]) (x (.tmp 6)) a5:=E 6 6 rfl;have cS:x (.tmp 7)=x (.tmp 23):=E 9 7 rfl;have c8:(fun e s=>∃b,e=.slice (some ⟨b,0,none⟩) n n/\W0.heap.size<=b/\Bk s b 3 (Array.replicate n (.int .i64 0))) (x (.tmp 19)) a5:=E 1 19 rfl;have c9:(fun e s=>∃G k,e=.slice G n k/\Made s W0.heap.size 3 1 G n k ((aI K).map sv)) (x (.tmp 21)) a5:=E 3 21 rfl;have ca:(fun e s=>∃b,e=.slice (some ⟨b,0,none⟩) n n/\W0.heap.size<=b/\Bk s b 3 (Array.replicate n (.int .i64 0))) (x (.tmp 23)) a5:=E 5 23 rfl;obtain ⟨fz,dz⟩:=cZ 8 dC;have er:(fun a4 e s=>∃b,a4=.pointer (some ⟨b,0,none⟩)/\W0.heap.size<=b/\Bk s b 48 #[e]) (x (.tmp 6)) (x (.tmp 21)) a5:=dz;clear dz;simp only [zqq];clear E cZ;obtain ⟨gx,ba,ds,c3⟩:=c8;obtain ⟨g7,aY,eT,cX⟩:=ca;obtain ⟨dF,c6,aX,bF⟩:=c9;obtain ⟨gr,dk,fl,bZ⟩:=er;rw [aX] at bZ;obtain ⟨g6,rfl,eS,cV⟩:∃g6,dF=some ⟨g6,0,none⟩/\W0.heap.size<=g6/\∃C:Array Value,Bk a5 g6 3 C/\n<=C.size/\∀(c:Nat) a4,((aI K).map sv)[c]?=some a4->C[c]?=some a4:=by
    rcases bF.own.2 with ⟨H,_⟩|⟨b,eD,dY,H,r,z,cU,eQ,eR,e6⟩;injection H with aZ a2;omega
    · injection H with aZ a2 h10;refine ⟨b,aZ,r,dY,z,by omega,fun c a4 b8=>?_⟩;rw [<-e6,zBs,Array.getElem?_toList] at b8;split at b8;exact b8
      · cases b8
   have d6:gx≠g7:=fun q=>P.2 19 (by simp) 23 (by simp) dC gx (by rw [ba];rfl) (by rw [aY,q];rfl);have d7:gx≠g6:=fun q=>P.2 19 (by simp) 21 (by simp) dC gx (by rw [ba];rfl) (by rw [aX,q];rfl);have d8:g7≠g6:=fun q=>P.2 23 (by simp) 21 (by simp) dC g7 (by rw [aY];rfl) (by rw [aX,q];rfl);have eb:=bm.out.lt;have d2:=bm.out.below D eb;have db:=aD.out.trans (D.mono aD.out.size);have eY:=aD.out.size;rw [<-aDv] at c3;have ag:n<=c6:=bF.cap;rw [cR,cS,ba,aY,dk];obtain ⟨aQ,bj,cf,aL,bn,Z⟩:=hqq6 c3 cX cV bZ d2 db;have co:gx≠g7/\gx≠g6/\g7≠g6:=⟨d6,d7,d8⟩;have cj:=lhd co;clear cR cS ba aY dk c3 cX cV bZ d2 db co d6 d7 d8 D P cb aX bF ck dG aD bm bq br;go_wp2_with fail;go_loopw [26,8] (fun o _ wr=>∃a:Nat,a<=n/\o=.int .i64 a/\Bk wr gx 3 (iD n a)/\Keep (fun S=>S=gx) a5 wr) (fun o _ _=>n -(intOf o).toNat)
   case atStart=>exact ⟨0,by omega,rfl,aQ.out,Keep.refl _ _⟩
   case round=>
    obtain ⟨a,ed,rfl,ae,Y⟩:=hrel;by_cases b5:a < n
    · have cF:=ae.cell a;have e4:=ae.frozen a;rw [zAq (by rw [vH];exact b5)] at cF;obtain ⟨aF,a1⟩:=hqq2 ae Y;clear ae Y;generalize (iD n a)[a]'(by rw [vH];exact b5)=u0 at cF;go_wp2_with fail;go_roundw
      case rel=>exact ⟨a+1,by omega,by go_num,by rw [<-aDw _ _ b5];exact aF.out.set a _,a1.out.setCell (.inl rfl) _⟩
      case measure=>simp [intOf];omega
    · obtain rfl:n=a:=oM;obtain ⟨aF,a1⟩:=hqq2 ae Y;clear ae Y;go_wp2_with fail;obtain ⟨gw,bP⟩:=eqx wr.heap.size;have d3:Bk (wr.alloc (.cells #[(1:Int)] 3)) gw 3 #[(1:Int)]:=bP ▸ Bk.new _ _ _
      have aj:RInv B.heap.size B m n (aI K) gn gr gx (wr.alloc (.cells #[(1:Int)] 3)) gw g6 g7 c6 n 1 (uJ m) (aI K):=by
         obtain ⟨cP,cQ,dZ⟩:=cj.out;obtain ⟨C,du,el,em⟩:=cf.out;have ak:=a1.out;have bb:=ak.size;have fr:=aQ.out.lt;have fs:=bn.out.lt;have ft:=bj.out.lt;have eq:=du.lt;have fw:=aL.out.lt;refine ⟨d3,(ak.bk bn.out (fun q=>by have:=ds;omega)).alloc _,(ak.bk aL.out (fun q=>by subst q;exact Bk.ne aL.out aQ.out dC rfl)).alloc _,⟨C,(ak.bk du (fun q=>cQ q.symm)).alloc _,el,em⟩,⟨_,(ak.bk bj.out (fun q=>cP q.symm)).alloc _,by simp⟩,?_,aGA m,?_,?_,⟨ag,zAs _⟩,?_,?_,aC4 _,zAs _,eg,?_⟩;have:=aF.out;rw [<-u.out,aFs] at this;exact this.alloc _
         · refine ⟨?_,?_,cQ,cP,?_,?_,dZ,?_,?_⟩<;> omega
         · refine ⟨?_,?_,?_,?_⟩<;> omega
         · rw [aO,cA.out,u.out]
         intro cd a3;have:=dR K cd a3;omega;refine (Z.out.trans ?_).alloc oM _;exact ak.to_below (by have:=Z.out.size;omega) (fun S W q=>by have:=ds;omega)
      rw [bP];generalize wr.alloc (.cells #[(1:Int)] 3)=W8 at aj⊢;have av:=lhd aj;clear aj d3 bP aF a1 cj cf bn aL bj aQ Z
      go_loopg [7,9] (n) (fun gk be bf wr=>∃gw g6 g7 c6 c7 wd d R,be=.slice (some ⟨g7,0,none⟩) n c7/\bf=.pointer (some ⟨gw,0,none⟩)/\n - wd<=gk/\RInv B.heap.size B m n (aI K) gn gr gx wr gw g6 g7 c6 c7 wd d R)
      case atStart=>exact ⟨_,_,_,_,_,_,_,_,rfl,rfl,by omega,av.out⟩
      case round=>
         clear av;obtain ⟨gw,g6,g7,c6,c7,wd,d,R,rfl,rfl,eZ,aj⟩:=hrel;have av:=lhd aj;clear aj;go_wp2_with fail;obtain ⟨ab,bO⟩:=eqx wr.heap.size;have ad:Bk (wr.alloc (.cells #[.func (.func 56) #[] #[.pointer (some ⟨gw,0,none⟩),gn,gr]] 109)) ab 109 #[.func (.func 56) #[] #[.pointer (some ⟨gw,0,none⟩),gn,gr]]:=bO ▸ Bk.new _ _ _;have M:=av.out.grow ((Below.refl wr.heap.size wr).alloc nL (.cells #[.func (.func 56) #[] #[.pointer (some ⟨gw,0,none⟩),gn,gr]] 109));rw [bO];generalize wr.alloc (.cells #[.func (.func 56) #[] #[.pointer (some ⟨gw,0,none⟩),gn,gr]] 109)=W1 at ad M⊢;have bL:d.size=n:=(by rw [M.ok.size,u.out]);have d4:CmpReads prog 57 #[gr,ab] (eL m) (cfF m wd R) gx 0 d.size W1:=fun t am e0 eV be bf=>by have a:=iQ (enc:=eL m) M.rows.lt 0 t e0 am;exact zI gw gn gr ab wd n c6 (some ⟨g6,0,none⟩) R be.val bf.val _ (M.ordk a) (((a.bk ad (Bk.ne ad M.rows dC)).cell 0).trans rfl) (by have:=M.wdn;omega) oM M.rle (by have:=be.isLt;have:=u.out;omega) (by have:=bf.isLt;have:=u.out;omega)
         have c1:=Any.slices_SortFunc shSort (eL m) (kW m) (cfF m wd R) (aIP m M.rk) 57 #[gr,ab] gx 0 n d W1 (enters_of func57 kR rfl) d4.lays (aHz M.rows) M.rows.lt oM;rw [bL] at c1;refine c1.mono ?_;clear c1 d4;rintro q aS ⟨rfl,d',nq,am,bW,c2,rfl⟩;have dj:RowsOk m d':=M.ok.of_perm (by rw [bL];exact bW);have b2:=M.keepx (iQ (enc:=eL m) M.rows.lt 0 nq d' am) (aHY M.rows bW.1 nq am) dj;have bI:=(iQ (enc:=eL m) M.rows.lt 0 nq d' am).bk ad (Bk.ne ad M.rows dC);generalize Go.Proofs.sortWorld (eL m) W1 gx 0 nq d' am=aS at b2 bI⊢;have dm:∀o,o+1 < n->¬ltW (aN (aI K)) (wd+wd) (dP d' (o+1)) (dP d' o):=(by rw [<-u.out] at c2⊢;exact fun o ai=>aGq b2.rk dj.size c2 o ai);obtain ⟨cz,a6,cl⟩:=hqq3 dm b2 bI;clear dm M b2 ad bI bW c2 bL av bO;have ay:=u.out;have df:=a6.out.ok.lt 0;have cO:aS.cell? gx=some (.int .i64 ((dP d' 0:Nat):Int)):=(a6.out.rows.cell 0).trans (a6.out.ok.cell oM);obtain ⟨dX,bd,dw⟩:=a6.out.next;obtain ⟨an,bV⟩:=eqx (dP d' 0);rw [bV] at cO df;have bC:=bd.cell an;rw [zAq oM] at bC;have e5:=bd.frozen an;generalize dX[an]' oM=u7 at bC;have eh:an < n:=oM;obtain ⟨cC,cw⟩:=hqq2 bd bV;clear bd bV ay df;go_wp2_with fail;clear cO bC e5;go_loopw [12] (fun o dE=>∃a:Nat,1<=a/\a<=n/\o=.int .i64 a/\∃C:Array Value,Bk dE g7 3 C/\n<=C.size/\(∀c,c < a->C[dP d' c]?=some (.int .i64 ((cN (jI (aN R) wd) (dP d') c:Nat):Int)))/\Keep (fun S=>S=g7) aS dE) (fun o _=>n -(intOf o).toNat)
         case atStart=>refine ⟨1,by omega,by omega,rfl,_,cC.out.set an _,by simpa using dw,fun c aB=>?_,(Keep.refl (fun S=>S=g7) aS).setCell (p:=⟨g7,an,none⟩) (.inl rfl) _⟩;obtain rfl:c=0:=oM;rw [cw.out,zCd,zBx rfl,zBx oM];rfl
         case round=>
          clear cC cw eh dw;obtain ⟨a,fc,ed,rfl,C,X,aA,af,Y⟩:=hrel;have L:=a6.out.keep7 Y ⟨C,X,aA⟩;by_cases b5:a < n
          · obtain ⟨c,aB⟩:∃c,a=c+1:=⟨a - 1,by omega⟩;have ay:=u.out;have a0:wr.cell? ⟨gx,a,none⟩=some (.int .i64 ((dP d' a:Nat):Int)):=(L.rows.cell a).trans (L.ok.cell oM);have a9:wr.cell? ⟨gx,c,none⟩=some (.int .i64 ((dP d' c:Nat):Int)):=(L.rows.cell c).trans (L.ok.cell oM);have aU:=(X.cell (dP d' c)).trans (af c oM);have dy:=L.ok.lt a;have dx:=L.ok.lt c;have ax:=X.cell (dP d' a);rw [zAq oM] at ax;have bE:=X.frozen (dP d' a);generalize C[dP d' a]' oM=uk at ax;have aT:=(L.len.cell 0).trans rfl;have aW:IntKind.i64.wrap ((a:Int) - 1)=(c:Int):=(by rw [IntKind.wrap_i64];omega);have ee:decide ((a:Int) < (n:Int))=true:=(by simp;omega);obtain ⟨O,bY⟩:=eqx (dP d' a);obtain ⟨ao,bX⟩:=eqx (dP d' c);obtain ⟨e,b9⟩:=eqx (cN (jI (aN R) wd) (dP d') c);have dq:=sU (jI (aN R) wd) (dP d') 0 c;rw [zBi,b9] at dq;have fm:e<=1000:=(by have:cN (jI (aN R) wd) (dP d') 0=0:=rfl;omega);rw [bY] at a0 dy ax bE;rw [bX] at a9 dx aU;rw [b9] at aU;have ej:O < n:=oM;have ei:ao < n:=oM;have fb:c < n:=oM;obtain ⟨au,U,aG,a1,g,aw,cx,dL,aK⟩:=hqq9 X aA af Y L bY bX b9 aB;clear X aA af Y L bY bX b9 dq ay dy dx aB;go_wp2_with fail;refine wp_region_still_tail 14 kR kR ?_;simp only [List.take_succ_cons,List.take_zero,List.drop_succ_cons,List.drop_zero];change wpStill _ _ wr.drew (fun dN=>wpList _ _ _ _ dN wr.drew) _ _;have cI:wr.drew.cell? ⟨gx,a,none⟩=_:=a0;have cH:wr.drew.cell? ⟨gx,c,none⟩=_:=a9;have cK:wr.drew.cell? ⟨g7,ao,none⟩=_:=aU;have cM:wr.drew.cell? ⟨g7,O,none⟩=_:=ax;have cT:wr.drew.frozen? ⟨g7,O,none⟩=false:=bE;obtain ⟨bo,bt,bs⟩:=hqq3 au.out.drew a1.out.drew (g.out.keep7 (Keep.refl _ _).drew ⟨C,au.out.drew,U.out⟩);clear a0 a9 aU ax bE aT au a1 g;generalize wr.drew=W5 at cI cH cK cM cT bo bt bs⊢
            iterate 14 still_step
            refine wpStill_nil ?_;go_wp2_with fail;have ag:=bo.out.set O (.int .i64 (e:Int));have b3:=bt.out.setCell (p:=⟨g7,O,none⟩) (.inl rfl) (.int .i64 (e:Int));have T:=bs.out.keep7 ((Keep.refl (fun S=>S=g7) W5).setCell (p:=⟨g7,O,none⟩) (.inl rfl) (.int .i64 (e:Int))) ⟨_,ag,by simpa using U.out⟩
            have bJ:=b3.bk cl.out (fun q=>by
               obtain ⟨eG,a2,_⟩:=a6.out.next;subst q;exact Bk.ne cl.out a2 dC rfl)
            generalize W5.setCell ⟨g7,O,none⟩ (.int .i64 (e:Int))=W6 at ag b3 T bJ⊢;clear cI cH cK cM cT bo bt bs;have a0:W6.cell? ⟨gx,a,none⟩=some (.int .i64 (O:Int)):=(by rw [<-aw.out];exact (T.rows.cell a).trans (T.ok.cell (by have:=u.out;omega)));have a9:W6.cell? ⟨gx,c,none⟩=some (.int .i64 (ao:Int)):=(by rw [<-cx.out];exact (T.rows.cell c).trans (T.ok.cell (by have:=u.out;omega)));obtain ⟨bg,bb⟩:=eqx (jI (aN R) wd ao O);have c5:∀t:Nat,Calls prog 57 #[(ao:Int),(O:Int),gr,ab] (W6.drewN t) fun q w'=>q=.returned (.int .i64 bg)/\∃cc,w'=W6.drewN cc:=fun t=>by have H:=zI gw gn gr ab wd n c6 (some ⟨g6,0,none⟩) R ao O (W6.drewN t) ((T.ordk (Keep.refl _ _)).drewN t) ((bJ.drewN t).cell 0) (by have:=T.wdn;omega) oM T.rle ei ej;rw [bb] at H;exact H.mono fun _ _ ⟨bM,cc,b7⟩=>⟨bM,t+cc,by rw [b7,World.drewN_drewN]⟩
            obtain ⟨aJ,cr,dI,dM⟩:=hqq4 ag b3 T bb;have aV:((a:Int) - 1).toNat=c:=(by have:=aK.out;omega);have aa:(0:Int)<=(a:Int) - 1:=(by have:=aK.out;omega);clear ag b3 T bJ bb;go_quiet ((with_reducible exact c5 _));have bN:dP d' a < C.size:=(by rw [aw.out];have:=U.out;omega);have bQ:∀bc,bc < a->dP d' bc≠dP d' a:=fun bc fa q=>by have:=dI.out.ok.inj (i:=bc) (j:=a) (by have:=u.out;omega) (by have:=u.out;omega) q;omega
            have ah:cN (jI (aN R) wd) (dP d') a=e+(if bg≠0 then 1 else 0):=(by rw [aK.out,<-dL.out];show cN _ _ c+(if jI (aN R) wd (dP d' c) (dP d' (c+1))≠0 then 1 else 0)=_;rw [<-aK.out,aw.out,cx.out,dM.out]);obtain ⟨cp,cq⟩:=hqq2 bN bQ;by_cases c4:bg=0
            · subst c4;rw [zBw (by simp),zBq] at ah;have bp:=lhd ah;clear ah bN bQ a0 a9 c5 aV aa aW;go_wp2_with fail;go_roundw
              case rel=>refine ⟨a+1,by omega,by omega,by go_num,_,aJ.out.drewN _,by simpa using U.out,?_,cr.out.drewN _⟩;have:=yW aG.out cp.out cq.out bp.out;rw [aw.out] at this;exact this
              case measure=>simp [intOf];omega
            · rw [zBx c4] at ah;have bp:=lhd ah;have dW:W6.cell? ⟨g7,O,none⟩=some (.int .i64 (e:Int)):=(by rw [aJ.out.cell,zCd,zBx rfl,zBx (by have:=U.out;omega)]);have eO:=aJ.out.frozen O;have fn:IntKind.i64.wrap ((e:Int)+1)=((e+1:Nat):Int):=(by rw [IntKind.wrap_i64];omega);have fq:(bg==0)=false:=(by simpa using c4);clear ah bN bQ a9 c5 aV aa aW;go_wp2_with fail;go_roundw
              case rel=>refine ⟨a+1,by omega,by omega,by go_num,_,(aJ.out.drewN nq).set O _,by simpa using U.out,?_,(cr.out.drewN nq).setCell (p:=⟨g7,O,none⟩) (.inl rfl) _⟩;have:=yW aG.out cp.out cq.out bp.out;rw [aw.out] at this;rw [set_set];exact this
              case measure=>simp [intOf];omega
          · obtain rfl:n=a:=oM;have ay:=u.out;obtain ⟨t,b7⟩:∃t,n=t+1:=⟨n - 1,by omega⟩;obtain ⟨al,b4⟩:=eqx (cN (jI (aN R) wd) (dP d') t);have d9:=sU (jI (aN R) wd) (dP d') 0 t;rw [zBi,b4] at d9;have fd:al<=t:=(by have:cN (jI (aN R) wd) (dP d') 0=0:=rfl;omega);obtain ⟨F,Q⟩:=eqx (dP d' t);have fi:F < n:=(by have:=L.ok.lt t;omega);have ac:=L.box;have eE:=(L.len.cell 0).trans rfl;have ey:=ac.cell 0;have e4:=ac.frozen 0;have b1:∀b C,Bk wr b 3 C->Bk (wr.setCell gr (.slice (some ⟨g7,0,none⟩) n c7)) b 3 C:=fun b C H=>H.far (p:=gr) (Bk.ne H ac dC) _;have a0:(wr.setCell gr (.slice (some ⟨g7,0,none⟩) n c7)).cell? ⟨gx,t,none⟩=some (.int .i64 (F:Int)):=(by rw [<-Q];exact ((b1 _ _ L.rows).cell t).trans (L.ok.cell oM));have cJ:(wr.setCell gr (.slice (some ⟨g7,0,none⟩) n c7)).cell? ⟨g7,F,none⟩=some (.int .i64 (al:Int)):=(by rw [<-Q,<-b4];exact ((b1 _ _ X).cell _).trans (af t oM));have aT:=((b1 _ _ L.len).cell 0).trans rfl;have cG:=(ac.set 0 (.slice (some ⟨g7,0,none⟩) n c7)).cell 0;have bD:=((b1 _ _ L.wide).cell 0).trans rfl;have ef:t < n:=oM;have aW:IntKind.i64.wrap ((n:Int) - 1)=(t:Int):=(by rw [IntKind.wrap_i64];omega);obtain ⟨bx,ct,ex,g,au,U,aG,dH,ci⟩:=hqq9 b7 b4 Q L X aA af ac b1;have ee:decide ((n:Int) < (n:Int))=false:=(by simp);clear b7 b4 Q L X aA af Y ac b1 ay d9;go_wp2_with fail;have bK:=dH.out.set 0 (.slice (some ⟨g7,0,none⟩) n c7);have bS:=(Keep.refl (fun S=>S=gr) wr).setCell (p:=gr) (.inl rfl) (.slice (some ⟨g7,0,none⟩) n c7);have b1:=ci.out;generalize wr.setCell gr (.slice (some ⟨g7,0,none⟩) n c7)=W9 at a0 cJ aT cG bD bK bS b1⊢;have dl:=b1 _ _ g.out.rows;have cY:=b1 _ _ au.out;have dr:=b1 _ _ g.out.wide;have dh:=b1 _ _ g.out.len;obtain ⟨eF,dv,en,eo⟩:=g.out.rank;have cW:=b1 _ _ dv;have dc:=g.out.below.trans (bS.to_below (by have:=g.out.lo.1;have:=g.out.rows.lt;omega) (fun S W q=>by have:=g.out.lo.2.2.2;omega));obtain ⟨cn,cy,ch,cB,cv,cg,a7⟩:=hqq7 bK dl cY dr dh cW dc;clear bK bS b1 dl cY dr dh cW dc dv eo ci;have aV:((n:Int) - 1).toNat=t:=(by have:=bx.out;omega);have aa:(0:Int)<=(n:Int) - 1:=(by have:=bx.out;omega);have di:∀o c,jI (aN R) wd o c=0↔eqW (aN (aI K)) (wd+wd) o c:=aIb g.out.rk;have dd:(aI K).length=n:=(by rw [aO,cA.out,u.out]);obtain ⟨bw,V⟩:=hqq2 di dd;clear di dd;go_quiet (fail);clear aV aa aW a0 cJ aT cG bD;obtain ⟨cm,aM,bl,bz,bu,bi⟩:=hqq6 (cn.out.drewN nq) (cy.out.drewN nq) (ch.out.drewN nq) (cB.out.drewN nq) (cv.out.drewN nq) (cg.out.drewN nq);have da:Below B.heap.size B (W9.drewN nq):=⟨a7.out.os,a7.out.tape,a7.out.output,a7.out.size,a7.out.block⟩;have Z:=lhd da;clear da cn cy ch cB cv cg a7;generalize W9.drewN nq=W10 at cm aM bl bz bu bi Z⊢;by_cases de:al=t
            · subst de;have dn:=g.out.ok.suf (l:=aI K) (by rw [V.out,u.out]) (w:=wd+wd) (fun o c ec aB=>aJe bw.out cz.out oM (by have:=bx.out;have:=ct.out;rw [show n - 1=al by omega];exact this) o c ec (by have:=u.out;omega));have dK:=lhd dn;clear dn;go_wp2_with fail;go_ret;refine ⟨_,some ⟨gx,0,none⟩,n,dK.out,by rw [u.out];rfl,?_,Z.out⟩;rw [<-aH3];have:=aEh aM.out g.out.lo.1 (n:=n) (by simp [g.out.ok.size,u.out]) (by unfold maxLen;omega);have e9:∀bA,Made W10 B.heap.size 3 1 (some ⟨gx,0,none⟩) n n bA->Made W10 B.heap.size 3 1 (some ⟨gx,0,none⟩) (m+1) n bA:=fun bA H=>by rw [u.out];exact H
              exact e9 _ this
            · have fj:((al:Int)==(t:Int))=false:=(by simp;omega);have fk:(al==t)=false:=(by simp;omega);have bD:=bz.out.cell 0;have eH:=bz.out.lt;have fo:wd<=201:=(by have:=g.out.wdn;omega);go_wp2_with fail;have fh:wd+wd < n:=by rcases zBe (wd+wd) n with H | H;exact H;exfalso;apply de;rw [<-ct.out];refine aIs (n:=n) (fun o ai bM=>?_) t ef;have:=(bw.out _ _).1 bM;have eU:=u.out;refine aEc (l:=aI K) (by rw [V.out];exact H) (by rw [V.out];have:=g.out.ok.lt o;omega) (by rw [V.out];have:=g.out.ok.lt (o+1);omega) (fun q=>?_) this;have:=g.out.ok.inj oM oM q;omega
              go_roundg (n -(wd+wd))
              case measure=>have:=g.out.wd1;omega
              case rel=>
               obtain ⟨cD,dA,es,et,eu⟩:=aGK (cs:=C) (f:=dP d') (v:=cN (jI (aN R) wd) (dP d')) U.out (fun c _=>by have:=g.out.ok.lt c;have:=u.out;omega) aG.out (fun F Q=>by
                obtain ⟨o,y,r⟩:=g.out.ok.sur (p:=F) (by have:=u.out;omega);exact ⟨o,by have:=u.out;omega,r⟩)
               have ek:RankOk (aN (aI K)) (aN cD) (wd+wd):=(by refine aE6 (by have:=g.out.wd1;omega) bw.out (fun o ai=>cz.out o (by rw [<-V.out];exact ai)) (by rw [dA,V.out]) (fun o ai=>es o (by rw [<-V.out];exact ai)) (fun F Q=>?_);obtain ⟨o,y,r⟩:=g.out.ok.sur (p:=F) (by have:=u.out;rw [V.out] at Q;omega);exact ⟨o,by have:=u.out;rw [V.out];omega,r⟩);obtain ⟨ez,dO,dQ,dS,eA,dT,dU,eB,dV⟩:=g.out.ap;have fy:=aM.out.lt;have fx:=g.out.wd1;have fu:=bl.out.lt;have eq:=bi.out.lt;have fv:=bu.out.lt;have aa:(wd:Int)*2=((wd+wd:Nat):Int):=oM;rw [aa];refine ⟨_,_,_,_,_,wd+wd,d',cD,rfl,rfl,zAs _,Bk.new _ _ _,bu.out.alloc _,cm.out.alloc _,⟨_,bl.out.alloc _,U.out,et⟩,⟨_,bi.out.alloc _,en⟩,aM.out.alloc _,g.out.ok,⟨?_,dO,dS,dQ,?_,dV,dU.symm,?_,dT⟩,⟨g.out.lo.1,g.out.lo.2.2.1,g.out.lo.2.1,g.out.lo.2.2.2⟩,⟨g.out.cap.2,g.out.cap.1⟩,dA,?_,ek,by omega,by omega,Z.out.alloc Z.out.size _⟩;omega;omega;omega;intro cd a3;obtain ⟨c,aB,rfl⟩:=eu cd a3;have:=sU (jI (aN R) wd) (dP d') 0 c;rw [zBi] at this;have eP:cN (jI (aN R) wd) (dP d') 0=0:=rfl;omega
end
section
open Go.RowKit
@[irreducible] def tcells (L:List Nat):Array Value:=Array.ofFn (n:=258) fun i=>.int .i64 (((if i.val < 257 then L.count i.val else L.length):Nat):Int)
def dI (b:List Nat) {a:Nat} (c:a < 257):(tcells b)[a]?=some (.int .i64 ((b.count a:Nat):Int)):=by
 unfold tcells;rw [Array.getElem?_ofFn,dif_pos oM,zBx c]
def gN (a:List Nat):(tcells a)[257]?=some (.int .i64 ((a.length:Nat):Int)):=by
 unfold tcells;rw [Array.getElem?_ofFn,dif_pos oM];rfl
def eA (a:List Nat):(tcells a).size=258:=by unfold tcells;simp
def oB (c:Array Value) (b:List Nat) (j:c.size=258) (g:∀e,e < 257->c[e]?=some (.int .i64 ((b.count e:Nat):Int))) (i:c[257]?=some (.int .i64 ((b.length:Nat):Int))):c=tcells b:=by
 apply Array.ext_getElem?;intro f;rcases zBe f 257 with a | a
 · rw [g f a,dI b a]
 · rcases Nat.eq_or_lt_of_le a with a | a
   · rw [<-a,i,gN]
   · rw [Array.getElem?_eq_none oM,Array.getElem?_eq_none (by rw [eA];omega)]
def aCS (b:List Nat) (a:Nat) (g:a < 257):((tcells b).setIfInBounds a (.int .i64 (((b.count a+1:Nat)):Int))).setIfInBounds 257 (.int .i64 ((b.length+1:Nat):Int))=tcells (b++ [a]):=by
 apply oB
 · simp [eA]
 · intro e f;rw [zCe oM];by_cases c:a=e
   · subst c;rw [Array.getElem?_setIfInBounds_self_of_lt (by rw [eA];omega)];simp
   rw [zCe c,dI b f];have: [a].count e=0:=(by simp [c]);rw [zCc,this];rfl
 · rw [Array.getElem?_setIfInBounds_self_of_lt (by simp [eA])];simp
def sX (f:Nat) (b:List Nat) (a:Nat) (c:World) (i:Bk c f 209 (tcells b)) (k:a < 257):
 Calls prog 232 #[f,(a:Int)] c fun g w'=>g=.returned (.int .i64 ((b.count a:Nat):Int))/\Below c.heap.size c w':=by
 have e:=lhd i;clear i;go_enter func232,ntmps232;go_wp2_with fail;refine (eO a _ k).mono ?_;rintro g w1 ⟨rfl,j⟩;have o:w1.cell? ⟨f,a,none⟩=some (.int .i64 ((b.count a:Nat):Int)):=((e.out.below j e.out.lt).cell a).trans (dI b k);have p:¬((a:Int) < 0):=oM;have q:((a:Int) < 257):=oM;clear e;go_wp2_with fail;go_ret;exact ⟨rfl,j⟩
def sT (c:List Nat) (b:Nat):c.countP (fun a=>decide (a < b+1))=c.countP (fun a=>decide (a < b))+c.count b:=by
 induction c with
 | nil=>rfl
 | cons a l i=>
   rw [zBn,zBn,List.count_cons,i];by_cases g:a < b;have e:a < b+1:=oM;have f:a≠b:=oM;simp [g,e,f];omega
   · by_cases e:a=b;subst e;simp;omega
     · have f:¬a < b+1:=oM;simp [g,e,f]
def jF (j:Nat) (c:List Nat) (b:Nat) (f:World) (s:Bk f j 209 (tcells c)) (E:b < 257) (z:c.length<=1000):
 Calls prog 220 #[j,(b:Int)] f fun r w'=>r=.returned (.int .i64 ((c.countP (fun e=>decide (e < b)):Nat):Int))/\Below f.heap.size f w':=by
 have q:=lhd s;clear s;have F:max (b:Int) 0=(b:Int):=oM;have G:min (b:Int) 257=(b:Int):=oM;go_enter func220,ntmps220;go_wp2_with fail;go_loopw [5,10] (fun B p wr=>∃a:Nat,a<=b/\p=.int .i64 a/\B=.int .i64 ((c.countP (fun e=>decide (e < a)):Nat):Int)/\Below f.heap.size f wr) (fun _ p _=>b -(intOf p).toNat)
 case atStart=>exact ⟨0,by omega,rfl,by simp,Below.refl _ _⟩
 case round=>
  obtain ⟨a,C,rfl,rfl,g⟩:=hrel;have A:=g.size;by_cases D:a < b
  · go_wp2_with fail;refine (sX j c a wr (q.out.below g q.out.lt) oM).mono ?_;rintro r w1 ⟨rfl,w⟩;have x:=g.trans (w.mono A);have i:=sT c a;have t:c.countP (fun e=>decide (e < a+1))<=1000:=zAk zBh z;obtain ⟨u,k⟩:∃u,c.countP (fun e=>decide (e < a))=u:=⟨_,rfl⟩;obtain ⟨H,o⟩:=eqx (c.count a);rw [i] at t;rw [k,o] at i t;rw [o]
    try rw [k]
    have v:=lhd i;clear i k o;go_wp2_with fail;go_roundw
    case rel=>exact ⟨a+1,by omega,by go_num,by rw [v.out];exact dT oM,x⟩
    case measure=>simp [intOf];omega
  · have y:a=b:=oM;subst y;go_wp2_with fail;go_ret;exact ⟨rfl,g⟩
def qM (a:Nat) (c:List Nat) (b:Nat) (B:World) (g:Bk B a 209 (tcells c)) (q:b < 257) (I:c.length<=1000):
 Calls prog 175 #[a,(b:Int),.int .i64 1] B fun G w'=>G=.returned (.int .i64 0)/\Bk w' a 209 (tcells (c++ [b]))/\Keep (fun i=>i=a) B w':=by
 have w:=lhd g;clear g;have a5:¬((b:Int) < 0):=oM;have a6:((b:Int) < 257):=oM;obtain ⟨f,v⟩:=eqx (c.count b);obtain ⟨n,u⟩:=eqx c.length;have a8:f<=1000:=by rw [<-v];exact zAk zBv I
 rw [u] at I;have z:=aCS c b q;rw [v,u] at z;obtain ⟨J,x,E⟩:=hqq3 z v u;clear z v u;go_enter func175,ntmps175;go_wp2_with fail;refine (eO b _ q).mono ?_;rintro G w1 ⟨rfl,A⟩;have t:=w.out.below A w.out.lt;have S:w1.cell? ⟨a,b,none⟩=some (.int .i64 (f:Int)):=by rw [<-x.out];exact (t.cell b).trans (dI c q)
 have T:w1.cell? ⟨a,257,none⟩=some (.int .i64 (n:Int)):=by rw [<-E.out];exact (t.cell 257).trans (gN c)
 have a9:¬((1:Int) < -(f:Int)):=oM;have aa:¬((1:Int) > 2147483648 -(n:Int)):=oM;obtain ⟨K,M⟩:=hqq2 A t;clear A t w;go_wp2_with fail;refine wp_region_any kR ?_;refine bX [33,34,35,36,37,38,39,40,41,42,43] (fun i=>i=a) 11 [5,11] (fun j=>Bk j a 209 (tcells c)) (fun _ j=>Bk j a 209 ((tcells c).setIfInBounds b (.int .i64 ((f+1:Nat):Int)))) [is a,is (b:Int),is a,is a,is (.pointer (some ⟨a,b,none⟩)),is (f:Int),is (.int .i64 1),is (.int .i64 ((f+1:Nat):Int)),is a,is a,is (.pointer (some ⟨a,b,none⟩)),dF] _ _ rfl kR kR (M.out) (fun j ac g _ O=>Bk.below g O g.lt) (fun _ _ _ g P=>Bk.below g P g.lt) tA1 ?_ ?_
 · refine aR ?_;refine pH3 0 (.pointer (some a)) ?_;refine pH3 1 (.int .i64 (b:Int)) ?_;refine pV3 0 33 ?_;refine pV3 2 35 ?_;refine pW3 3 36 1 34 ?_;refine sC3 (fun _ C _ y _ _ _ e _ _ _ k=>?_) ?_
   · have o:=y rfl;have X:_=_:=e 4 37 kR rfl;have V:C.cell? ⟨a,b,none⟩=some (.int .i64 (f:Int)):=(by rw [<-x.out];exact (o.cell b).trans (dI c q));go_simp;exact kq k rfl
   refine pH3 2 (.int .i64 1) ?_;refine sC3 (fun _ _ _ _ _ _ _ e _ _ _ k=>?_) ?_
   · have Y:_=_:=e 5 38 kR rfl;have Z:_=_:=e 6 39 kR rfl;go_simp;exact k _ _ (aL bR) (dT (by rw [IntKind.wrap_i64];omega))
   refine pV3 0 33 ?_;refine pV3 8 41 ?_;refine pW3 9 42 1 34 ?_;refine sC3 (fun _ C _ y _ _ _ e _ _ _ k=>?_) ?_
   · have o:=y rfl;have a1:_=_:=e 10 43 kR rfl;have a0:_=_:=e 7 40 kR rfl;have W:C.cell? ⟨a,b,none⟩=some (.int .i64 (f:Int)):=(by rw [<-x.out];exact (o.cell b).trans (dI c q));have a4:=o.frozen b;go_simp;exact k (.bool true) _ (bC (Keep.setCell (F:=fun i=>i=a) (Keep.refl _ _) (p:=⟨a,b,none⟩) (.inl rfl) _)) (o.set b _)
   exact aH
 · intro a2 D s e H;replace s:Keep (fun i=>i=a) w1 D:=kD s;obtain ⟨ab,r⟩:∃Q,(fun _ j=>Bk j a 209 ((tcells c).setIfInBounds b (.int .i64 ((f+1:Nat):Int)))) Q D:=H 11 dC;simp only [zqq];clear e H;have U:D.cell? ⟨a,257,none⟩=some (.int .i64 (n:Int)):=(by refine (r.cell 257).trans ?_;rw [zCe oM,<-E.out];exact gN c);have a3:=r.frozen 257;obtain ⟨N,L⟩:=hqq2 r s;have a7:=r.lt;clear r s;go_wp2_with fail;go_ret;refine ⟨rfl,?_,?_⟩;rw [<-J.out];exact N.out.set 257 _;exact ((Keep.of_below K.out).trans L.out).setCell (.inl rfl) _
def aCR:tcells []=Tryz.zeroCells209:=by kernel_rfl
def qL (t:Option Addr) (m I u:Nat) (c:List Nat) (b:World) (q:Rd b u 1 t m (c.map sv)) (J:u<=b.heap.size) (W:m<=1000) (w:∀f∈c,f < 257):
 Calls prog 97 #[.slice t m I] b fun o w'=>∃e,o=.returned (.tuple #[.pointer (some ⟨e,0,none⟩),.int .i64 0])/\b.heap.size<=e/\Bk w' e 209 (tcells c)/\Below b.heap.size b w':=by
 have z:c.length=m:=by simpa using q.1
 obtain ⟨G,D,v,C⟩:=hqq4 q w z J;clear q w z;go_enter func97,ntmps97;go_wp2_with fail;obtain ⟨e,x⟩:=eqx b.heap.size;have M:Bk (b.alloc (.cells Tryz.zeroCells209 209)) e 209 (tcells (c.take 0)):=by rw [List.take_zero,aCR,<-x];exact Bk.new _ _ _
 have K:=(Below.refl b.heap.size b).alloc nL (.cells Tryz.zeroCells209 209)
 try rw [x]
 go_loopw [12] (fun s wr=>∃a:Nat,a<=m/\s=.int .i64 a/\Bk wr e 209 (tcells (c.take a))/\Below b.heap.size b wr) (fun s _=>m -(intOf s).toNat)
 case atStart=>exact ⟨0,by omega,rfl,M,K⟩
 case round=>
  obtain ⟨a,V,rfl,i,g⟩:=hrel;have S:=g.size;by_cases A:a < m
  · have O:a < c.length:=(by rw [v.out];exact A);obtain ⟨f,j⟩:∃f,c[a]?=some f:=⟨c[a],zAa O⟩;obtain ⟨H,X,Y,rfl,U,r,N⟩:=((G.out.mono C.out).below g).get A;rw [zAf,j] at r;simp at r;subst r;have Q:f < 257:=D.out f (zAd j);have B:c.take (a+1)=c.take a++ [f]:=(by rw [zAv,j];rfl);have T:(c.take a).length<=1000:=(by rw [zAj];omega);unfold sv at N;obtain ⟨E,k⟩:=hqq2 B i;clear B i j;go_wp2_with fail;refine (qM e (c.take a) f _ k.out Q T).mono ?_;rintro o w1 ⟨rfl,p,y⟩;have L:Below b.heap.size b w1:=g.trans (y.to_below S (fun H g o=>by omega));rw [<-E.out] at p;have F:=lhd p;clear p y;go_wp2_with fail;go_roundw
    case rel=>exact ⟨a+1,by omega,by go_num,F.out,L⟩
    case measure=>simp [intOf];omega
  · have P:a=m:=oM;subst P;rw [zAg (by rw [v.out];omega)] at i;have k:=lhd i;clear i;go_wp2_with fail;go_ret2;exact ⟨e,rfl,by omega,k.out,g⟩
def nZ (e:Nat) (g:Option Addr) (j:Nat) (i:Option Addr) (k a b:Nat) (c:World) (f:Bk c e 150 #[.slice g a j,.slice i b k,.int .i64 268435456]) (t:a<=1048576) (s:b<=a):
 Calls prog 106 #[e] c fun o w'=>o=.returned (.int .i64 ((a - b:Nat):Int))/\Below c.heap.size c w':=by
 have p:c.cell? e=some (.slice g a j):=(f.cell 0).trans rfl;have q:c.cell? ⟨e,1,none⟩=some (.slice i b k):=(f.cell 1).trans rfl;have r:IntKind.i64.wrap ((a:Int) -(b:Int))=((a - b:Nat):Int):=by rw [IntKind.wrap_i64];omega
 clear f;go_enter func106,ntmps106;go_wp2;go_quiet (fail);go_wp2;go_ret;exact ⟨eR oM,below_drewN bR _⟩
def qN (u a:Nat) (e:Option Addr) (g:Nat) (t:Option Addr) (v b:Nat) (S:List Bool) (i:World) (w:Bk i a 150 #[.slice e b g,.slice t 0 v,.int .i64 268435456]) (C:i.ownsRow u 4 1 (.slice e b g) b (S.map Value.bool)) (al:u<=i.heap.size) (am:b<=1000000):
 Calls prog 61 #[a] i fun L w'=>L=.returned (.tuple #[(b:Int),.int .i64 0])/\Keep (fun f=>f=a∨(Value.slice e b g).ownBlock=some f) i w'/\∃y,Bk w' a 150 #[y,.slice t 0 v,.int .i64 268435456]/\w'.ownsRow u 4 1 y (b+1) ((S++ [true]).map Value.bool)/\(y.ownBlock=(Value.slice e b g).ownBlock∨∃M,y.ownBlock=some M/\i.heap.size<=M):=by
 obtain ⟨ad,a3,aa,ab,ac⟩:=info_parts sB;have an:=w.lt;obtain ⟨o,W,V⟩:=hqq3 w C (aT C w dC);clear w C;go_enter func61,ntmps61;go_wp2;refine wp_region_any kR ?_;refine aX [10,11,12,13,14,15,16,9] (Grow) (Vs [is a,is (b:Int),is a,is a,is (.pointer (some ⟨a,2,none⟩)),is (.int .i64 268435456),is (.bool false),is (.bool false)]) _ _ rfl kR bR (fun _ _=>Grow.trans) (cM tA0) ?_ ?_
 · refine aR ?_;refine pH 0 (.pointer (some a)) ?_;refine sC (fun _ j c _ _ _ k _ _ _ A=>?_) ?_
   · have ah:_=_:=k 0 10 kR rfl;replace c:(Grow) i j:=gD c;go_simp;refine (nZ a e g t v b 0 j (o.out.below c o.out.lt) oM oM).mono ?_;rintro L au ⟨rfl,a2⟩;exact A _ _ a2 rfl
   refine pH 0 (.pointer (some a)) ?_;refine pV 2 12 ?_;refine pV 3 13 ?_;refine pL 4 14 (fun j c=>have c:(Grow) i j:=gD c;(((o.out.below c o.out.lt).cell 2).trans rfl:j.cell? ⟨a,2,none⟩=some (.int .i64 268435456))) ?_;refine sC (fun _ _ _ _ _ _ k _ _ _ A=>?_) ?_
   · have ai:_=_:=k 1 11 kR rfl;have aj:_=_:=k 5 15 kR rfl;have ao:((b:Int)==268435456)=false:=(by simp;omega);go_simp;exact A _ _ bR (by first | rfl | simp [is] |(simp [is];omega))
   refine pV 6 16 ?_;exact aH
 · intro a0 s c k;replace c:(Grow) i s:=gD c;have Z:a0 (.tmp 9)=.bool false:=k 7 9 rfl;simp only [zqq];rw [Z];clear k;have r:=o.out.below c o.out.lt;have a9:=Below.size c;have Q:=aQ W.out c;have Y:s.cell? ⟨a,1,none⟩=some (.slice t 0 v):=(r.cell 1).trans rfl;have J:s.cell? a=some (.slice e b g):=(r.cell 0).trans rfl;have a1:=r.frozen 0;have P:a < s.heap.size:=oM;obtain ⟨z,G,I⟩:=hqq3 c r Q;clear c r Q;generalize s=W2 at G a9 J Y a1 z P I⊢;have ae:=(World.cell?_alloc_lt W2 (Obj.cells #[.bool true] 4) ⟨a,0,none⟩ P).trans J;go_wp2_with (at_builtin;refine bM _ rfl (.tmp 53) (.tmp 54) _ rfl u 4 ad (.bool false) 1 1 underlying148 a3 aa ab ac rfl dC (.slice e b g) b _ rfl I.out rfl rfl (by simp [Value.oneCell']) (by unfold maxLen;omega) oM oM ?_;intro ar j D B ap N;have x:=G.out.grown B V.out;obtain ⟨X,U,T,H⟩:=hqq4 D B N x;have ag:j.cell? a=some (.slice e b g):=(x.cell 0).trans rfl;have ak:=x.frozen 0;obtain ⟨E,K,rfl,a7⟩:=aU D;clear D B N x a7);go_ret2;have a8:=Keep.setCell (F:=fun f=>f=a∨(Value.slice e b g).ownBlock=some f) (Keep.refl _ j) (p:=a) (.inl (.inl rfl)) (.slice E (b+1) K);have a5:Keep (fun f=>f=a∨(Value.slice e b g).ownBlock=some f) i W2:=Keep.of_below z.out;have a6:=a5.grown U.out (fun aq a4=>.inl (.inr a4));refine ⟨rfl,a6.trans' a8 (fun f _ q=>q),_,H.out.set 0 _,?_,?_⟩;have:=aA (w':=j.setCell a (.slice E (b+1) K)) X.out fun f af _ O=>O.far (Bk.ne O H.out dC) _;simpa using this;rcases T.out with q | q;exact .inl q;exact .inr ⟨_,q,by have:=z.out.size;omega⟩
def OwnF (b:Nat->Prop) (c:Value):Prop:=∀a,c.ownBlock=some a->b a
def Gw (b:Nat->Prop) (n:Nat) (a:Nat):Prop:=b a∨n<=a
def Gw.keep {F:Nat->Prop} {b w1 c:World} (e:Keep F b w1) (f:Keep (Gw F b.heap.size) w1 c):Keep F b c:=e.trans' f fun g i a=>by
 rcases a with a | a;exact a;omega
def OwnF.mono {F G:Nat->Prop} {b:Value} (c:OwnF F b) (f:∀a,F a->G a):OwnF G b:=fun a e=>f a (c a e)
def OwnF.slice {b:Nat->Prop} {c g n e:Nat} (f:b c):OwnF b (.slice (some ⟨c,g,none⟩) n e):=fun i a=>by
 injection a with a;rw [<-a];exact f
def OwnF.at {b:Nat->Prop} {a f n c:Nat} (e:OwnF b (.slice (some ⟨a,f,none⟩) n c)):b a:=e a rfl
def ArenaE (j:World) (f:Nat->Prop) (k:Nat) (b:List Bool) (a:List Nat):Prop:=
 f k/\∃e i c g,Bk j k 150 #[.slice e b.length i,.slice c a.length g,.int .i64 268435456]/\j.ownsRow 0 4 1 (.slice e b.length i) b.length (b.map Value.bool)/\j.ownsRow 0 3 1 (.slice c a.length g) a.length (a.map sv)/\OwnF f (.slice e b.length i)/\OwnF f (.slice c a.length g)
def aH8 {k:World} {e n m a b:Nat} {f:TypeId} {c:Option Addr} {o:List Value} (g:k.ownsRow e f a (.slice c n b) n o) (v:m<=n) (z:0 < n):k.ownsRow e f a (.slice c m b) m (o.take (m*a)):=by
 rcases g.2 with ⟨i,j⟩|⟨q,x,p,i,j,r,y,s,t,u⟩;omega
 · injection i with h8 h9 h10;subst h8 h10;have w:m*a<=n*a:=Nat.mul_le_mul_right _ v;refine ⟨by rw [zAj,g.1];omega,.inr ⟨q,b,p,rfl,j,r,by omega,s,t,?_⟩⟩;rw [<-u,List.take_take,zCt w]
def aH9 {p:World} {f n o b:Nat} {g:TypeId} {e:Option Addr} {q:List Value} (i:p.ownsRow f g o (.slice e n b) n q):n<=b/\b<=maxLen:=by
 rcases i.2 with ⟨a,c⟩|⟨t,r,s,a,c,u,j,k,v,w⟩;injection a with _ _ a;subst a;subst c;exact ⟨zAs _,zAp _⟩;injection a with _ _ a;subst a;exact ⟨j,k⟩
def ArenaE.vis {g w':World} {b:Nat->Prop} {e:Nat} {f:List Bool} {c:List Nat} (p:ArenaE g b e f c) (a:Vis g w'):ArenaE w' b e f c:=by
 obtain ⟨q,j,o,i,k,r,s,t,u,v⟩:=p;exact ⟨q,j,o,i,k,a.bk r dC dC,a.own s dC dC,a.own t dC dC,u,v⟩
def ArenaE.mono {e:World} {F G:Nat->Prop} {g:Nat} {o:List Bool} {f:List Nat} (t:ArenaE e F g o f) (c:∀a,a < e.heap.size->F a->G a):ArenaE e G g o f:=by
 obtain ⟨u,q,s,p,r,i,j,k,v,w⟩:=t;exact ⟨c _ i.lt u,q,s,p,r,i,j,k,fun a b=>c a (j.lt a b).2 (v a b),fun a b=>c a (k.lt a b).2 (w a b)⟩
def ArenaE.keep {i w':World} {F G:Nat->Prop} {k:Nat} {t:List Bool} {j:List Nat} (y:ArenaE i F k t j) (g:Keep G i w') (f:∀a s c,s∈ [150,4,3]->Bk i a s c->F a->¬G a):ArenaE w' F k t j:=by
 obtain ⟨o,v,x,u,w,p,z,A,q,r⟩:=y;refine ⟨o,v,x,u,w,g.bk p (f _ _ _ dC p o),aA z fun a c e b=>g.bk b (f _ _ _ dC b (q a e)),aA A fun a c e b=>g.bk b (f _ _ _ dC b (r a e)),q,r⟩
def sY (g:Nat->Prop) (b a:Nat) (q:List Bool) (s:List Nat) (i:World) (al:ArenaE i g b q (s++ [a])) (au:a < q.length) (az:q.length<=1000000) (a2:s.length < q.length):
 Calls prog 61 #[b] i fun r w'=>r=.returned (.tuple #[(a:Int),.int .i64 0])/\ArenaE w' g b (q.set a true) s/\Keep g i w':=by
 obtain ⟨Z,aB,I,aC,k,u,x,w,P,O⟩:=al;obtain ⟨B,M⟩:=eqx q.length;obtain ⟨m,v⟩:=eqx s.length;have a5:(s++ [a]).length=m+1:=by simp [v]
 rw [a5] at u w O;rw [M] at u x P az au a2;rw [v] at a2;obtain ⟨f,aJ,J,_,ar⟩:=World.ownsRow.form x oM;injection J with J _ hcc;subst J hcc;obtain ⟨e,aF,K,_,a4⟩:=World.ownsRow.form w oM;injection K with K _ hcc2;subst K hcc2;have aV:=aH9 w;have Q:=aH8 (m:=m) w oM oM;have a3:((s++ [a]).map sv).take (m*1)=s.map sv:=by
  have:(s.map sv).length=m:=by rw [zBc,v]
  rw [zAz,zBl,<-this,List.take_left]
 rw [a3] at Q;have W:i.cell? ⟨e,m,none⟩=some (.int .i64 (a:Int)):=by refine (World.ownsRow.cellAt w m oM).trans ?_;rw [zAz,zAo (by simp [v]),zBc,v,Nat.sub_self];rfl
 obtain ⟨G,aa⟩:∃G,q[a]?=some G:=⟨_,zAa oM⟩;have Y:i.cell? ⟨f,a,none⟩=some (.bool G):=by refine (World.ownsRow.cellAt x a oM).trans ?_;rw [zAf,aa];rfl
 have a9:b≠f:=fun r=>aT x u dC (by rw [r];rfl);have aW:b≠e:=fun r=>aT w u dC (by rw [r];rfl);have aq:∃D,Bk i f 4 D:=by
  rcases x.2 with ⟨o,_⟩|⟨aU,aG,D,o,_,am,_⟩
  · cases o
  injection o with o _ _;injection o with o;injection o with o _;subst o;exact ⟨D,am⟩
 obtain ⟨D,a1⟩:=aq;have b0:=u.lt;obtain ⟨z,ah,af,ae,ad,T,S,U⟩:=hqq8 u x Q P O a1 M v;clear u x w Q P O a3 a5 aa M v a1;go_enter func61,ntmps61;go_wp2;refine wp_region_any kR ?_;refine aX [10,11,12,13,14,15,16,9] (Grow) (Vs [is b,is (.int .i64 ((B -(m+1):Nat):Int)),is b,is b,is (.pointer (some ⟨b,2,none⟩)),is (.int .i64 268435456),is (.bool false),is (.bool false)]) _ _ rfl kR bR (fun _ _=>Grow.trans) (cM tA0) ?_ ?_
 · refine aR ?_;refine pH 0 (.pointer (some b)) ?_;refine sC (fun _ C c _ _ _ y _ _ _ L=>?_) ?_
   · have aM:_=_:=y 0 10 kR rfl;replace c:(Grow) i C:=gD c;go_simp;refine (nZ b (some ⟨f,0,none⟩) I (some ⟨e,0,none⟩) k B (m+1) C (z.out.below c z.out.lt) oM oM).mono ?_;rintro r b7 ⟨rfl,N⟩;exact L _ _ N rfl
   refine pH 0 (.pointer (some b)) ?_;refine pV 2 12 ?_;refine pV 3 13 ?_;refine pL 4 14 (fun C c=>have c:(Grow) i C:=gD c;(((z.out.below c z.out.lt).cell 2).trans rfl:C.cell? ⟨b,2,none⟩=some (.int .i64 268435456))) ?_;refine sC (fun _ _ _ _ _ _ y _ _ _ L=>?_) ?_
   · have aN:_=_:=y 1 11 kR rfl;have aO:_=_:=y 5 15 kR rfl;have b2:(((B -(m+1):Nat):Int)==268435456)=false:=(by rw [zCb];omega);go_simp;exact L _ _ bR (by first | rfl | simp [is] |(simp [is];omega))
   refine pV 6 16 ?_;exact aH
 · intro ak j c y;replace c:(Grow) i j:=gD c;have aj:ak (.tmp 9)=.bool false:=y 7 9 rfl;simp only [zqq];rw [aj];clear y;have A:=z.out.below c z.out.lt;have E:=T.out.below c T.out.lt;have aD:j.cell? b=some (.slice (some f) B I):=(A.cell 0).trans rfl;have aE:j.cell? ⟨b,1,none⟩=some (.slice (some e) (m+1) k):=(A.cell 1).trans rfl;have aP:=A.frozen 1;have aS:=E.frozen a;have aI:j.cell? ⟨e,m,none⟩=some (.int .i64 (a:Int)):=(c.cell (p:=⟨e,m,none⟩) a4).trans W;have aK:j.cell? ⟨f,a,none⟩=some (.bool G):=(c.cell (p:=⟨f,a,none⟩) ar).trans Y;have aY:=A.lt;have b1:=E.lt;have aZ:e < j.heap.size:=zAl a4 c.size;have a7:=aQ ah.out c;have a6:=aQ af.out c;obtain ⟨ab,H,ac,ai,ag⟩:=hqq5 c A E a7 a6;have aL:IntKind.i64.wrap (((m+1:Nat):Int) - 1)=(m:Int):=(by rw [IntKind.wrap_i64];omega);have b3:(m:Int) < ((m+1:Nat):Int):=oM;have b4:(a:Int) < (B:Int):=oM;have b5:(m:Int)<=(k:Int):=oM;have b6:((m+1:Nat):Int) > 0:=oM;clear c A E a7 a6 W Y;go_wp2_with fail;go_ret2;have av:Keep g i j:=Keep.of_below ab.out;have ao:=H.out.set 1 (.slice (some e) m k);have N:=ao.far (p:=⟨f,a,none⟩) a9 (.bool true);have ay:=aA (w':=j.setCell ⟨b,1,none⟩ (.slice (some e) m k)) ai.out fun V X _ t=>t.far (Bk.ne t H.out dC) _;have a8:=(World.ownsRow.stored ay a (.bool true)).1;have aw:=aA (w':=j.setCell ⟨b,1,none⟩ (.slice (some e) m k)) ag.out fun V X _ t=>t.far (Bk.ne t H.out dC) _;have ap:=ac.out.far (p:=⟨b,1,none⟩) (fun r=>a9 r.symm) (.slice (some e) m k);have ax:=aA (w':=(j.setCell ⟨b,1,none⟩ (.slice (some e) m k)).setCell ⟨f,a,none⟩ (.bool true)) aw fun V X _ t=>t.far (Bk.ne t ap dC) _;have a0:g f:=OwnF.at ae.out;have an:g e:=OwnF.at ad.out;rw [show ((q.map Value.bool).set a (.bool true))=(q.set a true).map Value.bool by rw [List.map_set]] at a8;refine ⟨rfl,⟨Z,some ⟨f,0,none⟩,I,some ⟨e,0,none⟩,k,?_,?_,?_,?_,?_⟩,?_⟩;rw [zAt,S.out,U.out];exact N;rw [zAt,S.out];exact a8;rw [U.out];exact ax;rw [zAt];exact OwnF.slice a0;exact OwnF.slice an;exact Keep.setCell (F:=g) (Keep.setCell (F:=g) av (p:=⟨b,1,none⟩) (.inl Z) _) (p:=⟨f,a,none⟩) (.inl a0) _
def aCI (q:Nat->Prop) (f a:Nat) (j:List Bool) (t:List Nat) (b:World) (u:ArenaE b q f j t) (i:j[a]?=some true):
 Calls prog 278 #[f,(a:Int)] b fun s w'=>s=.returned (.bool true)/\b=w':=by
 obtain ⟨F,z,r,A,C,c,e,y,x,w⟩:=u;obtain ⟨v,_⟩:=zAc.1 i;obtain ⟨k,p⟩:=eqx j.length;rw [p] at c e v;obtain ⟨o,E,g,_,H⟩:=World.ownsRow.form e oM;injection g with g _ hcc;subst g hcc;have B:b.cell? f=some (.slice (some o) k r):=(c.cell 0).trans rfl;have D:b.cell? ⟨o,a,none⟩=some (.bool true):=by refine (World.ownsRow.cellAt e a oM).trans ?_;rw [zAf,i];rfl
 have G:=c.lt;have J:(a:Int) < (k:Int):=oM;have I:decide ((a:Int)>=0)=true:=by simp
 clear c e y x w p i;go_enter func278,ntmps278;go_wp2_with fail;go_ret;exact ⟨rfl,rfl⟩
def aCB (f:Nat->Prop) (g o a:Nat) (w:List Bool) (u:List Nat) (e:World) (v:ArenaE e f g w u) (K:w[a]?=some true) (B:Bk e o 3 #[(a:Int)]) (ay:u.length<=1000000):
 Calls prog 256 #[g,.slice (some o) 1 1] e fun s w'=>s=.returned (.int .i64 0)/\ArenaE w' (Gw f e.heap.size) g (w.set a false) (u++ [a])/\Keep f e w':=by
 have ad:=aCI f g a w u e v K;obtain ⟨aa,aQ,E,x,z,i,r,X,V,U⟩:=v;obtain ⟨aE,_⟩:=zAc.1 K;obtain ⟨aO,aB,aL,aM,aN⟩:=info_parts iA;obtain ⟨y,Q⟩:=eqx w.length;obtain ⟨m,T⟩:=eqx u.length;rw [T] at i X U ay;rw [Q] at i r V aE;obtain ⟨b,aR,P,_,b1⟩:=World.ownsRow.form r oM;injection P with P _ hcc;subst P hcc;have aq:e.cell? ⟨b,a,none⟩=some (.bool true):=by refine (World.ownsRow.cellAt r a oM).trans ?_;rw [zAf,K];rfl
 have aK:g≠b:=fun s=>aT r i dC (by rw [s];rfl);have az:∃H,Bk e b 4 H:=by
  rcases r.2 with ⟨c,_⟩|⟨a9,ap,H,c,_,O,_⟩
  · cases c
  injection c with c _ _;injection c with c;injection c with c _;subst c;exact ⟨H,O⟩
 obtain ⟨H,J⟩:=az;have aw:=J.frozen a;have ao:e.cell? g=some (.slice (some b) y E):=(i.cell 0).trans rfl;have ar:e.cell? o=some (.int .i64 (a:Int)):=(B.cell 0).trans rfl;have aZ:=i.lt;have b0:=B.lt;have b2:(a:Int) < (y:Int):=oM;have aJ:o≠b:=Bk.ne B J dC;obtain ⟨j,q⟩:=eqx (e.setCell ⟨b,a,none⟩ (.bool false));have A:Bk j g 150 #[.slice (some b) y E,.slice x m z,.int .i64 268435456]:=by rw [<-q];exact i.far (p:=⟨b,a,none⟩) aK _
 have Z:Bk j o 3 #[(a:Int)]:=by rw [<-q];exact B.far (p:=⟨b,a,none⟩) aJ _
 have ag:j.ownsRow 0 4 1 (.slice (some b) y E) y ((w.set a false).map Value.bool):=by rw [<-q,List.map_set];exact (World.ownsRow.stored r a (.bool false)).1
 have Y:j.ownsRow 0 3 1 (.slice x m z) m (u.map sv):=by rw [<-q];exact aA X fun D a7 _ k=>k.far (p:=⟨b,a,none⟩) (Bk.ne k J dC) _
 have ab:f b:=OwnF.at V;have ae:Keep f e j:=by rw [<-q];exact Keep.setCell (F:=f) (Keep.refl _ _) (p:=⟨b,a,none⟩) (.inl ab) _
 have aV:j.cell? ⟨g,1,none⟩=some (.slice x m z):=(A.cell 1).trans rfl;have aY:=A.lt;have af:Rd j j.heap.size 1 (some ⟨o,0,none⟩) 1 [.int .i64 (a:Int)]:=⟨rfl,fun _=>⟨o,0,rfl,Z.lt,fun L b4 ah=>by
  rw [zBi,Z.cell];rcases L with _ | L;exact ah
  · simp at ah⟩⟩
 obtain ⟨ak,a6,a5,a3,an,ai,a4,N,a1⟩:=hqq9 A ag Y ae af q U T Q;have al:=lhd (aT Y A dC);clear i r X V U Q T J B K A Z ag Y ae q af;go_enter func256,ntmps256;go_wp2_with fail;refine wp_loop_rounds 2 ?_;rw [rounds_succ];go_wp2_with fail;refine ad.mono ?_;rintro s w1 ⟨rfl,rfl⟩;clear ad;go_wp2_with fail;rw [ai.out];clear ao ar aq aw;rw [rounds_succ];go_wp2_with (at_builtin;refine bQ _ rfl (.tmp 48) (.tmp 49) _ rfl 0 3 aO (.int .i64 0) 1 8 underlying48 aB aL aM aN rfl dC (.slice x m z) m _ rfl a5.out _ _ _ _ _ rfl an.out (by simp [Value.oneCell']) (by unfold maxLen;omega) oM (zAp _) ?_;intro b5 a0 W S ac;have I:=ak.out.grown S al.out;have aX:=I.frozen 1;have aW:=I.cell 1;obtain ⟨am,a2,aj,M⟩:=hqq4 W S ac I;obtain ⟨C,G,rfl,aF⟩:=aU W;clear W S ac I aF);go_ret;have aD:Keep f e a0:=a3.out.grown a2.out (fun L aC=>.inl (a4.out L aC));have ax:=M.out.set 1 (.slice C (m+1) G)
 have aH:=World.ownsRow.kept a6.out a2.out (by
  rcases hh:(Value.slice x m z).ownBlock with _ | aP
  · right;simp [Value.ownBlock]
  · right;intro s;have au:b=aP:=(by simpa [Value.ownBlock] using s);subst au;rcases a5.out.2 with ⟨c,_⟩|⟨a9,ap,aS,c,_,O,_⟩
    · rw [c] at hh;simp [Value.ownBlock] at hh
    · rw [c] at hh;have av:a9=b:=(by simpa [Value.ownBlock] using hh);subst av;exact aT a6.out (t:=3) O dC rfl)
 have aI:=aA (w':=a0.setCell ⟨g,1,none⟩ (.slice C (m+1) G)) aH fun D a7 _ k=>k.far (Bk.ne k M.out dC) _;have aG:=aA (w':=a0.setCell ⟨g,1,none⟩ (.slice C (m+1) G)) am.out fun D a7 _ k=>k.far (Bk.ne k M.out dC) _;have b3:=a3.out.size;refine ⟨rfl,⟨.inl aa,some ⟨b,0,none⟩,E,C,G,?_,?_,?_,?_,?_⟩,?_⟩;rw [zAt,a1.out,zAi,N.out];exact ax;rw [zAt,a1.out];exact aI;rw [zAi,N.out,zAz];exact aG;exact OwnF.slice (.inl ab);intro D i;rw [zAi,N.out] at i;rcases aj.out with v | v;exact .inl (a4.out D (v.symm.trans i));have a8:=v.symm.trans i;injection a8 with a8;exact .inr oM;exact Keep.setCell (F:=f) aD (p:=⟨g,1,none⟩) (.inl aa) _
end
end Go.Proofs.YtcfpmjbojoidoaaGreatDoor
