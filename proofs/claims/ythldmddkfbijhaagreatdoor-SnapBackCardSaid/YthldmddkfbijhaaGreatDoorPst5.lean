/- Lemmas of the walk. Conditions: each its own. -/
import Derived.Test.YthldmddkfbijhaaGreatDoorPst2
import Derived.Test.YthldmddkfbijhaaGreatDoorPst3
import Derived.Test.YthldmddkfbijhaaGreatDoorShl
import Derived.Test.YthldmddkfbijhaaGreatDoorProg
set_option linter.all false
set_option maxRecDepth 100000
set_option maxHeartbeats 4000000
open Go.Proofs.Tryz
namespace Go.Proofs.YthldmddkfbijhaaGreatDoor
section
open Go.RowKit Go
open Go.Sort (SortedIn PermIn SWO Holds)
theorem nH (n:Nat) (j:n<=1000000) (a:World):(Instr.makeSlice 22 (.int .i64 (n:Int)) (.int .i64 (n:Int))).run prog a=.ok (.slice (some ⟨a.heap.size,0,none⟩) n n) (a.alloc (.cells (Array.replicate n (.int .i64 0)) 3)):=by
 obtain ⟨i,c,e,f,g⟩:=info_parts fR;have:=run_make (P:=prog) a 22 3 i (.int .i64 0) underlying22 c e .i64 .i64 n n oM (Int.le_refl _) (by rw [g];omega) oM;rw [this,f];have b:madeCells #[.int .i64 0] n=Array.replicate n (.int .i64 0):=by apply Array.ext';rw [toList_madeCells_one];simp
 simp only [Value.cells,zBr,zBl];rw [b]
def iV (n b:Nat):Array Value:=((List.range n).map fun a=>Value.int .i64 (((if a < b then a else 0:Nat)):Int)).toArray
theorem xI (n a:Nat):(iV n a).size=n:=by simp [iV]
theorem aEJ (n:Nat):iV n 0=Array.replicate n (.int .i64 0):=by
 apply Array.ext
 · simp [iV]
 · intro c a b;simp [iV]
theorem aEK (n a:Nat) (g:a < n):(iV n a).setIfInBounds a (.int .i64 (a:Int))=iV n (a+1):=by
 apply Array.ext
 · simp [iV]
 · intro e i f;rw [Array.getElem_setIfInBounds (by simpa [iV] using f)];by_cases b:a=e
   · subst b;simp [iV]
   · rw [zBw b];simp only [iV,List.getElem_toArray,List.getElem_map,List.getElem_range];by_cases c:e < a
     · rw [zBx c,zBx oM]
     · rw [zBw c,zBw oM]
theorem aGI (m:Nat):iV (m+1) (m+1)=(wJ m).map (eW m):=by
 apply Array.ext
 · simp [iV,wJ]
 · intro c a e;have b:c < m+1:=(by simpa [iV] using a);simp [iV,wJ,eW,b]
theorem aFC {e:World} {b:Nat} {c:TypeId} {a:Array Value} {n B:Nat} (j:Bk e b c a) (k:B<=b) (i:a.size=n) (f:n<=maxLen):Made e B c 1 (some ⟨b,0,none⟩) n n a.toList:=by
 have g:e.ownsRow B c 1 (.slice (some ⟨b,0,none⟩) n n) n a.toList:=⟨by simp [i],.inr ⟨b,n,a,rfl,k,j,zAs _,f,by omega,by rw [zAg (by simp [i])]⟩⟩;exact ⟨g,Rd.of_own g,zAs _,f⟩
theorem aJw {m:Nat} (d:Array (Fin (m+1))):(d.map (eW m)).toList=(d.toList.map (·.val)).map sv:=by
 simp [eW,sv]
theorem aAw {f:Array Value} {c e:Nat->Nat} {b g:Nat} (j:∀a,a < b->f[c a]?=some (.int .i64 ((e a:Nat):Int))) (o:c b < f.size) (k:∀a,a < b->c a≠c b) (p:e b=g) (a:Nat) (r:a < b+1):(f.setIfInBounds (c b) (.int .i64 (g:Int)))[c a]?=some (.int .i64 ((e a:Nat):Int)):=by
 by_cases i:a=b
 · subst i;rw [zCd,zBx rfl,zBx o,p]
 rw [zCd,zBw (fun q=>k a oM q.symm)];exact j a oM
structure RInv (B0:Nat) (w0:World) (m n:Nat) (l:List Nat) (gn gr gx:Nat) (wr:World) (gw g6 g7 c6 c7 wd:Nat) (d:Array (Fin (m+1))) (R:List Nat):Prop where
 wide:Bk wr gw 3 #[(wd:Int)]
 len:Bk wr gn 3 #[(n:Int)]
 box:Bk wr gr 22 #[.slice (some ⟨g6,0,none⟩) n c6]
 rank:∃cs:Array Value,Bk wr g6 3 cs/\n<=cs.size/\∀(j:Nat) u,(R.map sv)[j]?=some u->cs[j]?=some u
 next:∃cs:Array Value,Bk wr g7 3 cs/\n<=cs.size
 rows:Bk wr gx 3 (d.map (eW m))
 ok:RowsOk m d
 ap:gx≠gw/\gx≠gn/\gx≠g6/\gx≠g7/\g7≠gw/\g7≠gn/\g7≠g6/\g6≠gw/\g6≠gn
 lo:B0<=gx/\B0<=g6/\B0<=g7/\B0<=gr
 cap:n<=c6/\n<=c7
 rlen:R.length=n
 rle:∀r∈R,r<=1000
 rk:RankOk (aN l) (aN R) wd
 wd1:1<=wd
 wdn:wd<=n
 below:Below B0 w0 wr
structure SetT (B:Nat) (T:TypeId) (w w':World):Prop where
 below:Below B w w'
 other:∀b t cs,t≠T->Bk w b t cs->Bk w' b t cs
 one:∀b c,Bk w b T #[c]->∃c',Bk w' b T #[c']
theorem SetT.set {g:Nat} {i:TypeId} {f:World} {a:Nat} {k:Value} (q:Bk f a i #[k]) (r:g<=a) (e:Value):SetT g i f (f.setCell ⟨a,0,none⟩ e):=by
 refine ⟨bR.setCell r _,fun j u t s b=>?_,fun j o b=>?_⟩;exact b.far (fun c=>s (by subst c;exact (aM b q).1)) _;by_cases c:j=a;subst c;exact ⟨e,b.set 0 e⟩;exact ⟨o,b.far (p:=⟨a,0,none⟩) c _⟩
section
variable {B0 : Nat} {w0 : World} {m n : Nat} {l : List Nat} {gn gr gx : Nat} {wr w' : World} {gw g6 g7 c6 c7 wd : Nat} {d d' : Array (Fin (m + 1))} {R : List Nat}
theorem aCD {f:World} {e n:Nat} {R:List Nat} (k:R.length=n) (i:∃a:Array Value,Bk f e 3 a/\n<=a.size/\∀(b:Nat) c,(R.map sv)[b]?=some c->a[b]?=some c):Rd f f.heap.size 1 (some ⟨e,0,none⟩) n (R.map sv):=by
 obtain ⟨a,g,p,j⟩:=i;refine ⟨by simp [k],fun _=>⟨e,0,rfl,g.lt,fun b c o=>?_⟩⟩;rw [zBi,g.cell];exact j b c o
theorem RInv.ordk (a:RInv B0 w0 m n l gn gr gx wr gw g6 g7 c6 c7 wd d R) (b:Keep (fun g=>g=gx) wr w'):OrdAt w' gw gn gr wd n (some ⟨g6,0,none⟩) c6 R:=by
 obtain ⟨c,e,f,p,q,r,s,t,u⟩:=a.ap;obtain ⟨i,j,k,o⟩:=a.rank;exact ⟨((b.bk a.wide c.symm).cell 0).trans rfl,((b.bk a.len e.symm).cell 0).trans rfl,((b.bk a.box (Bk.ne a.box a.rows dC)).cell 0).trans rfl,aCD a.rlen ⟨i,b.bk j f.symm,k,o⟩⟩
theorem RInv.keepx (a:RInv B0 w0 m n l gn gr gx wr gw g6 g7 c6 c7 wd d R) (b:Keep (fun c=>c=gx) wr w') (u:Bk w' gx 3 (d'.map (eW m))) (t:RowsOk m d'):RInv B0 w0 m n l gn gr gx w' gw g6 g7 c6 c7 wd d' R:=by
 obtain ⟨e,f,g,i,v,w,x,y,z⟩:=a.ap;obtain ⟨j,o,p,q⟩:=a.rank;obtain ⟨k,r,s⟩:=a.next
 exact ⟨b.bk a.wide e.symm,b.bk a.len f.symm,b.bk a.box (Bk.ne a.box a.rows dC),⟨j,b.bk o g.symm,p,q⟩,⟨k,b.bk r i.symm,s⟩,u,t,a.ap,a.lo,a.cap,a.rlen,a.rle,a.rk,a.wd1,a.wdn,
  a.below.trans (b.to_below (by have:=a.lo.1;have:=a.rows.lt;omega) (fun c B A=>by have:=a.lo.1;omega))⟩
theorem RInv.keep7 (a:RInv B0 w0 m n l gn gr gx wr gw g6 g7 c6 c7 wd d R) (b:Keep (fun e=>e=g7) wr w') (r:∃c:Array Value,Bk w' g7 3 c/\n<=c.size):RInv B0 w0 m n l gn gr gx w' gw g6 g7 c6 c7 wd d R:=by
 obtain ⟨s,t,u,f,g,i,j,v,w⟩:=a.ap;obtain ⟨c,k,o,p⟩:=a.rank;obtain ⟨x,q,z⟩:=a.next
 exact ⟨b.bk a.wide g.symm,b.bk a.len i.symm,b.bk a.box (Bk.ne a.box q dC),⟨c,b.bk k j.symm,o,p⟩,r,b.bk a.rows f,a.ok,a.ap,a.lo,a.cap,a.rlen,a.rle,a.rk,a.wd1,a.wdn,
  a.below.trans (b.to_below (by have:=a.lo.1;have:=a.rows.lt;omega) (fun e A y=>by have:=a.lo.2.2.1;omega))⟩
theorem RInv.grow (a:RInv B0 w0 m n l gn gr gx wr gw g6 g7 c6 c7 wd d R) (c:Below wr.heap.size wr w'):RInv B0 w0 m n l gn gr gx w' gw g6 g7 c6 c7 wd d R:=
 a.keep7 (Keep.of_below c) (by
  obtain ⟨e,b,f⟩:=a.next;exact ⟨e,b.below c b.lt,f⟩)
end
theorem nW (G:Option Addr) (m k ce:Nat) (K:List UInt8) (B:World) (a3:Rd B ce 1 G m (K.map bv)) (e6:ce<=B.heap.size) (fe:m<=200):
 Calls prog 89 #[.slice G m k] B fun q w'=>∃dB ar a8,IsSuf (aF K) dB/\q=.returned (.slice ar (m+1) a8)/\Made w' B.heap.size 3 1 ar (m+1) a8 (dB.map sv)/\Below B.heap.size B w':=by
 have dp:K.length=m:=by simpa using a3.1
 obtain ⟨dI,cA⟩:=hqq2 a3 dp;clear a3 dp;go_enter func89,ntmps89;go_wp2_with fail;obtain ⟨n,bU⟩:=eqx (m+1);have c0:=yG B.heap.size 0 G m k B.heap.size K (B.alloc (.cells #[.slice G m k] 26)) (Bk.new _ _ _) ((dI.out.mono e6).alloc nL _) (by simp) oM;rw [bU] at c0;have fg:n<=201:=oM;have ef:1<=n:=oM;have u:=lhd bU;clear bU;refine c0.mono ?_;clear c0;rintro q w1 ⟨bh,bB,rfl,dg,d0⟩;have d1:=((Below.refl B.heap.size B).alloc nL _).trans (d0.mono (by simp));obtain ⟨cu,aG⟩:=hqq2 dg d1;clear dg d0 d1;go_wp2_with fail;obtain ⟨gn,b0⟩:=eqx w1.heap.size;have az:Bk (w1.alloc (.cells #[(n:Int)] 3)) gn 3 #[(n:Int)]:=b0 ▸ Bk.new _ _ _;have b6:=cu.out.below (bR.alloc nL (.cells #[(n:Int)] 3));have bH:=aG.out.alloc aG.out.size (.cells #[(n:Int)] 3);have bG:=b6.rd;have eX:B.heap.size<=gn:=b0 ▸ aG.out.size;rw [b0];generalize w1.alloc (.cells #[(n:Int)] 3)=W0 at az b6 bH bG⊢;clear cu aG b0;have d5:=az.cell 0;have dt:=az.lt;have bq:Hid (W0.cell? ⟨gn,0,none⟩=some (.int .i64 (n:Int))):=lhd d5;obtain ⟨br,ck,dF,aE,bm⟩:=hqq5 dt bG b6 bH az;clear d5 dt bG b6 bH az;refine wp_region_any kR ?_;refine vP [18,19,20,21,22,23,6,5,7] [6,19,21,23] 8 (SetT W0.heap.size 22) (Below W0.heap.size W0) [k0 (is (n:Int)),k0 (fun e s=>∃b,e=.slice (some ⟨b,0,none⟩) n n/\W0.heap.size<=b/\Bk s b 3 (Array.replicate n (.int .i64 0))),k0 (is (.slice bh n bB)),k0 (fun e s=>∃G k,e=.slice G n k/\Made s W0.heap.size 3 1 G n k ((aF K).map sv)),k0 (is (n:Int)),k0 (fun e s=>∃b,e=.slice (some ⟨b,0,none⟩) n n/\W0.heap.size<=b/\Bk s b 3 (Array.replicate n (.int .i64 0))),k0 (fun e s=>∃b k,e=.pointer (some ⟨b,0,none⟩)/\W0.heap.size<=b/\Bk s b 22 #[k]),kEq 19,kLk 6 21 (fun a4 e s=>∃b,a4=.pointer (some ⟨b,0,none⟩)/\W0.heap.size<=b/\Bk s b 22 #[e]),kEq 23] _ _ rfl kR kR (bR.drew) (xS rfl) (fun B w' H a=>a.elim (fun a=>H.trans (a.mono H.size)) (fun a=>H.trans a.below)) (by repeat' (first | exact aEO _ | exact aFI _ | exact aJR _ _ _ |(refine zAe.2 ⟨?_,?_⟩)|(intro F Q;cases Q))) (by repeat' (first | exact uV _ _ | exact aCk _ | exact qX _ _ | exact jD (fun _ _ _ ⟨b,y,r,z⟩ a=>⟨b,y,r,z.below a z.lt⟩)| exact jD (fun _ _ _ ⟨G,k,y,r⟩ a=>⟨G,k,y,r.below a⟩)| exact jD (fun _ _ _ ⟨b,k,y,r,z⟩ a=>⟨b,k,y,r,z.below a z.lt⟩)| exact jD (fun _ _ _ _ ⟨b,y,r,z⟩ a=>⟨b,y,r,z.below a z.lt⟩)| exact qW (fun _ _ _ ⟨b,y,r,z⟩ a=>⟨b,y,r,z.below a z.lt⟩)| exact qW (fun _ _ _ ⟨G,k,y,r⟩ a=>⟨G,k,y,r.below a⟩)| exact qW (fun _ _ _ ⟨b,k,y,r,z⟩ a=>⟨b,k,y,r,z.below a z.lt⟩)| exact qW (fun _ _ _ _ ⟨b,y,r,z⟩ a=>⟨b,y,r,z.below a z.lt⟩)|(refine zAe.2 ⟨?_,?_⟩)|(intro F Q;cases Q))) (by simp only [List.eraseIdx_cons_zero,List.eraseIdx_cons_succ,List.eraseIdx_nil];repeat' (first | exact uV _ _ | exact aCk _ | exact qX _ _ | exact jD (fun _ _ _ ⟨b,y,r,z⟩ a=>⟨b,y,r,a.other _ _ _ dC z⟩)| exact jD (fun _ _ _ ⟨G,k,y,r⟩ a=>⟨G,k,y,oQ r fun S C W=>a.other _ _ _ dC W⟩)| exact jD (fun _ _ _ ⟨b,k,y,r,z⟩ a=>let ⟨a8,cT⟩:=a.one _ _ z;⟨b,a8,y,r,cT⟩)|(refine zAe.2 ⟨?_,?_⟩)|(intro F Q;cases Q))) ?_ ?_
 · refine aO ?_;refine aC (cU rfl rfl fun x _ I _ _ _ A _ _ _ _ J=>?_) ?_
   · obtain ⟨D,P⟩:=I;have e1:x (.tmp 4)=.pointer (some ⟨gn,0,none⟩):=A 4 kR;clear A;have e9:=(D.cell (p:=⟨gn,0,none⟩) br.out).trans bq.out;go_simp;exact J _ _ (dO bR rfl rfl) rfl
   refine aC (cU rfl rfl fun _ _ I _ _ _ A E _ _ _ J=>?_) ?_
   · obtain ⟨D,P⟩:=I;have eI:_=_:=E 0 18 kR rfl;clear A;have eo:=nH n oM;go_simp;exact J _ _ (jM (bR.alloc nL _) rfl (fun b N=>by simp [blk?] at N;subst N;simp)) ⟨_,rfl,D.size,Bk.new _ _ _⟩
   refine aC (cU rfl rfl fun x _ I _ _ _ A _ _ _ _ J=>?_) ?_
   · obtain ⟨D,P⟩:=I;have eL:x (.tmp 3)=.slice bh n bB:=A 3 kR;clear A;go_simp;exact J _ _ (dO bR rfl rfl) rfl
   refine aC (cU rfl rfl fun _ _ I _ _ _ A E cE _ _ J=>?_) ?_
   · obtain ⟨D,P⟩:=I;have eJ:_=_:=E 2 20 kR rfl;clear A;go_simp;refine (aAh bh n bB W0.heap.size (aF K) _ (ck.out.below D) D.size oM).mono ?_;rintro q fA ⟨ar,a8,rfl,bT,e7⟩;refine J _ _ (jM e7 rfl (fun b N=>?_)) ⟨ar,a8,rfl,bT.mono D.size⟩;obtain ⟨_,_,_,_,fp⟩:=aR bT.own;rcases ar with _ | cE
     · simp [blk?] at N
     obtain ⟨ev,dU,a2,_,aZ⟩:=aR bT.own;injection a2 with a2;have:=aZ cE a2.symm;simp [blk?] at N;subst N;exact this
   refine aC (cU rfl rfl fun x _ I _ _ _ A _ _ _ _ J=>?_) ?_
   · obtain ⟨D,P⟩:=I;have e1:x (.tmp 4)=.pointer (some ⟨gn,0,none⟩):=A 4 kR;clear A;have e9:=(D.cell (p:=⟨gn,0,none⟩) br.out).trans bq.out;go_simp;exact J _ _ (dO bR rfl rfl) rfl
   refine aC (cU rfl rfl fun _ _ I _ _ _ A E _ _ _ J=>?_) ?_
   · obtain ⟨D,P⟩:=I;have eK:_=_:=E 4 22 kR rfl;clear A;have eo:=nH n oM;go_simp;exact J _ _ (jM (bR.alloc nL _) rfl (fun b N=>by simp [blk?] at N;subst N;simp)) ⟨_,rfl,D.size,Bk.new _ _ _⟩
   refine aC (cU rfl rfl fun _ _ I _ _ _ A _ _ _ _ J=>?_) ?_
   · obtain ⟨D,P⟩:=I;clear A;go_simp;exact J _ _ (jM (bR.alloc nL _) rfl (fun b N=>by simp [blk?] at N;subst N;simp)) ⟨_,_,rfl,D.size,Bk.new _ _ _⟩
   refine aC (cU rfl rfl fun x aq I _ _ _ A E _ _ _ J=>?_) ?_
   · obtain ⟨D,P⟩:=I;have c8:(fun e s=>∃b,e=.slice (some ⟨b,0,none⟩) n n/\W0.heap.size<=b/\Bk s b 3 (Array.replicate n (.int .i64 0))) (x (.tmp 19)) aq:=E 1 19 kR rfl;clear A;clear c8;go_simp;exact J _ _ (dO bR rfl rfl) (by first | exact e19.symm | rfl)
   refine aC (cU rfl rfl fun x aq I _ _ _ A E _ _ _ J=>?_) ?_
   · obtain ⟨D,P⟩:=I;have cb:(fun e s=>∃b k,e=.pointer (some ⟨b,0,none⟩)/\W0.heap.size<=b/\Bk s b 22 #[k]) (x (.tmp 6)) aq:=E 6 6 kR rfl;have c9:(fun e s=>∃G k,e=.slice G n k/\Made s W0.heap.size 3 1 G n k ((aF K).map sv)) (x (.tmp 21)) aq:=E 3 21 kR rfl;clear A;obtain ⟨b,k,e2,N,W⟩:=cb;obtain ⟨eu,eB,e0,ff⟩:=c9;have c6:=W.cell 0;have eM:=W.frozen 0;have eV:=W.lt;go_simp;exact J (.bool true) _ (aIo (SetT.set W N _) (by simp [World.setCell]) rfl) ⟨b,e2,N,by rw [e0];exact W.set 0 _⟩
   refine aC (cU rfl rfl fun x aq I _ _ _ A E _ _ _ J=>?_) ?_
   · obtain ⟨D,P⟩:=I;have ca:(fun e s=>∃b,e=.slice (some ⟨b,0,none⟩) n n/\W0.heap.size<=b/\Bk s b 3 (Array.replicate n (.int .i64 0))) (x (.tmp 23)) aq:=E 5 23 kR rfl;clear A;clear ca;go_simp;exact J _ _ (dO bR rfl rfl) (by first | exact e23.symm | rfl)
   exact aD
 · intro x a5 D P E cZ;have cQ:x (.tmp 5)=x (.tmp 19):=E 7 5 rfl;have cb:(fun e s=>∃b k,e=.pointer (some ⟨b,0,none⟩)/\W0.heap.size<=b/\Bk s b 22 #[k]) (x (.tmp 6)) a5:=E 6 6 rfl;have cR:x (.tmp 7)=x (.tmp 23):=E 9 7 rfl;have c8:(fun e s=>∃b,e=.slice (some ⟨b,0,none⟩) n n/\W0.heap.size<=b/\Bk s b 3 (Array.replicate n (.int .i64 0))) (x (.tmp 19)) a5:=E 1 19 rfl;have c9:(fun e s=>∃G k,e=.slice G n k/\Made s W0.heap.size 3 1 G n k ((aF K).map sv)) (x (.tmp 21)) a5:=E 3 21 rfl;have ca:(fun e s=>∃b,e=.slice (some ⟨b,0,none⟩) n n/\W0.heap.size<=b/\Bk s b 3 (Array.replicate n (.int .i64 0))) (x (.tmp 23)) a5:=E 5 23 rfl;obtain ⟨fz,dz⟩:=cZ 8 dC;have eq:(fun a4 e s=>∃b,a4=.pointer (some ⟨b,0,none⟩)/\W0.heap.size<=b/\Bk s b 22 #[e]) (x (.tmp 6)) (x (.tmp 21)) a5:=dz;clear dz;simp only [zqq];clear E cZ;obtain ⟨gx,ba,ds,c3⟩:=c8;obtain ⟨g7,aY,eS,cX⟩:=ca;obtain ⟨dE,c6,aX,bF⟩:=c9;obtain ⟨gr,dk,fl,bZ⟩:=eq;rw [aX] at bZ;obtain ⟨g6,rfl,eR,cV⟩:∃g6,dE=some ⟨g6,0,none⟩/\W0.heap.size<=g6/\∃C:Array Value,Bk a5 g6 3 C/\n<=C.size/\∀(c:Nat) a4,((aF K).map sv)[c]?=some a4->C[c]?=some a4:=by
    rcases bF.own.2 with ⟨H,_⟩|⟨b,eD,dW,H,r,z,cT,eP,eQ,e5⟩;injection H with aZ a2;omega
    · injection H with aZ a2 h10;refine ⟨b,aZ,r,dW,z,by omega,fun c a4 b8=>?_⟩;rw [<-e5,zBs,Array.getElem?_toList] at b8;split at b8;exact b8
      · cases b8
   have d6:gx≠g7:=fun q=>P.2 19 (by simp) 23 (by simp) dC gx (by rw [ba];rfl) (by rw [aY,q];rfl);have d7:gx≠g6:=fun q=>P.2 19 (by simp) 21 (by simp) dC gx (by rw [ba];rfl) (by rw [aX,q];rfl);have d8:g7≠g6:=fun q=>P.2 23 (by simp) 21 (by simp) dC g7 (by rw [aY];rfl) (by rw [aX,q];rfl);have ea:=bm.out.lt;have d2:=bm.out.below D ea;have db:=aE.out.trans (D.mono aE.out.size);have eY:=aE.out.size;rw [<-aEJ] at c3;have ag:n<=c6:=bF.cap;rw [cQ,cR,ba,aY,dk];obtain ⟨aQ,bj,cf,aM,bn,Z⟩:=hqq6 c3 cX cV bZ d2 db;have co:gx≠g7/\gx≠g6/\g7≠g6:=⟨d6,d7,d8⟩;have cj:=lhd co;clear cQ cR ba aY dk c3 cX cV bZ d2 db co d6 d7 d8 D P cb aX bF ck dF aE bm bq br;go_wp2_with fail;go_loopw [26,8] (fun o _ wr=>∃a:Nat,a<=n/\o=.int .i64 a/\Bk wr gx 3 (iV n a)/\Keep (fun S=>S=gx) a5 wr) (fun o _ _=>n -(intOf o).toNat)
   case atStart=>exact ⟨0,by omega,rfl,aQ.out,Keep.refl _ _⟩
   case round=>
    obtain ⟨a,ec,rfl,ae,Y⟩:=hrel;by_cases b5:a < n
    · have cF:=ae.cell a;have e3:=ae.frozen a;rw [zAq (by rw [xI];exact b5)] at cF;obtain ⟨aH,a1⟩:=hqq2 ae Y;clear ae Y;generalize (iV n a)[a]'(by rw [xI];exact b5)=u0 at cF;go_wp2_with fail;go_roundw
      case rel=>exact ⟨a+1,by omega,by go_num,by rw [<-aEK _ _ b5];exact aH.out.set a _,a1.out.setCell (.inl rfl) _⟩
      case measure=>simp [intOf];omega
    · obtain rfl:n=a:=oM;obtain ⟨aH,a1⟩:=hqq2 ae Y;clear ae Y;go_wp2_with fail;obtain ⟨gw,bP⟩:=eqx wr.heap.size;have d3:Bk (wr.alloc (.cells #[(1:Int)] 3)) gw 3 #[(1:Int)]:=bP ▸ Bk.new _ _ _
      have aj:RInv B.heap.size B m n (aF K) gn gr gx (wr.alloc (.cells #[(1:Int)] 3)) gw g6 g7 c6 n 1 (wJ m) (aF K):=by
         obtain ⟨cO,cP,dX⟩:=cj.out;obtain ⟨C,du,ek,el⟩:=cf.out;have ak:=a1.out;have bb:=ak.size;have fr:=aQ.out.lt;have fs:=bn.out.lt;have ft:=bj.out.lt;have ep:=du.lt;have fw:=aM.out.lt;refine ⟨d3,(ak.bk bn.out (fun q=>by have:=ds;omega)).alloc _,(ak.bk aM.out (fun q=>by subst q;exact Bk.ne aM.out aQ.out dC rfl)).alloc _,⟨C,(ak.bk du (fun q=>cP q.symm)).alloc _,ek,el⟩,⟨_,(ak.bk bj.out (fun q=>cO q.symm)).alloc _,by simp⟩,?_,aHO m,?_,?_,⟨ag,zAs _⟩,?_,?_,aEi _,zAs _,ef,?_⟩;have:=aH.out;rw [<-u.out,aGI] at this;exact this.alloc _
         · refine ⟨?_,?_,cP,cO,?_,?_,dX,?_,?_⟩<;> omega
         · refine ⟨?_,?_,?_,?_⟩<;> omega
         · rw [aL,cA.out,u.out]
         intro cd a3;have:=eC K cd a3;omega;refine (Z.out.trans ?_).alloc oM _;exact ak.to_below (by have:=Z.out.size;omega) (fun S W q=>by have:=ds;omega)
      rw [bP];generalize wr.alloc (.cells #[(1:Int)] 3)=W8 at aj⊢;have av:=lhd aj;clear aj d3 bP aH a1 cj cf bn aM bj aQ Z
      go_loopg [7,9] (n) (fun gk be bf wr=>∃gw g6 g7 c6 c7 wd d R,be=.slice (some ⟨g7,0,none⟩) n c7/\bf=.pointer (some ⟨gw,0,none⟩)/\n - wd<=gk/\RInv B.heap.size B m n (aF K) gn gr gx wr gw g6 g7 c6 c7 wd d R)
      case atStart=>exact ⟨_,_,_,_,_,_,_,_,rfl,rfl,by omega,av.out⟩
      case round=>
         clear av;obtain ⟨gw,g6,g7,c6,c7,wd,d,R,rfl,rfl,eZ,aj⟩:=hrel;have av:=lhd aj;clear aj;go_wp2_with fail;obtain ⟨ab,bO⟩:=eqx wr.heap.size;have ad:Bk (wr.alloc (.cells #[.func (.func 145) #[] #[.pointer (some ⟨gw,0,none⟩),gn,gr]] 69)) ab 69 #[.func (.func 145) #[] #[.pointer (some ⟨gw,0,none⟩),gn,gr]]:=bO ▸ Bk.new _ _ _;have M:=av.out.grow ((Below.refl wr.heap.size wr).alloc nL (.cells #[.func (.func 145) #[] #[.pointer (some ⟨gw,0,none⟩),gn,gr]] 69));rw [bO];generalize wr.alloc (.cells #[.func (.func 145) #[] #[.pointer (some ⟨gw,0,none⟩),gn,gr]] 69)=W1 at ad M⊢;have bL:d.size=n:=(by rw [M.ok.size,u.out]);have d4:CmpReads prog 146 #[gr,ab] (eW m) (cfF m wd R) gx 0 d.size W1:=fun t am dY eU be bf=>by have a:=jK (enc:=eW m) M.rows.lt 0 t dY am;exact aAN gw gn gr ab wd n c6 (some ⟨g6,0,none⟩) R be.val bf.val _ (M.ordk a) (((a.bk ad (Bk.ne ad M.rows dC)).cell 0).trans rfl) (by have:=M.wdn;omega) oM M.rle (by have:=be.isLt;have:=u.out;omega) (by have:=bf.isLt;have:=u.out;omega)
         have c1:=Any.slices_SortFunc shSort (eW m) (mA m) (cfF m wd R) (aKn m M.rk) 146 #[gr,ab] gx 0 n d W1 (enters_of func146 kR rfl) d4.lays (aIT M.rows) M.rows.lt oM;rw [bL] at c1;refine c1.mono ?_;clear c1 d4;rintro q aS ⟨rfl,d',nq,am,bW,c2,rfl⟩;have dj:RowsOk m d':=M.ok.of_perm (by rw [bL];exact bW);have b2:=M.keepx (jK (enc:=eW m) M.rows.lt 0 nq d' am) (aJo M.rows bW.1 nq am) dj;have bI:=(jK (enc:=eW m) M.rows.lt 0 nq d' am).bk ad (Bk.ne ad M.rows dC);generalize Go.Proofs.sortWorld (eW m) W1 gx 0 nq d' am=aS at b2 bI⊢;have dm:∀o,o+1 < n->¬ltW (aN (aF K)) (wd+wd) (dZ d' (o+1)) (dZ d' o):=(by rw [<-u.out] at c2⊢;exact fun o ai=>aHC b2.rk dj.size c2 o ai);obtain ⟨cz,a6,cl⟩:=hqq3 dm b2 bI;clear dm M b2 ad bI bW c2 bL av bO;have ay:=u.out;have df:=a6.out.ok.lt 0;have cM:aS.cell? ⟨gx,0,none⟩=some (.int .i64 ((dZ d' 0:Nat):Int)):=(a6.out.rows.cell 0).trans (a6.out.ok.cell oM);obtain ⟨dV,bd,dw⟩:=a6.out.next;obtain ⟨an,bV⟩:=eqx (dZ d' 0);rw [bV] at cM df;have bC:=bd.cell an;rw [zAq oM] at bC;have e4:=bd.frozen an;generalize dV[an]' oM=u7 at bC;have eg:an < n:=oM;obtain ⟨cC,cw⟩:=hqq2 bd bV;clear bd bV ay df;go_wp2_with fail;clear cM bC e4;go_loopw [12] (fun o dD=>∃a:Nat,1<=a/\a<=n/\o=.int .i64 a/\∃C:Array Value,Bk dD g7 3 C/\n<=C.size/\(∀c,c < a->C[dZ d' c]?=some (.int .i64 ((cN (kB (aN R) wd) (dZ d') c:Nat):Int)))/\Keep (fun S=>S=g7) aS dD) (fun o _=>n -(intOf o).toNat)
         case atStart=>refine ⟨1,by omega,by omega,rfl,_,cC.out.set an _,by simpa using dw,fun c aB=>?_,(Keep.refl (fun S=>S=g7) aS).setCell (p:=⟨g7,an,none⟩) (.inl rfl) _⟩;obtain rfl:c=0:=oM;rw [cw.out,zCd,zBx rfl,zBx oM];rfl
         case round=>
          clear cC cw eg dw;obtain ⟨a,fc,ec,rfl,C,X,aA,af,Y⟩:=hrel;have L:=a6.out.keep7 Y ⟨C,X,aA⟩;by_cases b5:a < n
          · obtain ⟨c,aB⟩:∃c,a=c+1:=⟨a - 1,by omega⟩;have ay:=u.out;have a0:wr.cell? ⟨gx,a,none⟩=some (.int .i64 ((dZ d' a:Nat):Int)):=(L.rows.cell a).trans (L.ok.cell oM);have a9:wr.cell? ⟨gx,c,none⟩=some (.int .i64 ((dZ d' c:Nat):Int)):=(L.rows.cell c).trans (L.ok.cell oM);have aU:=(X.cell (dZ d' c)).trans (af c oM);have dy:=L.ok.lt a;have dx:=L.ok.lt c;have ax:=X.cell (dZ d' a);rw [zAq oM] at ax;have bE:=X.frozen (dZ d' a);generalize C[dZ d' a]' oM=uk at ax;have aT:=(L.len.cell 0).trans rfl;have aW:IntKind.i64.wrap ((a:Int) - 1)=(c:Int):=(by rw [IntKind.wrap_i64];omega);have ed:decide ((a:Int) < (n:Int))=true:=(by simp;omega);obtain ⟨O,bY⟩:=eqx (dZ d' a);obtain ⟨ao,bX⟩:=eqx (dZ d' c);obtain ⟨e,b9⟩:=eqx (cN (kB (aN R) wd) (dZ d') c);have dq:=uB (kB (aN R) wd) (dZ d') 0 c;rw [zBi,b9] at dq;have fm:e<=1000:=(by have:cN (kB (aN R) wd) (dZ d') 0=0:=rfl;omega);rw [bY] at a0 dy ax bE;rw [bX] at a9 dx aU;rw [b9] at aU;have ei:O < n:=oM;have eh:ao < n:=oM;have fb:c < n:=oM;obtain ⟨au,U,aI,a1,g,aw,cx,dK,aK⟩:=hqq9 X aA af Y L bY bX b9 aB;clear X aA af Y L bY bX b9 dq ay dy dx aB;go_wp2_with fail;refine wp_region_still_tail 14 kR kR ?_;simp only [List.take_succ_cons,List.take_zero,List.drop_succ_cons,List.drop_zero];change wpStill _ _ wr.drew (fun dM=>wpList _ _ _ _ dM wr.drew) _ _;have cI:wr.drew.cell? ⟨gx,a,none⟩=_:=a0;have cH:wr.drew.cell? ⟨gx,c,none⟩=_:=a9;have cK:wr.drew.cell? ⟨g7,ao,none⟩=_:=aU;have cL:wr.drew.cell? ⟨g7,O,none⟩=_:=ax;have cS:wr.drew.frozen? ⟨g7,O,none⟩=false:=bE;obtain ⟨bo,bt,bs⟩:=hqq3 au.out.drew a1.out.drew (g.out.keep7 (Keep.refl _ _).drew ⟨C,au.out.drew,U.out⟩);clear a0 a9 aU ax bE aT au a1 g;generalize wr.drew=W5 at cI cH cK cL cS bo bt bs⊢
            iterate 14 still_step
            refine wpStill_nil ?_;go_wp2_with fail;have ag:=bo.out.set O (.int .i64 (e:Int));have b3:=bt.out.setCell (p:=⟨g7,O,none⟩) (.inl rfl) (.int .i64 (e:Int));have T:=bs.out.keep7 ((Keep.refl (fun S=>S=g7) W5).setCell (p:=⟨g7,O,none⟩) (.inl rfl) (.int .i64 (e:Int))) ⟨_,ag,by simpa using U.out⟩
            have bJ:=b3.bk cl.out (fun q=>by
               obtain ⟨eG,a2,_⟩:=a6.out.next;subst q;exact Bk.ne cl.out a2 dC rfl)
            generalize W5.setCell ⟨g7,O,none⟩ (.int .i64 (e:Int))=W6 at ag b3 T bJ⊢;clear cI cH cK cL cS bo bt bs;have a0:W6.cell? ⟨gx,a,none⟩=some (.int .i64 (O:Int)):=(by rw [<-aw.out];exact (T.rows.cell a).trans (T.ok.cell (by have:=u.out;omega)));have a9:W6.cell? ⟨gx,c,none⟩=some (.int .i64 (ao:Int)):=(by rw [<-cx.out];exact (T.rows.cell c).trans (T.ok.cell (by have:=u.out;omega)));obtain ⟨bg,bb⟩:=eqx (kB (aN R) wd ao O);have c5:∀t:Nat,Calls prog 146 #[(ao:Int),(O:Int),gr,ab] (W6.drewN t) fun q w'=>q=.returned (.int .i64 bg)/\∃cc,w'=W6.drewN cc:=fun t=>by have H:=aAN gw gn gr ab wd n c6 (some ⟨g6,0,none⟩) R ao O (W6.drewN t) ((T.ordk (Keep.refl _ _)).drewN t) ((bJ.drewN t).cell 0) (by have:=T.wdn;omega) oM T.rle eh ei;rw [bb] at H;exact H.mono fun _ _ ⟨bM,cc,b7⟩=>⟨bM,t+cc,by rw [b7,World.drewN_drewN]⟩
            obtain ⟨aJ,cr,dH,dL⟩:=hqq4 ag b3 T bb;have aV:((a:Int) - 1).toNat=c:=(by have:=aK.out;omega);have aa:(0:Int)<=(a:Int) - 1:=(by have:=aK.out;omega);clear ag b3 T bJ bb;go_quiet ((with_reducible exact c5 _));have bN:dZ d' a < C.size:=(by rw [aw.out];have:=U.out;omega);have bQ:∀bc,bc < a->dZ d' bc≠dZ d' a:=fun bc fa q=>by have:=dH.out.ok.inj (i:=bc) (j:=a) (by have:=u.out;omega) (by have:=u.out;omega) q;omega
            have ah:cN (kB (aN R) wd) (dZ d') a=e+(if bg≠0 then 1 else 0):=(by rw [aK.out,<-dK.out];show cN _ _ c+(if kB (aN R) wd (dZ d' c) (dZ d' (c+1))≠0 then 1 else 0)=_;rw [<-aK.out,aw.out,cx.out,dL.out]);obtain ⟨cp,cq⟩:=hqq2 bN bQ;by_cases c4:bg=0
            · subst c4;rw [zBw (by simp),zBq] at ah;have bp:=lhd ah;clear ah bN bQ a0 a9 c5 aV aa aW;go_wp2_with fail;go_roundw
              case rel=>refine ⟨a+1,by omega,by omega,by go_num,_,aJ.out.drewN _,by simpa using U.out,?_,cr.out.drewN _⟩;have:=aAw aI.out cp.out cq.out bp.out;rw [aw.out] at this;exact this
              case measure=>simp [intOf];omega
            · rw [zBx c4] at ah;have bp:=lhd ah;have dU:W6.cell? ⟨g7,O,none⟩=some (.int .i64 (e:Int)):=(by rw [aJ.out.cell,zCd,zBx rfl,zBx (by have:=U.out;omega)]);have eN:=aJ.out.frozen O;have fn:IntKind.i64.wrap ((e:Int)+1)=((e+1:Nat):Int):=(by rw [IntKind.wrap_i64];omega);have fq:(bg==0)=false:=(by simpa using c4);clear ah bN bQ a9 c5 aV aa aW;go_wp2_with fail;go_roundw
              case rel=>refine ⟨a+1,by omega,by omega,by go_num,_,(aJ.out.drewN nq).set O _,by simpa using U.out,?_,(cr.out.drewN nq).setCell (p:=⟨g7,O,none⟩) (.inl rfl) _⟩;have:=aAw aI.out cp.out cq.out bp.out;rw [aw.out] at this;rw [set_set];exact this
              case measure=>simp [intOf];omega
          · obtain rfl:n=a:=oM;have ay:=u.out;obtain ⟨t,b7⟩:∃t,n=t+1:=⟨n - 1,by omega⟩;obtain ⟨al,b4⟩:=eqx (cN (kB (aN R) wd) (dZ d') t);have d9:=uB (kB (aN R) wd) (dZ d') 0 t;rw [zBi,b4] at d9;have fd:al<=t:=(by have:cN (kB (aN R) wd) (dZ d') 0=0:=rfl;omega);obtain ⟨F,Q⟩:=eqx (dZ d' t);have fi:F < n:=(by have:=L.ok.lt t;omega);have ac:=L.box;have eE:=(L.len.cell 0).trans rfl;have ex:=ac.cell 0;have e3:=ac.frozen 0;have b1:∀b C,Bk wr b 3 C->Bk (wr.setCell ⟨gr,0,none⟩ (.slice (some ⟨g7,0,none⟩) n c7)) b 3 C:=fun b C H=>H.far (p:=⟨gr,0,none⟩) (Bk.ne H ac dC) _;have a0:(wr.setCell ⟨gr,0,none⟩ (.slice (some ⟨g7,0,none⟩) n c7)).cell? ⟨gx,t,none⟩=some (.int .i64 (F:Int)):=(by rw [<-Q];exact ((b1 _ _ L.rows).cell t).trans (L.ok.cell oM));have cJ:(wr.setCell ⟨gr,0,none⟩ (.slice (some ⟨g7,0,none⟩) n c7)).cell? ⟨g7,F,none⟩=some (.int .i64 (al:Int)):=(by rw [<-Q,<-b4];exact ((b1 _ _ X).cell _).trans (af t oM));have aT:=((b1 _ _ L.len).cell 0).trans rfl;have cG:=(ac.set 0 (.slice (some ⟨g7,0,none⟩) n c7)).cell 0;have bD:=((b1 _ _ L.wide).cell 0).trans rfl;have ee:t < n:=oM;have aW:IntKind.i64.wrap ((n:Int) - 1)=(t:Int):=(by rw [IntKind.wrap_i64];omega);obtain ⟨bx,ct,ew,g,au,U,aI,dG,ci⟩:=hqq9 b7 b4 Q L X aA af ac b1;have ed:decide ((n:Int) < (n:Int))=false:=(by simp);clear b7 b4 Q L X aA af Y ac b1 ay d9;go_wp2_with fail;have bK:=dG.out.set 0 (.slice (some ⟨g7,0,none⟩) n c7);have bS:=(Keep.refl (fun S=>S=gr) wr).setCell (p:=⟨gr,0,none⟩) (.inl rfl) (.slice (some ⟨g7,0,none⟩) n c7);have b1:=ci.out;generalize wr.setCell ⟨gr,0,none⟩ (.slice (some ⟨g7,0,none⟩) n c7)=W9 at a0 cJ aT cG bD bK bS b1⊢;have dl:=b1 _ _ g.out.rows;have cY:=b1 _ _ au.out;have dr:=b1 _ _ g.out.wide;have dh:=b1 _ _ g.out.len;obtain ⟨eF,dv,em,en⟩:=g.out.rank;have cW:=b1 _ _ dv;have dc:=g.out.below.trans (bS.to_below (by have:=g.out.lo.1;have:=g.out.rows.lt;omega) (fun S W q=>by have:=g.out.lo.2.2.2;omega));obtain ⟨cn,cy,ch,cB,cv,cg,a7⟩:=hqq7 bK dl cY dr dh cW dc;clear bK bS b1 dl cY dr dh cW dc dv en ci;have aV:((n:Int) - 1).toNat=t:=(by have:=bx.out;omega);have aa:(0:Int)<=(n:Int) - 1:=(by have:=bx.out;omega);have di:∀o c,kB (aN R) wd o c=0↔eqW (aN (aF K)) (wd+wd) o c:=aJE g.out.rk;have dd:(aF K).length=n:=(by rw [aL,cA.out,u.out]);obtain ⟨bw,V⟩:=hqq2 di dd;clear di dd;go_quiet (fail);clear aV aa aW a0 cJ aT cG bD;obtain ⟨cm,aP,bl,bz,bu,bi⟩:=hqq6 (cn.out.drewN nq) (cy.out.drewN nq) (ch.out.drewN nq) (cB.out.drewN nq) (cv.out.drewN nq) (cg.out.drewN nq);have da:Below B.heap.size B (W9.drewN nq):=⟨a7.out.os,a7.out.tape,a7.out.output,a7.out.size,a7.out.block⟩;have Z:=lhd da;clear da cn cy ch cB cv cg a7;generalize W9.drewN nq=W10 at cm aP bl bz bu bi Z⊢;by_cases de:al=t
            · subst de;have dn:=g.out.ok.suf (l:=aF K) (by rw [V.out,u.out]) (w:=wd+wd) (fun o c eb aB=>aKO bw.out cz.out oM (by have:=bx.out;have:=ct.out;rw [show n - 1=al by omega];exact this) o c eb (by have:=u.out;omega));have dJ:=lhd dn;clear dn;go_wp2_with fail;go_ret;refine ⟨_,some ⟨gx,0,none⟩,n,dJ.out,by rw [u.out];rfl,?_,Z.out⟩;rw [<-aJw];have:=aFC aP.out g.out.lo.1 (n:=n) (by simp [g.out.ok.size,u.out]) (by unfold maxLen;omega);have e8:∀bA,Made W10 B.heap.size 3 1 (some ⟨gx,0,none⟩) n n bA->Made W10 B.heap.size 3 1 (some ⟨gx,0,none⟩) (m+1) n bA:=fun bA H=>by rw [u.out];exact H
              exact e8 _ this
            · have fj:((al:Int)==(t:Int))=false:=(by simp;omega);have fk:(al==t)=false:=(by simp;omega);have bD:=bz.out.cell 0;have eH:=bz.out.lt;have fo:wd<=201:=(by have:=g.out.wdn;omega);go_wp2_with fail;have fh:wd+wd < n:=by rcases zBe (wd+wd) n with H | H;exact H;exfalso;apply de;rw [<-ct.out];refine aJX (n:=n) (fun o ai bM=>?_) t ee;have:=(bw.out _ _).1 bM;have eT:=u.out;refine aFw (l:=aF K) (by rw [V.out];exact H) (by rw [V.out];have:=g.out.ok.lt o;omega) (by rw [V.out];have:=g.out.ok.lt (o+1);omega) (fun q=>?_) this;have:=g.out.ok.inj oM oM q;omega
              go_roundg (n -(wd+wd))
              case measure=>have:=g.out.wd1;omega
              case rel=>
               obtain ⟨cD,dA,er,es,et⟩:=aHZ (cs:=C) (f:=dZ d') (v:=cN (kB (aN R) wd) (dZ d')) U.out (fun c _=>by have:=g.out.ok.lt c;have:=u.out;omega) aI.out (fun F Q=>by
                obtain ⟨o,y,r⟩:=g.out.ok.sur (p:=F) (by have:=u.out;omega);exact ⟨o,by have:=u.out;omega,r⟩)
               have ej:RankOk (aN (aF K)) (aN cD) (wd+wd):=(by refine aGm (by have:=g.out.wd1;omega) bw.out (fun o ai=>cz.out o (by rw [<-V.out];exact ai)) (by rw [dA,V.out]) (fun o ai=>er o (by rw [<-V.out];exact ai)) (fun F Q=>?_);obtain ⟨o,y,r⟩:=g.out.ok.sur (p:=F) (by have:=u.out;rw [V.out] at Q;omega);exact ⟨o,by have:=u.out;rw [V.out];omega,r⟩);obtain ⟨ey,dN,dP,dQ,ez,dR,dS,eA,dT⟩:=g.out.ap;have fy:=aP.out.lt;have fx:=g.out.wd1;have fu:=bl.out.lt;have ep:=bi.out.lt;have fv:=bu.out.lt;have aa:(wd:Int)*2=((wd+wd:Nat):Int):=oM;rw [aa];refine ⟨_,_,_,_,_,wd+wd,d',cD,rfl,rfl,zAs _,Bk.new _ _ _,bu.out.alloc _,cm.out.alloc _,⟨_,bl.out.alloc _,U.out,es⟩,⟨_,bi.out.alloc _,em⟩,aP.out.alloc _,g.out.ok,⟨?_,dN,dQ,dP,?_,dT,dS.symm,?_,dR⟩,⟨g.out.lo.1,g.out.lo.2.2.1,g.out.lo.2.1,g.out.lo.2.2.2⟩,⟨g.out.cap.2,g.out.cap.1⟩,dA,?_,ej,by omega,by omega,Z.out.alloc Z.out.size _⟩;omega;omega;omega;intro cd a3;obtain ⟨c,aB,rfl⟩:=et cd a3;have:=uB (kB (aN R) wd) (dZ d') 0 c;rw [zBi] at this;have eO:cN (kB (aN R) wd) (dZ d') 0=0:=rfl;omega
end
section
open Go.RowKit
@[irreducible] def tcells (L:List Nat):Array Value:=Array.ofFn (n:=258) fun i=>.int .i64 (((if i.val < 257 then L.count i.val else L.length):Nat):Int)
theorem dR (b:List Nat) {a:Nat} (c:a < 257):(tcells b)[a]?=some (.int .i64 ((b.count a:Nat):Int)):=by
 unfold tcells;rw [Array.getElem?_ofFn,dif_pos oM,zBx c]
theorem iC (a:List Nat):(tcells a)[257]?=some (.int .i64 ((a.length:Nat):Int)):=by
 unfold tcells;rw [Array.getElem?_ofFn,dif_pos oM];rfl
theorem eL (a:List Nat):(tcells a).size=258:=by unfold tcells;simp
theorem pX (c:Array Value) (b:List Nat) (j:c.size=258) (g:∀e,e < 257->c[e]?=some (.int .i64 ((b.count e:Nat):Int))) (i:c[257]?=some (.int .i64 ((b.length:Nat):Int))):c=tcells b:=by
 apply Array.ext_getElem?;intro f;rcases zBe f 257 with a | a
 · rw [g f a,dR b a]
 · rcases Nat.eq_or_lt_of_le a with a | a
   · rw [<-a,i,iC]
   · rw [Array.getElem?_eq_none oM,Array.getElem?_eq_none (by rw [eL];omega)]
theorem aD1 (b:List Nat) (a:Nat) (g:a < 257):((tcells b).setIfInBounds a (.int .i64 (((b.count a+1:Nat)):Int))).setIfInBounds 257 (.int .i64 ((b.length+1:Nat):Int))=tcells (b++ [a]):=by
 apply pX
 · simp [eL]
 · intro e f;rw [zCe oM];by_cases c:a=e
   · subst c;rw [Array.getElem?_setIfInBounds_self_of_lt (by rw [eL];omega)];simp
   rw [zCe c,dR b f];have: [a].count e=0:=(by simp [c]);rw [zCc,this];rfl
 · rw [Array.getElem?_setIfInBounds_self_of_lt (by simp [eL])];simp
theorem uE (f:Nat) (b:List Nat) (a:Nat) (c:World) (i:Bk c f 199 (tcells b)) (k:a < 257):
 Calls prog 106 #[f,(a:Int)] c fun g w'=>g=.returned (.int .i64 ((b.count a:Nat):Int))/\Below c.heap.size c w':=by
 have e:=lhd i;clear i;go_enter func106,ntmps106;go_wp2_with fail;refine (eY a _ k).mono ?_;rintro g w1 ⟨rfl,j⟩;have o:w1.cell? ⟨f,a,none⟩=some (.int .i64 ((b.count a:Nat):Int)):=((e.out.below j e.out.lt).cell a).trans (dR b k);have p:¬((a:Int) < 0):=oM;have q:((a:Int) < 257):=oM;clear e;go_wp2_with fail;go_ret;exact ⟨rfl,j⟩
theorem uA (c:List Nat) (b:Nat):c.countP (fun a=>decide (a < b+1))=c.countP (fun a=>decide (a < b))+c.count b:=by
 induction c with
 | nil=>rfl
 | cons a l i=>
   rw [zBn,zBn,List.count_cons,i];by_cases g:a < b;have e:a < b+1:=oM;have f:a≠b:=oM;simp [g,e,f];omega
   · by_cases e:a=b;subst e;simp;omega
     · have f:¬a < b+1:=oM;simp [g,e,f]
theorem jZ (j:Nat) (c:List Nat) (b:Nat) (f:World) (s:Bk f j 199 (tcells c)) (E:b < 257) (z:c.length<=1000):
 Calls prog 107 #[j,(b:Int)] f fun r w'=>r=.returned (.int .i64 ((c.countP (fun e=>decide (e < b)):Nat):Int))/\Below f.heap.size f w':=by
 have q:=lhd s;clear s;have F:max (b:Int) 0=(b:Int):=oM;have G:min (b:Int) 257=(b:Int):=oM;go_enter func107,ntmps107;go_wp2_with fail;go_loopw [5,10] (fun B p wr=>∃a:Nat,a<=b/\p=.int .i64 a/\B=.int .i64 ((c.countP (fun e=>decide (e < a)):Nat):Int)/\Below f.heap.size f wr) (fun _ p _=>b -(intOf p).toNat)
 case atStart=>exact ⟨0,by omega,rfl,by simp,Below.refl _ _⟩
 case round=>
  obtain ⟨a,C,rfl,rfl,g⟩:=hrel;have A:=g.size;by_cases D:a < b
  · go_wp2_with fail;refine (uE j c a wr (q.out.below g q.out.lt) oM).mono ?_;rintro r w1 ⟨rfl,w⟩;have x:=g.trans (w.mono A);have i:=uA c a;have t:c.countP (fun e=>decide (e < a+1))<=1000:=zAk zBh z;obtain ⟨u,k⟩:∃u,c.countP (fun e=>decide (e < a))=u:=⟨_,rfl⟩;obtain ⟨H,o⟩:=eqx (c.count a);rw [i] at t;rw [k,o] at i t;rw [o]
    try rw [k]
    have v:=lhd i;clear i k o;go_wp2_with fail;go_roundw
    case rel=>exact ⟨a+1,by omega,by go_num,by rw [v.out];exact dD oM,x⟩
    case measure=>simp [intOf];omega
  · have y:a=b:=oM;subst y;go_wp2_with fail;go_ret;exact ⟨rfl,g⟩
theorem sF (a:Nat) (c:List Nat) (b:Nat) (B:World) (g:Bk B a 199 (tcells c)) (q:b < 257) (I:c.length<=1000):
 Calls prog 117 #[a,(b:Int),.int .i64 1] B fun G w'=>G=.returned (.int .i64 0)/\Bk w' a 199 (tcells (c++ [b]))/\Keep (fun i=>i=a) B w':=by
 have w:=lhd g;clear g;have a5:¬((b:Int) < 0):=oM;have a6:((b:Int) < 257):=oM;obtain ⟨f,v⟩:=eqx (c.count b);obtain ⟨n,u⟩:=eqx c.length;have a8:f<=1000:=by rw [<-v];exact zAk zBv I
 rw [u] at I;have z:=aD1 c b q;rw [v,u] at z;obtain ⟨J,x,E⟩:=hqq3 z v u;clear z v u;go_enter func117,ntmps117;go_wp2_with fail;refine (eY b _ q).mono ?_;rintro G w1 ⟨rfl,A⟩;have t:=w.out.below A w.out.lt;have S:w1.cell? ⟨a,b,none⟩=some (.int .i64 (f:Int)):=by rw [<-x.out];exact (t.cell b).trans (dR c q)
 have T:w1.cell? ⟨a,257,none⟩=some (.int .i64 (n:Int)):=by rw [<-E.out];exact (t.cell 257).trans (iC c)
 have a9:¬((1:Int) < -(f:Int)):=oM;have aa:¬((1:Int) > 2147483648 -(n:Int)):=oM;obtain ⟨K,M⟩:=hqq2 A t;clear A t w;go_wp2_with fail;refine wp_region_any kR ?_;refine bH [33,34,35,36,37,38,39,40,41,42,43] (fun i=>i=a) 11 [5,11] (fun j=>Bk j a 199 (tcells c)) (fun _ j=>Bk j a 199 ((tcells c).setIfInBounds b (.int .i64 ((f+1:Nat):Int)))) [is a,is (b:Int),is a,is a,is (.pointer (some ⟨a,b,none⟩)),is (f:Int),is (.int .i64 1),is (.int .i64 ((f+1:Nat):Int)),is a,is a,is (.pointer (some ⟨a,b,none⟩)),cX] _ _ rfl kR kR (M.out) (fun j ac g _ O=>Bk.below g O g.lt) (fun _ _ _ g P=>Bk.below g P g.lt) tA0 ?_ ?_
 · refine aO ?_;refine pH3 0 (.pointer (some ⟨a,0,none⟩)) ?_;refine pH3 1 (.int .i64 (b:Int)) ?_;refine pV3 0 33 ?_;refine pV3 2 35 ?_;refine pW3 3 36 1 34 ?_;refine sC3 (fun _ C _ y _ _ _ e _ _ _ k=>?_) ?_
   · have o:=y rfl;have X:_=_:=e 4 37 kR rfl;have V:C.cell? ⟨a,b,none⟩=some (.int .i64 (f:Int)):=(by rw [<-x.out];exact (o.cell b).trans (dR c q));go_simp;exact kq k rfl
   refine pH3 2 (.int .i64 1) ?_;refine sC3 (fun _ _ _ _ _ _ _ e _ _ _ k=>?_) ?_
   · have Y:_=_:=e 5 38 kR rfl;have Z:_=_:=e 6 39 kR rfl;go_simp;exact k _ _ (aJ bR) (dD (by rw [IntKind.wrap_i64];omega))
   refine pV3 0 33 ?_;refine pV3 8 41 ?_;refine pW3 9 42 1 34 ?_;refine sC3 (fun _ C _ y _ _ _ e _ _ _ k=>?_) ?_
   · have o:=y rfl;have a1:_=_:=e 10 43 kR rfl;have a0:_=_:=e 7 40 kR rfl;have W:C.cell? ⟨a,b,none⟩=some (.int .i64 (f:Int)):=(by rw [<-x.out];exact (o.cell b).trans (dR c q));have a4:=o.frozen b;go_simp;exact k (.bool true) _ (aV (Keep.setCell (F:=fun i=>i=a) (Keep.refl _ _) (p:=⟨a,b,none⟩) (.inl rfl) _)) (o.set b _)
   exact aD
 · intro a2 D s e H;replace s:Keep (fun i=>i=a) w1 D:=kD s;obtain ⟨ab,r⟩:∃Q,(fun _ j=>Bk j a 199 ((tcells c).setIfInBounds b (.int .i64 ((f+1:Nat):Int)))) Q D:=H 11 dC;simp only [zqq];clear e H;have U:D.cell? ⟨a,257,none⟩=some (.int .i64 (n:Int)):=(by refine (r.cell 257).trans ?_;rw [zCe oM,<-E.out];exact iC c);have a3:=r.frozen 257;obtain ⟨N,L⟩:=hqq2 r s;have a7:=r.lt;clear r s;go_wp2_with fail;go_ret;refine ⟨rfl,?_,?_⟩;rw [<-J.out];exact N.out.set 257 _;exact ((Keep.of_below K.out).trans L.out).setCell (.inl rfl) _
theorem aD0:tcells []=Tryz.zeroCells199:=by kernel_rfl
theorem sE (t:Option Addr) (m I u:Nat) (c:List Nat) (b:World) (q:Rd b u 1 t m (c.map sv)) (J:u<=b.heap.size) (W:m<=1000) (w:∀f∈c,f < 257):
 Calls prog 105 #[.slice t m I] b fun o w'=>∃e,o=.returned (.tuple #[.pointer (some ⟨e,0,none⟩),.int .i64 0])/\b.heap.size<=e/\Bk w' e 199 (tcells c)/\Below b.heap.size b w':=by
 have z:c.length=m:=by simpa using q.1
 obtain ⟨G,D,v,C⟩:=hqq4 q w z J;clear q w z;go_enter func105,ntmps105;go_wp2_with fail;obtain ⟨e,x⟩:=eqx b.heap.size;have M:Bk (b.alloc (.cells Tryz.zeroCells199 199)) e 199 (tcells (c.take 0)):=by rw [List.take_zero,aD0,<-x];exact Bk.new _ _ _
 have K:=(Below.refl b.heap.size b).alloc nL (.cells Tryz.zeroCells199 199)
 try rw [x]
 go_loopw [12] (fun s wr=>∃a:Nat,a<=m/\s=.int .i64 a/\Bk wr e 199 (tcells (c.take a))/\Below b.heap.size b wr) (fun s _=>m -(intOf s).toNat)
 case atStart=>exact ⟨0,by omega,rfl,M,K⟩
 case round=>
  obtain ⟨a,V,rfl,i,g⟩:=hrel;have S:=g.size;by_cases A:a < m
  · have O:a < c.length:=(by rw [v.out];exact A);obtain ⟨f,j⟩:∃f,c[a]?=some f:=⟨c[a],zAa O⟩;obtain ⟨H,X,Y,rfl,U,r,N⟩:=((G.out.mono C.out).below g).get A;rw [zAf,j] at r;simp at r;subst r;have Q:f < 257:=D.out f (zAd j);have B:c.take (a+1)=c.take a++ [f]:=(by rw [zAv,j];rfl);have T:(c.take a).length<=1000:=(by rw [zAj];omega);unfold sv at N;obtain ⟨E,k⟩:=hqq2 B i;clear B i j;go_wp2_with fail;refine (sF e (c.take a) f _ k.out Q T).mono ?_;rintro o w1 ⟨rfl,p,y⟩;have L:Below b.heap.size b w1:=g.trans (y.to_below S (fun H g o=>by omega));rw [<-E.out] at p;have F:=lhd p;clear p y;go_wp2_with fail;go_roundw
    case rel=>exact ⟨a+1,by omega,by go_num,F.out,L⟩
    case measure=>simp [intOf];omega
  · have P:a=m:=oM;subst P;rw [zAg (by rw [v.out];omega)] at i;have k:=lhd i;clear i;go_wp2_with fail;go_ret2;exact ⟨e,rfl,by omega,k.out,g⟩
def aK (b:List Nat) (a c:Nat):List Bool:=(b.filter fun e=>bC e a==c).map (fY · a)
theorem oJ (b a:Nat) (g:a < 9):bC b (a+1)=2*bC b a+(if fY b a then 1 else 0):=by
 unfold bC fY;have e:9 -(a+1)=8 - a:=oM;have f:9 - a=(8 - a)+1:=oM;rw [e,f,Nat.pow_succ,<-Nat.div_div_eq_div_mul];generalize b / 2 ^(8 - a)=q;by_cases c:q % 2=1;simp [c];omega;simp [c];omega
theorem oI (a:Nat) (b:a < 257):bC a 0=0:=by
 unfold bC;exact Nat.div_eq_of_lt oM
theorem oK (a:Nat):bC a 9=a:=by
 unfold bC;simp
theorem lY (b a:Nat) (c:b < 257) (e:a<=9):bC b a < 2 ^ a:=by
 unfold bC;rw [Nat.div_lt_iff_lt_mul (Nat.pos_of_ne_zero (by simp)),<-Nat.pow_add,show a+(9 - a)=9 by omega];omega
theorem aEX (f:List Nat) (a b:Nat) (k:a < 9):(aK f a (bC b a)).count (fY b a)=f.countP (fun p=>bC p (a+1)==bC b (a+1)):=by
 induction f with
 | nil=>rfl
 | cons c l o=>
   have g:=oJ c a k;have i:=oJ b a k;unfold aK at o⊢;rw [zBn,<-o,List.filter_cons];by_cases e:bC c a=bC b a
   · rw [zBx (by simp [e]),List.map_cons,List.count_cons];by_cases j:fY c a=fY b a
     · have:bC c (a+1)=bC b (a+1):=(by rw [g,i,e,j]);simp [j,this]
     · have:bC c (a+1)≠bC b (a+1):=(by rw [g,i,e];cases q:fY c a <;> cases r:fY b a <;> simp_all);simp [j,this]
   · rw [zBw (by simp [e])];have:bC c (a+1)≠bC b (a+1):=(by rw [g,i];cases fY c a <;> cases fY b a <;> simp <;> omega);simp [this]
theorem aGT (e:List Nat) (b c a:Nat):(aK e b c).take ((e.take a).countP fun k=>bC k b==c)=aK (e.take a) b c:=by
 induction e generalizing a with
 | nil=>simp [aK]
 | cons g l j=>
   rcases a with _ | a
   · simp [aK]
   · have:=j a;unfold aK at this⊢;rw [List.take_succ_cons,zBn,List.filter_cons,List.filter_cons];by_cases f:bC g b=c
     · simp only [f,beq_self_eq_true,if_true,List.map_cons,List.take_succ_cons,this]
     · have i:(bC g b==c)=false:=(by simp [f]);simp only [i,Bool.false_eq_true,if_false,zBq,this]
theorem iW (a:List Nat) (b c:Nat):(aK a b c).length=a.countP fun e=>bC e b==c:=by
 unfold aK;rw [zBc,List.countP_eq_length_filter]
def fN (b:List Nat) (c f a:Nat):Nat:=(b.take c).countP fun e=>bC e a==bC f a
theorem lH (a:List Nat) (b e:Nat) (j:b<=a.length) (f:∀c∈a,c < 257) (g:e < 257):fN a b e 0=b:=by
 unfold fN;rw [List.countP_eq_length.2 (fun c i=>by
  have:=f c (List.mem_of_mem_take i);simp [oI _ this,oI _ g]),zAj]
 omega
theorem lI (c:List Nat) (e b a:Nat) (f:a < 9):((aK c a (bC b a)).take (fN c e b a)).count (fY b a)=fN c e b (a+1):=by
 unfold fN;rw [aGT,aEX _ _ _ f]
theorem aFQ (a:List Nat) (c e b:Nat):fN a c e b<=(aK a b (bC e b)).length:=by
 unfold fN;rw [iW];exact (List.take_sublist c a).countP_le
theorem aAH (a:List Nat) (b c:Nat):fN a b c 9=(a.take b).count c:=by
 unfold fN;rw [List.count_eq_countP];congr 1;funext s;rw [oK,oK]
def dY (b:Nat->Nat) (c m:Nat):List Value:=(List.range m).flatMap fun a=> [.pointer (some ⟨b a,0,none⟩),.int .i64 (c:Int),.int .i64 (a:Int)]
theorem iO (a:Nat->Nat) (b m:Nat):dY a b (m+1)=dY a b m++ [.pointer (some ⟨a m,0,none⟩),.int .i64 (b:Int),.int .i64 (m:Int)]:=by
 unfold dY;rw [List.range_succ,List.flatMap_append];simp
theorem vW (a:Nat->Nat) (c m:Nat):(dY a c m).length=m*3:=by
 induction m with
 | zero=>rfl
 | succ m b=>rw [iO,zAi,b];simp;omega
theorem fF (b:Nat->Nat) (c m a:Nat) (o:a < m):(dY b c m)[a*3]?=some (.pointer (some ⟨b a,0,none⟩))/\(dY b c m)[a*3+1]?=some (.int .i64 (c:Int))/\(dY b c m)[a*3+2]?=some (.int .i64 (a:Int)):=by
 induction m with
 | zero=>omega
 | succ m k=>
   rw [iO];by_cases f:a=m;subst f;have e:=vW b c a;refine ⟨?_,?_,?_⟩;rw [zAo oM,e,Nat.sub_self];rfl;rw [zAo oM,e,show a*3+1 - a*3=1 by omega];rfl;rw [zAo oM,e,show a*3+2 - a*3=2 by omega];rfl;have e:=vW b c m;obtain ⟨g,i,j⟩:=k oM;refine ⟨?_,?_,?_⟩;rw [zAn oM];exact g;rw [zAn oM];exact i;rw [zAn oM];exact j
theorem aA0 (b c:Nat->Nat) (f m:Nat) (e:∀a,a < m->b a=c a):dY b f m=dY c f m:=by
 induction m with
 | zero=>rfl
 | succ m g=>rw [iO,iO,g (fun a i=>e a oM),e m oM]
def ShelfRow (f:World) (c:Nat) (i:Value) (g:List Nat) (e m:Nat):Prop:=
 ∃(b:Nat->Nat),f.ownsRow c 157 3 i m (dY b e m)/\∀a,a < m->c<=b a/\TreeAt f (b a) (aK g e a)
theorem ShelfRow.vis {k w':World} {a:Nat} {j:Value} {b:List Nat} {g m:Nat} (p:ShelfRow k a j b g m) (f:Vis k w'):ShelfRow w' a j b g m:=by
 obtain ⟨o,q,c⟩:=p;exact ⟨o,f.own q dC dC,fun i e=>⟨(c i e).1,(c i e).2.vis f⟩⟩
theorem ShelfRow.below {a w':World} {B:Nat} {e:Value} {b:List Nat} {c m:Nat} (f:ShelfRow a B e b c m) (g:Below a.heap.size a w'):ShelfRow w' B e b c m:=f.vis (Vis.of_below g)
def WaveAt (g:World) (b f:Nat) (c:List Nat):Prop:=
 b<=f/\∃(e:Nat->Value) (i:Int),Bk g f 154 (wcells e (c.length:Int) i)/\∀a,a < 9->ShelfRow g b (e a) c a (2 ^ a)
theorem WaveAt.vis {f w':World} {a c:Nat} {b:List Nat} (i:WaveAt f a c b) (e:Vis f w'):WaveAt w' a c b:=by
 obtain ⟨j,g,t,k,o⟩:=i;obtain ⟨s,p⟩:=e.waveC k;exact ⟨j,g,s,p,fun r q=>(o r q).vis e⟩
theorem WaveAt.below {a w':World} {B c:Nat} {b:List Nat} (e:WaveAt a B c b) (f:Below a.heap.size a w'):WaveAt w' B c b:=e.vis (Vis.of_below f)
abbrev VB (a:Nat):World->World->Prop:=VisK (fun b=>a<=b)
theorem bD {b:Nat} {c w':World} (a:VB b c.drew w'):VB b c w':=⟨⟨a.1.os,a.1.tape,a.1.output,a.1.size,a.1.block⟩,⟨a.2.os,a.2.tape,a.2.output,a.2.size,a.2.block⟩⟩
theorem VB.to_below {a:Nat} {b w':World} (e:VB a b w') (f:a<=b.heap.size):Below a b w':=e.2.to_below f (fun g i c=>by have:=c;omega)
theorem VB.set_wave {c:World} {b a:Nat} {i:Array Value} (j:Bk c a 154 i) (k:b<=a) (e:Int):VB b c (c.setCell ⟨a,10,none⟩ (.int .i64 e)):=⟨Vis.set_wave j e,Keep.setCell (F:=fun g=>b<=g) (Keep.refl _ _) (p:=⟨a,10,none⟩) (.inl k) _⟩
@[irreducible] def rowC (f:Nat->Value) (m:Nat):Array Value:=Array.ofFn (n:=m) fun o=>f o.val
theorem oG (a:Nat->Value) (m:Nat):(rowC a m).size=m:=by unfold rowC;simp
theorem nI (b:Nat->Value) (m a:Nat) (c:a < m):(rowC b m)[a]?=some (b a):=by
 unfold rowC;rw [Array.getElem?_ofFn,dif_pos c]
theorem aHP (f:Nat->Value) (m c:Nat) (i:c < m) (g:Value):(rowC f m).setIfInBounds c g=rowC (fun b=>if b=c then g else f b) m:=by
 apply Array.ext_getElem?;intro b;rcases zBe b m with a | a
 · rw [nI _ _ _ a];by_cases e:c=b
   · subst e;rw [Array.getElem?_setIfInBounds_self_of_lt (by rw [oG];exact i),zBx rfl]
   · rw [zCe e,nI _ _ _ a,zBw (fun j=>e j.symm)]
 · rw [Array.getElem?_eq_none (by simp [oG];exact a),Array.getElem?_eq_none (by rw [oG];exact a)]
theorem aEe (b:Value) (m:Nat):rowC (fun _=>b) m=Array.replicate m b:=by
 apply Array.ext_getElem?;intro c;rcases zBe c m with a | a
 · rw [nI _ _ _ a];simp [a]
 · rw [Array.getElem?_eq_none (by rw [oG];exact a),Array.getElem?_eq_none (by simpa using a)]
structure Bits (w:World) (B gB m:Nat) (T:Nat->Value) (R:Nat->List Bool):Prop where
 blk:Bk w gB 175 (rowC T m)
 own:∀p,p < m->w.ownsRow B 4 1 (T p) (R p).length ((R p).map Value.bool)
 apart:∀p q,p < m->q < m->p≠q->∀b,(T p).ownBlock=some b->(T q).ownBlock≠some b
theorem Bits.same {e w':World} {f i m:Nat} {g:Nat->Value} {R:Nat->List Bool} (c:Bits e f i m g R) (o:∀a b,Bk e a 175 b->Bk w' a 175 b) (p:∀a b,Bk e a 4 b->Bk w' a 4 b):Bits w' f i m g R:=
 ⟨o _ _ c.blk,fun q k=>aA (c.own q k) fun a b _ j=>p a b j,c.apart⟩
theorem Bits.below {b w':World} {B e m:Nat} {c:Nat->Value} {R:Nat->List Bool} (j:Bits b B e m c R) (f:Below b.heap.size b w'):Bits w' B e m c R:=j.same (fun g i a=>a.below f a.lt) (fun g i a=>a.below f a.lt)
theorem Bits.start (b:World) (c a m:Nat) (e:Bk b a 175 (rowC (fun _=>.slice none 0 0) m)):Bits b c a m (fun _=>.slice none 0 0) (fun _=> []):=
 ⟨e,fun g j=>World.ownsRow_nil _ _ _ _,fun g k _ _ _ i f=>by simp [Value.ownBlock] at f⟩
theorem Bits.push {w w1:World} {x r m a:Nat} {j:Nat->Value} {R:Nat->List Bool} {v:Value} {b:Bool} (k:Bits w x r m j R) (u:a < m) (J:Keep (fun b=>(j a).ownBlock=some b) w w1)
 (M:w1.ownsRow x 4 1 v ((R a).length+1) ((R a).map Value.bool++ [.bool b])) (A:v.ownBlock=(j a).ownBlock∨∃f,v.ownBlock=some f/\w.heap.size<=f):
 Bits (w1.setCell ⟨r,a,none⟩ v) x r m (fun t=>if t=a then v else j t) (fun t=>if t=a then R a++ [b] else R t):=by
 have L:(j a).ownBlock≠some r:=by intro e;exact bE (k.own a u) k.blk dC e.symm
 have E:=J.bk k.blk L;have G:∀f q,Bk w1 f 4 q->Bk (w1.setCell ⟨r,a,none⟩ v) f 4 q:=fun f q o=>o.far (Bk.ne o E dC) _;refine ⟨?_,fun c i=>?_,fun c C i F B y s=>?_⟩;rw [<-aHP j m a u v];exact E.set a v;by_cases e:c=a;subst e;rw [zBx rfl,zBx rfl,zAi,zAz];exact aA M fun f q _ o=>G f q o;rw [zBw e,zBw e];refine aA (k.own c i) fun f q o K=>G f q (J.bk K ?_);exact fun g=>k.apart c a i u e f o g;have O:∀c,c < m->∀g,(j c).ownBlock=some g->g < w.heap.size:=fun c i g p=>((k.own c i).lt g p).2;have H:∀c,c < m->c≠a->∀g,v.ownBlock=some g->(j c).ownBlock≠some g:=(by intro c i N g p I;rcases A with A |⟨f,o,P⟩;rw [A] at p;exact k.apart a c u i (fun e=>N e.symm) g p I;rw [o] at p;cases p;have:=O c i _ I;omega);by_cases z:c=a;subst z;rw [zBx rfl] at s;rw [zBw (fun e=>B e.symm)];exact H C F (fun e=>B e.symm) y s;rw [zBw z] at s;by_cases D:C=a;subst D;rw [zBx rfl];intro p;exact H c i z y p s;rw [zBw D];exact k.apart c C i F B y s
theorem aGU (e:List Nat) (c a b:Nat):aK (e++ [c]) a b=if b=bC c a then aK e a b++ [fY c a] else aK e a b:=by
 unfold aK;rw [List.filter_append,zAz];by_cases f:b=bC c a
 · rw [zBx f];simp [f]
 · rw [zBw f];have:(bC c a==b)=false:=(by simp;omega);simp [this]
theorem Bits.congr {i:World} {c f m:Nat} {e:Nat->Value} {R R':Nat->List Bool} (b:Bits i c f m e R) (j:∀a,a < m->R a=R' a):Bits i c f m e R':=
 ⟨b.blk,fun a g=>by rw [<-j a g];exact b.own a g,b.apart⟩
theorem eT {f:World} {g:Nat} {a:TypeId} {r n b:Nat} {e:Value} {s:List Value} (p:f.ownsRow g a r e n s) (c:e.ownBlock=some b):∃i,Bk f b a i:=by
 rcases p.2 with ⟨rfl,_⟩|⟨o,t,j,rfl,_,q,_⟩
 · simp [Value.ownBlock] at c
 have k:o=b:=(by simpa [Value.ownBlock] using c);subst k;exact ⟨j,q⟩
theorem TreeAt.keepT {c w':World} {e:Nat->Prop} {i:Nat} {f:List Bool} (p:TreeAt c i f) (u:Keep e c w') (s:∀a,e a->∃b g,Bk c a b g/\(b=154∨b=157)):TreeAt w' i f:=by
 refine p.same fun a b g k j=>u.bk j fun q=>?_;obtain ⟨w,v,r,t⟩:=s a q;have o:=(aM j r).1;subst o;rcases t with rfl | rfl;exact absurd k dC;exact absurd k dC
theorem ShelfRow.keepW {g w':World} {b i:Nat} {c:Array Value} {u:Value} {j:List Nat} {s m:Nat} (w:ShelfRow g i u j s m) (r:Keep (fun a=>a=b) g w') (q:Bk g b 154 c):ShelfRow w' i u j s m:=by
 obtain ⟨v,x,k⟩:=w;refine ⟨v,aA x fun a c _ o=>r.bk o fun e=>?_,fun t p=>⟨(k t p).1,(k t p).2.keepT r fun a e=>by
  have f:a=b:=e;subst f;exact ⟨_,c,q,.inl rfl⟩⟩⟩
 have f:a=b:=e;subst f;exact absurd (aM o q).1 dC
theorem ShelfRow.mono {j:World} {B B':Nat} {i:Value} {a:List Nat} {f m:Nat} (o:ShelfRow j B i a f m) (c:B'<=B):ShelfRow j B' i a f m:=by
 obtain ⟨k,p,b⟩:=o;exact ⟨k,bZ p c,fun g e=>⟨zAk c (b g e).1,(b g e).2⟩⟩
theorem WaveAt.mono {e:World} {B B' b:Nat} {a:List Nat} (g:WaveAt e B b a) (c:B'<=B):WaveAt e B' b a:=by
 obtain ⟨i,f,q,j,k⟩:=g;exact ⟨zAk c i,f,q,j,fun p o=>(k p o).mono c⟩
def WalkAt (a:World) (f gk:Nat) (b:List Nat):Prop:=
 ∃e c,Bk a gk 100 #[.pointer (some ⟨e,0,none⟩),.pointer (some ⟨c,0,none⟩)]/\WaveAt a f e b/\Bk a c 199 (tcells b)
theorem WalkAt.vis {e w':World} {b gk:Nat} {c:List Nat} (i:WalkAt e b gk c) (a:Vis e w'):WalkAt w' b gk c:=by
 obtain ⟨g,f,j,k,o⟩:=i;exact ⟨g,f,a.bk j dC dC,k.vis a,a.bk o dC dC⟩
theorem WalkAt.mono {b:World} {B B' gk:Nat} {a:List Nat} (f:WalkAt b B gk a) (k:B'<=B):WalkAt b B' gk a:=by
 obtain ⟨e,c,g,i,j⟩:=f;exact ⟨e,c,g,i.mono k,j⟩
theorem uC (f c:Nat) (a:List Nat) (b:World) (j:WaveAt b f c a):
 Calls prog 159 #[c] b fun i w'=>i=.returned (.int .i64 (a.length:Int))/\b=w':=by
 obtain ⟨_,g,k,e,_⟩:=j;have o:b.cell? ⟨c,9,none⟩=some (.int .i64 (a.length:Int)):=by rw [e.cell];have:=bI g (a.length:Int) k;simp [this]
 clear e;go_enter func159,ntmps159;go_wp2;go_ret;exact ⟨rfl,rfl⟩
theorem kQ (c gk:Nat) (a:List Nat) (b:World) (i:WalkAt b c gk a):
 Calls prog 96 #[gk] b fun e w'=>e=.returned (.int .i64 (a.length:Int))/\b=w':=by
 obtain ⟨g,p,f,j,k⟩:=i;have o:=f.cell 0;clear f k;go_enter func96,ntmps96;go_wp2_with fail;refine (uC c g a _ j).mono ?_;rintro e w' ⟨rfl,rfl⟩;go_wp2_with fail;go_ret;exact ⟨rfl,rfl⟩
theorem iK (o gk:Nat) (a:List Nat) (b:Nat) (c:World) (r:WalkAt c o gk a) (v:b < 257) (u:a.length<=1000):
 Calls prog 153 #[gk,(b:Int)] c fun f w'=>f=.returned (.int .i64 ((a.countP (fun e=>decide (e < b)):Nat):Int))/\Below c.heap.size c w':=by
 obtain ⟨x,q,g,s,i⟩:=r;have w:=g.cell 1;clear g s;have p:=lhd i;clear i;go_enter func153,ntmps153;go_wp2_with fail;refine (jZ q a b _ p.out v u).mono ?_;rintro f w' ⟨rfl,t⟩;obtain ⟨k,j⟩:∃k,a.countP (fun e=>decide (e < b))=k:=⟨_,rfl⟩;rw [j];go_wp2_with fail;go_ret;exact ⟨by rw [j];rfl,t⟩
def cH (a:List Nat) (b c:Nat):Nat:=a.countP (fun e=>decide (e < b))+(a.take c).count b
end
end Go.Proofs.YthldmddkfbijhaaGreatDoor
