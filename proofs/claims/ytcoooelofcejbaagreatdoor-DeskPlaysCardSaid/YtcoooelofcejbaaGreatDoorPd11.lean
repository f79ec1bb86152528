/- Lemmas of the walk. Conditions: each its own. -/
import Derived.Test.YtcoooelofcejbaaGreatDoorPd8
import Derived.Test.YtcoooelofcejbaaGreatDoorPd9
import Derived.Test.YtcoooelofcejbaaGreatDoorPd10
import Derived.Test.YtcoooelofcejbaaGreatDoorShl
import Derived.Test.YtcoooelofcejbaaGreatDoorProg
set_option linter.all false
set_option maxRecDepth 100000
set_option maxHeartbeats 4000000
open Go.Proofs.Tryz
namespace Go.Proofs.YtcoooelofcejbaaGreatDoor
section
open Go.RowKit Go
open Go.Sort (SortedIn PermIn SWO Holds)
def mS (n:Nat) (i:n<=1000000) (w:World):(Instr.makeSlice 48 (.int .i64 (n:Int)) (.int .i64 (n:Int))).run prog w=.ok (.slice (some w.heap.size) n n) (w.alloc (.cells (Array.replicate n (.int .i64 0)) 3)):=by
 obtain ⟨g,b,c,e,f⟩:=info_parts iD;have:=run_make (P:=prog) w 48 3 g (.int .i64 0) underlying48 b c .i64 .i64 n n oM (Int.le_refl _) (by rw [f];omega) oM;rw [this,e];have a:madeCells #[.int .i64 0] n=Array.replicate n (.int .i64 0):=by apply Array.ext';rw [toList_madeCells_one];simp
 simp only [Value.cells,zBr,zBl];rw [a]
def iG (n b:Nat):Array Value:=((List.range n).map fun a=>Value.int .i64 (((if a < b then a else 0:Nat)):Int)).toArray
def wP (n a:Nat):(iG n a).size=n:=by simp [iG]
def aEa (n:Nat):iG n 0=Array.replicate n (.int .i64 0):=by
 apply Array.ext
 · simp [iG]
 · intro c a b;simp [iG]
def aEb {n a:Nat} (g:a < n):(iG n a).setIfInBounds a (.int .i64 (a:Int))=iG n (a+1):=by
 apply Array.ext
 · simp [iG]
 · intro e i f;rw [Array.getElem_setIfInBounds (by simpa [iG] using f)];by_cases b:a=e
   · subst b;simp [iG]
   · rw [zBw b];simp only [iG,List.getElem_toArray,List.getElem_map,List.getElem_range];by_cases c:e < a
     · rw [zBx c,zBx oM]
     · rw [zBw c,zBw oM]
def aGi (m:Nat):iG (m+1) (m+1)=(vP m).map (eM m):=by
 apply Array.ext
 · simp [iG,vP]
 · intro c a e;have b:c < m+1:=(by simpa [iG] using a);simp [iG,vP,eM,b]
def aE2 {w:World} {b:Nat} {c:TypeId} {a:Array Value} {n B:Nat} (i:Bk w b c a) (j:B<=b) (g:a.size=n) (e:n<=maxLen):Made w B c 1 (some ⟨b,0,none⟩) n n a.toList:=by
 have f:w.ownsRow B c 1 (.slice (some b) n n) n a.toList:=⟨by simp [g],.inr ⟨b,n,a,rfl,j,i,zAs _,e,by omega,by rw [zAg (by simp [g])]⟩⟩;exact ⟨f,Rd.of_own f,zAs _,e⟩
def aJc {m:Nat} (d:Array (Fin (m+1))):(d.map (eM m)).toList=(d.toList.map (·.val)).map sv:=by
 simp [eM,sv]
def zV {f:Array Value} {c e:Nat->Nat} {b g:Nat} (j:∀a,a < b->f[c a]?=some (.int .i64 ((e a:Nat):Int))) (o:c b < f.size) (k:∀a,a < b->c a≠c b) (p:e b=g) (a:Nat) (r:a < b+1):(f.setIfInBounds (c b) (.int .i64 (g:Int)))[c a]?=some (.int .i64 ((e a:Nat):Int)):=by
 by_cases i:a=b
 · subst i;rw [zCd,zBx rfl,zBx o,p]
 rw [zCd,zBw (fun q=>k a oM q.symm)];exact j a oM
structure RInv (B0:Nat) (w0:World) (m n:Nat) (l:List Nat) (gn gr gx:Nat) (wr:World) (gw g6 g7 c6 c7 wd:Nat) (d:Array (Fin (m+1))) (R:List Nat):Prop where
 wide:Bk wr gw 3 #[(wd:Int)]
 len:Bk wr gn 3 #[(n:Int)]
 box:Bk wr gr 48 #[.slice (some g6) n c6]
 rank:∃cs:Array Value,Bk wr g6 3 cs/\n<=cs.size/\∀(j:Nat) u,(R.map sv)[j]?=some u->cs[j]?=some u
 next:∃cs:Array Value,Bk wr g7 3 cs/\n<=cs.size
 rows:Bk wr gx 3 (d.map (eM m))
 ok:RowsOk m d
 ap:gx≠gw/\gx≠gn/\gx≠g6/\gx≠g7/\g7≠gw/\g7≠gn/\g7≠g6/\g6≠gw/\g6≠gn
 lo:B0<=gx/\B0<=g6/\B0<=g7/\B0<=gr
 cap:n<=c6/\n<=c7
 rlen:R.length=n
 rle:∀r∈R,r<=1000
 rk:RankOk (aN l) (aN R) wd
 wd1:1<=wd
 wdn:wd<=n
 below:Below B0 w0 wr
structure SetT (B:Nat) (T:TypeId) (w w':World):Prop where
 below:Below B w w'
 other:∀b t cs,t≠T->Bk w b t cs->Bk w' b t cs
 one:∀b c,Bk w b T #[c]->∃c',Bk w' b T #[c']
def SetT.set {B:Nat} {f:TypeId} {w:World} {a:Nat} {i:Value} (k:Bk w a f #[i]) (o:B<=a) (e:Value):SetT B f w (w.setCell a e):=by
 refine ⟨bR.setCell o _,fun g s r q b=>?_,fun g j b=>?_⟩;exact b.far (fun c=>q (by subst c;exact (aL b k).1)) _;by_cases c:g=a;subst c;exact ⟨e,b.set 0 e⟩;exact ⟨j,b.far (p:=a) c _⟩
section
variable {B0 : Nat} {w0 : World} {m n : Nat} {l : List Nat} {gn gr gx : Nat} {wr w' : World} {gw g6 g7 c6 c7 wd : Nat} {d d' : Array (Fin (m + 1))} {R : List Nat}
def aCf {w:World} {e n:Nat} {R:List Nat} (j:R.length=n) (g:∃a:Array Value,Bk w e 3 a/\n<=a.size/\∀(b:Nat) c,(R.map sv)[b]?=some c->a[b]?=some c):Rd w w.heap.size 1 (some ⟨e,0,none⟩) n (R.map sv):=by
 obtain ⟨a,f,o,i⟩:=g;refine ⟨by simp [j],fun _=>⟨e,0,rfl,f.lt,fun b c k=>?_⟩⟩;rw [zBi,f.cell];exact i b c k
def RInv.ordk (a:RInv B0 w0 m n l gn gr gx wr gw g6 g7 c6 c7 wd d R) (b:Keep (fun g=>g=gx) wr w'):OrdAt w' gw gn gr wd n (some ⟨g6,0,none⟩) c6 R:=by
 obtain ⟨c,e,f,p,q,r,s,t,u⟩:=a.ap;obtain ⟨i,j,k,o⟩:=a.rank;exact ⟨((b.bk a.wide c.symm).cell 0).trans rfl,((b.bk a.len e.symm).cell 0).trans rfl,((b.bk a.box (Bk.ne a.box a.rows dC)).cell 0).trans rfl,aCf a.rlen ⟨i,b.bk j f.symm,k,o⟩⟩
def RInv.keepx (a:RInv B0 w0 m n l gn gr gx wr gw g6 g7 c6 c7 wd d R) (b:Keep (fun c=>c=gx) wr w') (u:Bk w' gx 3 (d'.map (eM m))) (t:RowsOk m d'):RInv B0 w0 m n l gn gr gx w' gw g6 g7 c6 c7 wd d' R:=by
 obtain ⟨e,f,g,i,v,x,y,z,A⟩:=a.ap;obtain ⟨j,o,p,q⟩:=a.rank;obtain ⟨k,r,s⟩:=a.next
 exact ⟨b.bk a.wide e.symm,b.bk a.len f.symm,b.bk a.box (Bk.ne a.box a.rows dC),⟨j,b.bk o g.symm,p,q⟩,⟨k,b.bk r i.symm,s⟩,u,t,a.ap,a.lo,a.cap,a.rlen,a.rle,a.rk,a.wd1,a.wdn,
  a.below.trans (b.to_below (by have:=a.lo.1;have:=a.rows.lt;omega) (fun c E D=>by have:=a.lo.1;omega))⟩
def RInv.keep7 (a:RInv B0 w0 m n l gn gr gx wr gw g6 g7 c6 c7 wd d R) (b:Keep (fun e=>e=g7) wr w') (r:∃c:Array Value,Bk w' g7 3 c/\n<=c.size):RInv B0 w0 m n l gn gr gx w' gw g6 g7 c6 c7 wd d R:=by
 obtain ⟨s,t,u,f,g,i,j,v,x⟩:=a.ap;obtain ⟨c,k,o,p⟩:=a.rank;obtain ⟨y,q,A⟩:=a.next
 exact ⟨b.bk a.wide g.symm,b.bk a.len i.symm,b.bk a.box (Bk.ne a.box q dC),⟨c,b.bk k j.symm,o,p⟩,r,b.bk a.rows f,a.ok,a.ap,a.lo,a.cap,a.rlen,a.rle,a.rk,a.wd1,a.wdn,
  a.below.trans (b.to_below (by have:=a.lo.1;have:=a.rows.lt;omega) (fun e D z=>by have:=a.lo.2.2.1;omega))⟩
def RInv.grow (a:RInv B0 w0 m n l gn gr gx wr gw g6 g7 c6 c7 wd d R) (c:Below wr.heap.size wr w'):RInv B0 w0 m n l gn gr gx w' gw g6 g7 c6 c7 wd d R:=
 a.keep7 (Keep.of_below c) (by
  obtain ⟨e,b,f⟩:=a.next;exact ⟨e,b.below c b.lt,f⟩)
end
def nK {A:Option Addr} {m:Nat} (o:Nat) {B:Nat} {t:List UInt8} {w:World} (a7:Rd w B 1 A m (t.map bv)) (ea:B<=w.heap.size) (fh:m<=127):
 Calls prog 33 #[.slice A m o] w fun r w'=>∃dG ax ac,IsSuf (aF t) dG/\r=.returned (.slice ax (m+1) ac)/\Made w' w.heap.size 3 1 ax (m+1) ac (dG.map sv)/\Below w.heap.size w w':=by
 have ds:t.length=m:=by simpa using a7.1
 obtain ⟨dN,cD⟩:=hqq2 a7 ds;clear a7 ds;go_enter func33,ntmps33;go_wp2_with fail;obtain ⟨n,bY⟩:=eqx (m+1);have c4:=xM (gs:=w.heap.size) (A:=A) (m:=m) (c:=o) (B:=w.heap.size) (t:=t) (w:=(w.alloc (.cells #[.slice A m o] 34))) 0 (Bk.new _ _ _) ((dN.out.mono ea).alloc nL _) (by simp) oM;rw [bY] at c4;have fj:n<=128:=oM;have ej:1<=n:=oM;have y:=lhd bY;clear bY;refine c4.mono ?_;clear c4;rintro r w1 ⟨bm,bF,rfl,dj,d3⟩;have d4:=((Below.refl w.heap.size w).alloc nL _).trans (d3.mono (by simp));obtain ⟨cx,aL⟩:=hqq2 dj d4;clear dj d3 d4;go_wp2_with fail;obtain ⟨gn,b5⟩:=eqx w1.heap.size;have aE:Bk (w1.alloc (.cells #[(n:Int)] 3)) gn 3 #[(n:Int)]:=b5 ▸ Bk.new _ _ _;have ba:=cx.out.below (bR.alloc nL (.cells #[(n:Int)] 3));have bL:=aL.out.alloc aL.out.size (.cells #[(n:Int)] 3);have bK:=ba.rd;have fa:w.heap.size<=gn:=b5 ▸ aL.out.size;rw [b5];generalize w1.alloc (.cells #[(n:Int)] 3)=W0 at aE ba bL bK⊢;clear cx aL b5;have d8:=aE.cell 0;have dw:=aE.lt;have bu:Hid (W0.cell? gn=some (.int .i64 (n:Int))):=lhd d8;obtain ⟨bw,cn,dJ,aJ,bq⟩:=hqq5 dw bK ba bL aE;clear d8 dw bK ba bL aE;refine wp_region_any kR ?_;refine vD (fs:=[6,19,21,23]) (C:=(Below W0.heap.size W0)) [18,19,20,21,22,23,6,5,7] 8 (SetT W0.heap.size 48) [k0 (is (n:Int)),k0 (fun g u=>∃b,g=.slice (some ⟨b,0,none⟩) n n/\W0.heap.size<=b/\Bk u b 3 (Array.replicate n (.int .i64 0))),k0 (is (.slice bm n bF)),k0 (fun g u=>∃A o,g=.slice A n o/\Made u W0.heap.size 3 1 A n o ((aF t).map sv)),k0 (is (n:Int)),k0 (fun g u=>∃b,g=.slice (some ⟨b,0,none⟩) n n/\W0.heap.size<=b/\Bk u b 3 (Array.replicate n (.int .i64 0))),k0 (fun g u=>∃b o,g=.pointer (some ⟨b,0,none⟩)/\W0.heap.size<=b/\Bk u b 48 #[o]),kEq 19,kLk 6 21 (fun a8 g u=>∃b,a8=.pointer (some ⟨b,0,none⟩)/\W0.heap.size<=b/\Bk u b 48 #[g]),kEq 23] rfl kR kR (bR.drew) (wW rfl) (fun w w' K a=>a.elim (fun a=>K.trans (a.mono K.size)) (fun a=>K.trans a.below)) (by repeat' (first | exact aEf _ | exact aFd _ | exact aJE _ _ _ |(refine zAe.2 ⟨?_,?_⟩)|(intro J U;cases U))) (by repeat' (first | exact uP _ _ | exact aBW _ | exact qG _ _ | exact iN (fun _ _ _ ⟨b,D,s,E⟩ a=>⟨b,D,s,E.below a E.lt⟩)| exact iN (fun _ _ _ ⟨A,o,D,s⟩ a=>⟨A,o,D,s.below a⟩)| exact iN (fun _ _ _ ⟨b,o,D,s,E⟩ a=>⟨b,o,D,s,E.below a E.lt⟩)| exact iN (fun _ _ _ _ ⟨b,D,s,E⟩ a=>⟨b,D,s,E.below a E.lt⟩)| exact qF (fun _ _ _ ⟨b,D,s,E⟩ a=>⟨b,D,s,E.below a E.lt⟩)| exact qF (fun _ _ _ ⟨A,o,D,s⟩ a=>⟨A,o,D,s.below a⟩)| exact qF (fun _ _ _ ⟨b,o,D,s,E⟩ a=>⟨b,o,D,s,E.below a E.lt⟩)| exact qF (fun _ _ _ _ ⟨b,D,s,E⟩ a=>⟨b,D,s,E.below a E.lt⟩)|(refine zAe.2 ⟨?_,?_⟩)|(intro J U;cases U))) (by simp only [List.eraseIdx_cons_zero,List.eraseIdx_cons_succ,List.eraseIdx_nil];repeat' (first | exact uP _ _ | exact aBW _ | exact qG _ _ | exact iN (fun _ _ _ ⟨b,D,s,E⟩ a=>⟨b,D,s,a.other _ _ _ dC E⟩)| exact iN (fun _ _ _ ⟨A,o,D,s⟩ a=>⟨A,o,D,oD s fun V G a0=>a.other _ _ _ dC a0⟩)| exact iN (fun _ _ _ ⟨b,o,D,s,E⟩ a=>let ⟨ac,cX⟩:=a.one _ _ E;⟨b,ac,D,s,cX⟩)|(refine zAe.2 ⟨?_,?_⟩)|(intro J U;cases U))) ?_ ?_
 · refine aV ?_;refine aB (cH rfl rfl fun z _ L _ _ _ F _ _ _ _ M=>?_) ?_
   · obtain ⟨H,T⟩:=L;have e5:z (.tmp 4)=.pointer (some gn):=F 4 kR;clear F;have ed:=(H.cell (p:=gn) bw.out).trans bu.out;go_simp;exact M _ _ (dB bR rfl rfl) rfl
   refine aB (cH rfl rfl fun _ _ L _ _ _ F I _ _ _ M=>?_) ?_
   · obtain ⟨H,T⟩:=L;have eL:_=_:=I 0 18 kR rfl;clear F;have es:=mS n oM;go_simp;exact M _ _ (iS (bR.alloc nL _) rfl (fun b Q=>by simp [blk?] at Q;subst Q;simp)) ⟨_,rfl,H.size,Bk.new _ _ _⟩
   refine aB (cH rfl rfl fun z _ L _ _ _ F _ _ _ _ M=>?_) ?_
   · obtain ⟨H,T⟩:=L;have eP:z (.tmp 3)=.slice bm n bF:=F 3 kR;clear F;go_simp;exact M _ _ (dB bR rfl rfl) rfl
   refine aB (cH rfl rfl fun _ _ L _ _ _ F I cI _ _ M=>?_) ?_
   · obtain ⟨H,T⟩:=L;have eN:_=_:=I 2 20 kR rfl;clear F;go_simp;refine (zF (A:=bm) (n:=n) (B:=W0.heap.size) (l:=(aF t)) bF (cn.out.below H) H.size oM).mono ?_;rintro r fF ⟨ax,ac,rfl,bX,eb⟩;refine M _ _ (iS eb rfl (fun b Q=>?_)) ⟨ax,ac,rfl,bX.mono H.size⟩;obtain ⟨_,_,_,_,fu⟩:=aQ bX.own;rcases ax with _ | cI
     · simp [blk?] at Q
     obtain ⟨ez,dZ,a6,_,b4⟩:=aQ bX.own;injection a6 with a6;have:=b4 cI a6.symm;simp [blk?] at Q;subst Q;exact this
   refine aB (cH rfl rfl fun z _ L _ _ _ F _ _ _ _ M=>?_) ?_
   · obtain ⟨H,T⟩:=L;have e5:z (.tmp 4)=.pointer (some gn):=F 4 kR;clear F;have ed:=(H.cell (p:=gn) bw.out).trans bu.out;go_simp;exact M _ _ (dB bR rfl rfl) rfl
   refine aB (cH rfl rfl fun _ _ L _ _ _ F I _ _ _ M=>?_) ?_
   · obtain ⟨H,T⟩:=L;have eO:_=_:=I 4 22 kR rfl;clear F;have es:=mS n oM;go_simp;exact M _ _ (iS (bR.alloc nL _) rfl (fun b Q=>by simp [blk?] at Q;subst Q;simp)) ⟨_,rfl,H.size,Bk.new _ _ _⟩
   refine aB (cH rfl rfl fun _ _ L _ _ _ F _ _ _ _ M=>?_) ?_
   · obtain ⟨H,T⟩:=L;clear F;go_simp;exact M _ _ (iS (bR.alloc nL _) rfl (fun b Q=>by simp [blk?] at Q;subst Q;simp)) ⟨_,_,rfl,H.size,Bk.new _ _ _⟩
   refine aB (cH rfl rfl fun z aw L _ _ _ F I _ _ _ M=>?_) ?_
   · obtain ⟨H,T⟩:=L;have cc:(fun g u=>∃b,g=.slice (some ⟨b,0,none⟩) n n/\W0.heap.size<=b/\Bk u b 3 (Array.replicate n (.int .i64 0))) (z (.tmp 19)) aw:=I 1 19 kR rfl;clear F;clear cc;go_simp;exact M _ _ (dB bR rfl rfl) (by first | exact e19.symm | rfl)
   refine aB (cH rfl rfl fun z aw L _ _ _ F I _ _ _ M=>?_) ?_
   · obtain ⟨H,T⟩:=L;have cf:(fun g u=>∃b o,g=.pointer (some ⟨b,0,none⟩)/\W0.heap.size<=b/\Bk u b 48 #[o]) (z (.tmp 6)) aw:=I 6 6 kR rfl;have cd:(fun g u=>∃A o,g=.slice A n o/\Made u W0.heap.size 3 1 A n o ((aF t).map sv)) (z (.tmp 21)) aw:=I 3 21 kR rfl;clear F;obtain ⟨b,o,e6,Q,a0⟩:=cf;obtain ⟨ey,eF,e4,fi⟩:=cd;have c6:=a0.cell 0;have eQ:=a0.frozen 0;have eZ:=a0.lt;go_simp;exact M (.bool true) _ (aH5 (SetT.set a0 Q _) (by simp [World.setCell]) rfl) ⟨b,e6,Q,by rw [e4];exact a0.set 0 _⟩
   refine aB (cH rfl rfl fun z aw L _ _ _ F I _ _ _ M=>?_) ?_
   · obtain ⟨H,T⟩:=L;have ce:(fun g u=>∃b,g=.slice (some ⟨b,0,none⟩) n n/\W0.heap.size<=b/\Bk u b 3 (Array.replicate n (.int .i64 0))) (z (.tmp 23)) aw:=I 5 23 kR rfl;clear F;clear ce;go_simp;exact M _ _ (dB bR rfl rfl) (by first | exact e23.symm | rfl)
   exact aH
 · intro z a9 H T I d2;have cU:z (.tmp 5)=z (.tmp 19):=I 7 5 rfl;have cf:(fun g u=>∃b o,g=.pointer (some ⟨b,0,none⟩)/\W0.heap.size<=b/\Bk u b 48 #[o]) (z (.tmp 6)) a9:=I 6 6 rfl;have cV:z (.tmp 7)=z (.tmp 23):=I 9 7 rfl;have cc:(fun g u=>∃b,g=.slice (some ⟨b,0,none⟩) n n/\W0.heap.size<=b/\Bk u b 3 (Array.replicate n (.int .i64 0))) (z (.tmp 19)) a9:=I 1 19 rfl;have cd:(fun g u=>∃A o,g=.slice A n o/\Made u W0.heap.size 3 1 A n o ((aF t).map sv)) (z (.tmp 21)) a9:=I 3 21 rfl;have ce:(fun g u=>∃b,g=.slice (some ⟨b,0,none⟩) n n/\W0.heap.size<=b/\Bk u b 3 (Array.replicate n (.int .i64 0))) (z (.tmp 23)) a9:=I 5 23 rfl;obtain ⟨fE,dE⟩:=d2 8 dC;have eu:(fun a8 g u=>∃b,a8=.pointer (some ⟨b,0,none⟩)/\W0.heap.size<=b/\Bk u b 48 #[g]) (z (.tmp 6)) (z (.tmp 21)) a9:=dE;clear dE;simp only [zqq];clear I d2;obtain ⟨gx,be,dv,c9⟩:=cc;obtain ⟨g7,b3,eW,d0⟩:=ce;obtain ⟨dI,c6,b2,bJ⟩:=cd;obtain ⟨gr,dn,fo,c3⟩:=eu;rw [b2] at c3;obtain ⟨g6,rfl,eV,cY⟩:∃g6,dI=some ⟨g6,0,none⟩/\W0.heap.size<=g6/\∃G:Array Value,Bk a9 g6 3 G/\n<=G.size/\∀(e:Nat) a8,((aF t).map sv)[e]?=some a8->G[e]?=some a8:=by
    rcases bJ.own.2 with ⟨K,_⟩|⟨b,eG,e1,K,s,E,cX,eT,eU,e9⟩;injection K with b4 a6;omega
    · injection K with b4 a6 h10;refine ⟨b,b4,s,e1,E,by omega,fun e a8 bc=>?_⟩;rw [<-e9,zBs,Array.getElem?_toList] at bc;split at bc;exact bc
      · cases bc
   have d9:gx≠g7:=fun r=>T.2 19 (by simp) 23 (by simp) dC gx (by rw [be];rfl) (by rw [b3,r];rfl);have da:gx≠g6:=fun r=>T.2 19 (by simp) 21 (by simp) dC gx (by rw [be];rfl) (by rw [b2,r];rfl);have db:g7≠g6:=fun r=>T.2 23 (by simp) 21 (by simp) dC g7 (by rw [b3];rfl) (by rw [b2,r];rfl);have ee:=bq.out.lt;have d5:=bq.out.below H ee;have de:=aJ.out.trans (H.mono aJ.out.size);have fb:=aJ.out.size;rw [<-aEa] at c9;have ak:n<=c6:=bJ.cap;rw [cU,cV,be,b3,dn];obtain ⟨aU,bo,ci,aS,br,a3⟩:=hqq6 c9 d0 cY c3 d5 de;have cr:gx≠g7/\gx≠g6/\g7≠g6:=⟨d9,da,db⟩;have cm:=lhd cr;clear cU cV be b3 dn c9 d0 cY c3 d5 de cr d9 da db H T cf b2 bJ cn dJ aJ bq bu bw;go_wp2_with fail;go_loopw [26,8] (fun q _ wr=>∃a:Nat,a<=n/\q=.int .i64 a/\Bk wr gx 3 (iG n a)/\Keep (fun V=>V=gx) a9 wr) (fun q _ _=>n -(intOf q).toNat)
   case atStart=>exact ⟨0,by omega,rfl,aU.out,Keep.refl _ _⟩
   case round=>
    obtain ⟨a,eg,rfl,ai,a2⟩:=hrel;by_cases b9:a < n
    · have cJ:=ai.cell a;have e7:=ai.frozen a;rw [zAq (by rw [wP];exact b9)] at cJ;obtain ⟨aM,a5⟩:=hqq2 ai a2;clear ai a2;generalize (iG n a)[a]'(by rw [wP];exact b9)=u0 at cJ;go_wp2_with fail;go_roundw
      case rel=>exact ⟨a+1,by omega,by go_num,by rw [<-aEb b9];exact aM.out.set a _,a5.out.setCell (.inl rfl) _⟩
      case measure=>simp [intOf];omega
    · obtain rfl:n=a:=oM;obtain ⟨aM,a5⟩:=hqq2 ai a2;clear ai a2;go_wp2_with fail;obtain ⟨gw,bU⟩:=eqx wr.heap.size;have d6:Bk (wr.alloc (.cells #[(1:Int)] 3)) gw 3 #[(1:Int)]:=bU ▸ Bk.new _ _ _
      have an:RInv w.heap.size w m n (aF t) gn gr gx (wr.alloc (.cells #[(1:Int)] 3)) gw g6 g7 c6 n 1 (vP m) (aF t):=by
         obtain ⟨cS,cT,e2⟩:=cm.out;obtain ⟨G,dx,eo,ep⟩:=ci.out;have ao:=a5.out;have bf:=ao.size;have fw:=aU.out.lt;have fx:=br.out.lt;have fy:=bo.out.lt;have et:=dx.lt;have fB:=aS.out.lt;refine ⟨d6,(ao.bk br.out (fun r=>by have:=dv;omega)).alloc _,(ao.bk aS.out (fun r=>by subst r;exact Bk.ne aS.out aU.out dC rfl)).alloc _,⟨G,(ao.bk dx (fun r=>cT r.symm)).alloc _,eo,ep⟩,⟨_,(ao.bk bo.out (fun r=>cS r.symm)).alloc _,by simp⟩,?_,aHt m,?_,?_,⟨ak,zAs _⟩,?_,?_,aDJ _,zAs _,ej,?_⟩;have:=aM.out;rw [<-y.out,aGi] at this;exact this.alloc _
         · refine ⟨?_,?_,cT,cS,?_,?_,e2,?_,?_⟩<;> omega
         · refine ⟨?_,?_,?_,?_⟩<;> omega
         · rw [aK,cD.out,y.out]
         intro ch a7;have:=dM t ch a7;omega;refine (a3.out.trans ?_).alloc oM _;exact ao.to_below (by have:=a3.out.size;omega) (fun V a0 r=>by have:=dv;omega)
      rw [bU];generalize wr.alloc (.cells #[(1:Int)] 3)=W8 at an⊢;have az:=lhd an;clear an d6 bU aM a5 cm ci br aS bo aU a3
      go_loopg [7,9] (n) (fun gk bi bj wr=>∃gw g6 g7 c6 c7 wd d R,bi=.slice (some ⟨g7,0,none⟩) n c7/\bj=.pointer (some ⟨gw,0,none⟩)/\n - wd<=gk/\RInv w.heap.size w m n (aF t) gn gr gx wr gw g6 g7 c6 c7 wd d R)
      case atStart=>exact ⟨_,_,_,_,_,_,_,_,rfl,rfl,by omega,az.out⟩
      case round=>
         clear az;obtain ⟨gw,g6,g7,c6,c7,wd,d,R,rfl,rfl,fc,an⟩:=hrel;have az:=lhd an;clear an;go_wp2_with fail;obtain ⟨af,bT⟩:=eqx wr.heap.size;have ah:Bk (wr.alloc (.cells #[.func (.func 64) #[] #[.pointer (some ⟨gw,0,none⟩),gn,gr]] 115)) af 115 #[.func (.func 64) #[] #[.pointer (some ⟨gw,0,none⟩),gn,gr]]:=bT ▸ Bk.new _ _ _;have O:=az.out.grow ((Below.refl wr.heap.size wr).alloc nL (.cells #[.func (.func 64) #[] #[.pointer (some ⟨gw,0,none⟩),gn,gr]] 115));rw [bT];generalize wr.alloc (.cells #[.func (.func 64) #[] #[.pointer (some ⟨gw,0,none⟩),gn,gr]] 115)=W1 at ah O⊢;have bP:d.size=n:=(by rw [O.ok.size,y.out]);have d7:CmpReads prog 65 #[gr,af] (eM m) (cfF m wd R) gx 0 d.size W1:=fun x ar e3 eY bi bj=>by have a:=iR (enc:=eM m) O.rows.lt 0 x e3 ar;exact aAm (gw:=gw) (gn:=gn) (gr:=gr) (w:=wd) (n:=n) (c:=c6) (A:=(some ⟨g6,0,none⟩)) (R:=R) af bi.val bj.val (O.ordk a) (((a.bk ah (Bk.ne ah O.rows dC)).cell 0).trans rfl) (by have:=O.wdn;omega) oM O.rle (by have:=bi.isLt;have:=y.out;omega) (by have:=bj.isLt;have:=y.out;omega)
         have c5:=Any.slices_SortFunc shSort (eM m) (lR m) (cfF m wd R) (aJ7 m O.rk) 65 #[gr,af] gx 0 n d W1 (enters_of func65 kR rfl) d7.lays (aIF O.rows) O.rows.lt oM;rw [bP] at c5;refine c5.mono ?_;clear c5 d7;rintro r aW ⟨rfl,d',nq,ar,c0,c8,rfl⟩;have dm:RowsOk m d':=O.ok.of_perm (by rw [bP];exact c0);have b6:=O.keepx (iR (enc:=eM m) O.rows.lt 0 nq d' ar) (aI5 O.rows c0.1 nq ar) dm;have bM:=(iR (enc:=eM m) O.rows.lt 0 nq d' ar).bk ah (Bk.ne ah O.rows dC);generalize Go.Proofs.sortWorld (eM m) W1 gx 0 nq d' ar=aW at b6 bM⊢;have dq:∀q,q+1 < n->¬ltW (aN (aF t)) (wd+wd) (dT d' (q+1)) (dT d' q):=(by rw [<-y.out] at c8⊢;exact fun q am=>aHi (i:=q) b6.rk dm.size c8 am);obtain ⟨cC,aa,co⟩:=hqq3 dq b6 bM;clear dq O b6 ah bM c0 c8 bP az bT;have aD:=y.out;have di:=aa.out.ok.lt 0;have cR:aW.cell? gx=some (.int .i64 ((dT d' 0:Nat):Int)):=(aa.out.rows.cell 0).trans (aa.out.ok.cell oM);obtain ⟨e0,bh,dz⟩:=aa.out.next;obtain ⟨au,bZ⟩:=eqx (dT d' 0);rw [bZ] at cR di;have bG:=bh.cell au;rw [zAq oM] at bG;have e8:=bh.frozen au;generalize e0[au]' oM=u7 at bG;have ek:au < n:=oM;obtain ⟨cF,cz⟩:=hqq2 bh bZ;clear bh bZ aD di;go_wp2_with fail;clear cR bG e8;go_loopw [12] (fun q dH=>∃a:Nat,1<=a/\a<=n/\q=.int .i64 a/\∃G:Array Value,Bk dH g7 3 G/\n<=G.size/\(∀e,e < a->G[dT d' e]?=some (.int .i64 ((cN (jM (aN R) wd) (dT d') e:Nat):Int)))/\Keep (fun V=>V=g7) aW dH) (fun q _=>n -(intOf q).toNat)
         case atStart=>refine ⟨1,by omega,by omega,rfl,_,cF.out.set au _,by simpa using dz,fun e aI=>?_,(Keep.refl (fun V=>V=g7) aW).setCell (p:=⟨g7,au,none⟩) (.inl rfl) _⟩;obtain rfl:e=0:=oM;rw [cz.out,zCd,zBx rfl,zBx oM];rfl
         case round=>
          clear cF cz ek dz;obtain ⟨a,ff,eg,rfl,G,a1,aG,aj,a2⟩:=hrel;have N:=aa.out.keep7 a2 ⟨G,a1,aG⟩;by_cases b9:a < n
          · obtain ⟨e,aI⟩:∃e,a=e+1:=⟨a - 1,by omega⟩;have aD:=y.out;have a4:wr.cell? ⟨gx,a,none⟩=some (.int .i64 ((dT d' a:Nat):Int)):=(N.rows.cell a).trans (N.ok.cell oM);have ad:wr.cell? ⟨gx,e,none⟩=some (.int .i64 ((dT d' e:Nat):Int)):=(N.rows.cell e).trans (N.ok.cell oM);have aY:=(a1.cell (dT d' e)).trans (aj e oM);have dD:=N.ok.lt a;have dA:=N.ok.lt e;have aC:=a1.cell (dT d' a);rw [zAq oM] at aC;have bI:=a1.frozen (dT d' a);generalize G[dT d' a]' oM=uk at aC;have aX:=(N.len.cell 0).trans rfl;have b0:IntKind.i64.wrap ((a:Int) - 1)=(e:Int):=(by rw [IntKind.wrap_i64];omega);have eh:decide ((a:Int) < (n:Int))=true:=(by simp;omega);obtain ⟨S,c2⟩:=eqx (dT d' a);obtain ⟨av,c1⟩:=eqx (dT d' e);obtain ⟨g,bd⟩:=eqx (cN (jM (aN R) wd) (dT d') e);have dt:=tZ (jM (aN R) wd) (dT d') 0 e;rw [zBi,bd] at dt;have fp:g<=1000:=(by have:cN (jM (aN R) wd) (dT d') 0=0:=rfl;omega);rw [c2] at a4 dD aC bI;rw [c1] at ad dA aY;rw [bd] at aY;have em:S < n:=oM;have el:av < n:=oM;have fe:e < n:=oM;obtain ⟨ay,Y,aO,a5,k,aA,cA,dP,aR⟩:=hqq9 a1 aG aj a2 N c2 c1 bd aI;clear a1 aG aj a2 N c2 c1 bd dt aD dD dA aI;go_wp2_with fail;refine wp_region_still_tail 14 kR kR ?_;simp only [List.take_succ_cons,List.take_zero,List.drop_succ_cons,List.drop_zero];change wpStill _ _ wr.drew (fun dR=>wpList _ _ _ _ dR wr.drew) _ _;have cM:wr.drew.cell? ⟨gx,a,none⟩=_:=a4;have cL:wr.drew.cell? ⟨gx,e,none⟩=_:=ad;have cP:wr.drew.cell? ⟨g7,av,none⟩=_:=aY;have cQ:wr.drew.cell? ⟨g7,S,none⟩=_:=aC;have cW:wr.drew.frozen? ⟨g7,S,none⟩=false:=bI;obtain ⟨bs,bz,bx⟩:=hqq3 ay.out.drew a5.out.drew (k.out.keep7 (Keep.refl _ _).drew ⟨G,ay.out.drew,Y.out⟩);clear a4 ad aY aC bI aX ay a5 k;generalize wr.drew=W5 at cM cL cP cQ cW bs bz bx⊢
            iterate 14 still_step
            refine wpStill_nil ?_;go_wp2_with fail;have ak:=bs.out.set S (.int .i64 (g:Int));have b7:=bz.out.setCell (p:=⟨g7,S,none⟩) (.inl rfl) (.int .i64 (g:Int));have X:=bx.out.keep7 ((Keep.refl (fun V=>V=g7) W5).setCell (p:=⟨g7,S,none⟩) (.inl rfl) (.int .i64 (g:Int))) ⟨_,ak,by simpa using Y.out⟩
            have bN:=b7.bk co.out (fun r=>by
               obtain ⟨eJ,a6,_⟩:=aa.out.next;subst r;exact Bk.ne co.out a6 dC rfl)
            generalize W5.setCell ⟨g7,S,none⟩ (.int .i64 (g:Int))=W6 at ak b7 X bN⊢;clear cM cL cP cQ cW bs bz bx;have a4:W6.cell? ⟨gx,a,none⟩=some (.int .i64 (S:Int)):=(by rw [<-aA.out];exact (X.rows.cell a).trans (X.ok.cell (by have:=y.out;omega)));have ad:W6.cell? ⟨gx,e,none⟩=some (.int .i64 (av:Int)):=(by rw [<-cA.out];exact (X.rows.cell e).trans (X.ok.cell (by have:=y.out;omega)));obtain ⟨bl,bf⟩:=eqx (jM (aN R) wd av S);have cb:∀x:Nat,Calls prog 65 #[(av:Int),(S:Int),gr,af] (W6.drewN x) fun r w'=>r=.returned (.int .i64 bl)/\∃cg,w'=W6.drewN cg:=fun x=>by have K:=aAm (gw:=gw) (gn:=gn) (gr:=gr) (w:=wd) (n:=n) (c:=c6) (A:=(some ⟨g6,0,none⟩)) (R:=R) (W:=(W6.drewN x)) af av S ((X.ordk (Keep.refl _ _)).drewN x) ((bN.drewN x).cell 0) (by have:=X.wdn;omega) oM X.rle el em;rw [bf] at K;exact K.mono fun _ _ ⟨bQ,cg,bb⟩=>⟨bQ,x+cg,by rw [bb,World.drewN_drewN]⟩
            obtain ⟨aP,cv,dL,dQ⟩:=hqq4 ak b7 X bf;have aZ:((a:Int) - 1).toNat=e:=(by have:=aR.out;omega);have ae:(0:Int)<=(a:Int) - 1:=(by have:=aR.out;omega);clear ak b7 X bN bf;go_quiet ((with_reducible exact cb _));have bS:dT d' a < G.size:=(by rw [aA.out];have:=Y.out;omega);have bV:∀bg,bg < a->dT d' bg≠dT d' a:=fun bg fd r=>by have:=dL.out.ok.inj (i:=bg) (j:=a) (by have:=y.out;omega) (by have:=y.out;omega) r;omega
            have al:cN (jM (aN R) wd) (dT d') a=g+(if bl≠0 then 1 else 0):=(by rw [aR.out,<-dP.out];show cN _ _ e+(if jM (aN R) wd (dT d' e) (dT d' (e+1))≠0 then 1 else 0)=_;rw [<-aR.out,aA.out,cA.out,dQ.out]);obtain ⟨ct,cu⟩:=hqq2 bS bV;by_cases ca:bl=0
            · subst ca;rw [zBw (by simp),zBq] at al;have bt:=lhd al;clear al bS bV a4 ad cb aZ ae b0;go_wp2_with fail;go_roundw
              case rel=>refine ⟨a+1,by omega,by omega,by go_num,_,aP.out.drewN _,by simpa using Y.out,?_,cv.out.drewN _⟩;have:=zV aO.out ct.out cu.out bt.out;rw [aA.out] at this;exact this
              case measure=>simp [intOf];omega
            · rw [zBx ca] at al;have bt:=lhd al;have dZ:W6.cell? ⟨g7,S,none⟩=some (.int .i64 (g:Int)):=(by rw [aP.out.cell,zCd,zBx rfl,zBx (by have:=Y.out;omega)]);have eR:=aP.out.frozen S;have fq:IntKind.i64.wrap ((g:Int)+1)=((g+1:Nat):Int):=(by rw [IntKind.wrap_i64];omega);have fv:(bl==0)=false:=(by simpa using ca);clear al bS bV ad cb aZ ae b0;go_wp2_with fail;go_roundw
              case rel=>refine ⟨a+1,by omega,by omega,by go_num,_,(aP.out.drewN nq).set S _,by simpa using Y.out,?_,(cv.out.drewN nq).setCell (p:=⟨g7,S,none⟩) (.inl rfl) _⟩;have:=zV aO.out ct.out cu.out bt.out;rw [aA.out] at this;rw [set_set];exact this
              case measure=>simp [intOf];omega
          · obtain rfl:n=a:=oM;have aD:=y.out;obtain ⟨x,bb⟩:∃x,n=x+1:=⟨n - 1,by omega⟩;obtain ⟨aq,b8⟩:=eqx (cN (jM (aN R) wd) (dT d') x);have dc:=tZ (jM (aN R) wd) (dT d') 0 x;rw [zBi,b8] at dc;have fg:aq<=x:=(by have:cN (jM (aN R) wd) (dT d') 0=0:=rfl;omega);obtain ⟨J,U⟩:=eqx (dT d' x);have fl:J < n:=(by have:=N.ok.lt x;omega);have ag:=N.box;have eH:=(N.len.cell 0).trans rfl;have eB:=ag.cell 0;have e7:=ag.frozen 0;have b1:∀b G,Bk wr b 3 G->Bk (wr.setCell gr (.slice (some ⟨g7,0,none⟩) n c7)) b 3 G:=fun b G K=>K.far (p:=gr) (Bk.ne K ag dC) _;have a4:(wr.setCell gr (.slice (some ⟨g7,0,none⟩) n c7)).cell? ⟨gx,x,none⟩=some (.int .i64 (J:Int)):=(by rw [<-U];exact ((b1 _ _ N.rows).cell x).trans (N.ok.cell oM));have cO:(wr.setCell gr (.slice (some ⟨g7,0,none⟩) n c7)).cell? ⟨g7,J,none⟩=some (.int .i64 (aq:Int)):=(by rw [<-U,<-b8];exact ((b1 _ _ a1).cell _).trans (aj x oM));have aX:=((b1 _ _ N.len).cell 0).trans rfl;have cK:=(ag.set 0 (.slice (some ⟨g7,0,none⟩) n c7)).cell 0;have bH:=((b1 _ _ N.wide).cell 0).trans rfl;have ei:x < n:=oM;have b0:IntKind.i64.wrap ((n:Int) - 1)=(x:Int):=(by rw [IntKind.wrap_i64];omega);obtain ⟨bC,cw,eA,k,ay,Y,aO,dK,cl⟩:=hqq9 bb b8 U N a1 aG aj ag b1;have eh:decide ((n:Int) < (n:Int))=false:=(by simp);clear bb b8 U N a1 aG aj a2 ag b1 aD dc;go_wp2_with fail;have bO:=dK.out.set 0 (.slice (some ⟨g7,0,none⟩) n c7);have bW:=(Keep.refl (fun V=>V=gr) wr).setCell (p:=gr) (.inl rfl) (.slice (some ⟨g7,0,none⟩) n c7);have b1:=cl.out;generalize wr.setCell gr (.slice (some ⟨g7,0,none⟩) n c7)=W9 at a4 cO aX cK bH bO bW b1⊢;have dp:=b1 _ _ k.out.rows;have d1:=b1 _ _ ay.out;have du:=b1 _ _ k.out.wide;have dk:=b1 _ _ k.out.len;obtain ⟨eI,dy,eq,er⟩:=k.out.rank;have cZ:=b1 _ _ dy;have df:=k.out.below.trans (bW.to_below (by have:=k.out.lo.1;have:=k.out.rows.lt;omega) (fun V a0 r=>by have:=k.out.lo.2.2.2;omega));obtain ⟨cq,cB,ck,cE,cy,cj,ab⟩:=hqq7 bO dp d1 du dk cZ df;clear bO bW b1 dp d1 du dk cZ df dy er cl;have aZ:((n:Int) - 1).toNat=x:=(by have:=bC.out;omega);have ae:(0:Int)<=(n:Int) - 1:=(by have:=bC.out;omega);have dl:∀q e,jM (aN R) wd q e=0↔eqW (aN (aF t)) (wd+wd) q e:=aJm k.out.rk;have dg:(aF t).length=n:=(by rw [aK,cD.out,y.out]);obtain ⟨bB,Z⟩:=hqq2 dl dg;clear dl dg;go_quiet (fail);clear aZ ae b0 a4 cO aX cK bH;obtain ⟨cp,aT,bp,bD,bA,bn⟩:=hqq6 (cq.out.drewN nq) (cB.out.drewN nq) (ck.out.drewN nq) (cE.out.drewN nq) (cy.out.drewN nq) (cj.out.drewN nq);have dd:Below w.heap.size w (W9.drewN nq):=⟨ab.out.os,ab.out.tape,ab.out.output,ab.out.size,ab.out.block⟩;have a3:=lhd dd;clear dd cq cB ck cE cy cj ab;generalize W9.drewN nq=W10 at cp aT bp bD bA bn a3⊢;by_cases dh:aq=x
            · subst dh;have dr:=k.out.ok.suf (l:=aF t) (by rw [Z.out,y.out]) (w:=wd+wd) (fun q e ef aI=>aKA (i:=q) (j:=e) bB.out cC.out oM (by have:=bC.out;have:=cw.out;rw [show n - 1=aq by omega];exact this) ef (by have:=y.out;omega));have dO:=lhd dr;clear dr;go_wp2_with fail;go_ret;refine ⟨_,some ⟨gx,0,none⟩,n,dO.out,by rw [y.out];rfl,?_,a3.out⟩;rw [<-aJc];have:=aE2 aT.out k.out.lo.1 (n:=n) (by simp [k.out.ok.size,y.out]) (by unfold maxLen;omega);have ec:∀bE,Made W10 w.heap.size 3 1 (some ⟨gx,0,none⟩) n n bE->Made W10 w.heap.size 3 1 (some ⟨gx,0,none⟩) (m+1) n bE:=fun bE K=>by rw [y.out];exact K
              exact ec _ this
            · have fm:((aq:Int)==(x:Int))=false:=(by simp;omega);have fn:(aq==x)=false:=(by simp;omega);have bH:=bD.out.cell 0;have eK:=bD.out.lt;have ft:wd<=128:=(by have:=k.out.wdn;omega);go_wp2_with fail;have fk:wd+wd < n:=by rcases zBe (wd+wd) n with K | K;exact K;exfalso;apply dh;rw [<-cw.out];refine aJL (n:=n) (fun q am bQ=>?_) x ei;have:=(bB.out _ _).1 bQ;have eX:=y.out;refine aJr (l:=aF t) (by rw [Z.out];exact K) (by rw [Z.out];have:=k.out.ok.lt q;omega) (by rw [Z.out];have:=k.out.ok.lt (q+1);omega) (fun r=>?_) this;have:=k.out.ok.inj oM oM r;omega
              go_roundg (n -(wd+wd))
              case measure=>have:=k.out.wd1;omega
              case rel=>
               obtain ⟨cG,dF,ev,ew,ex⟩:=aHG (cs:=G) (f:=dT d') (v:=cN (jM (aN R) wd) (dT d')) Y.out (fun e _=>by have:=k.out.ok.lt e;have:=y.out;omega) aO.out (fun J U=>by
                obtain ⟨q,D,s⟩:=k.out.ok.sur (p:=J) (by have:=y.out;omega);exact ⟨q,by have:=y.out;omega,s⟩)
               have en:RankOk (aN (aF t)) (aN cG) (wd+wd):=(by refine aFX (by have:=k.out.wd1;omega) bB.out (fun q am=>cC.out q (by rw [<-Z.out];exact am)) (by rw [dF,Z.out]) (fun q am=>ev q (by rw [<-Z.out];exact am)) (fun J U=>?_);obtain ⟨q,D,s⟩:=k.out.ok.sur (p:=J) (by have:=y.out;rw [Z.out] at U;omega);exact ⟨q,by have:=y.out;rw [Z.out];omega,s⟩);obtain ⟨eC,dS,dU,dV,eD,dW,dX,eE,dY⟩:=k.out.ap;have fD:=aT.out.lt;have fC:=k.out.wd1;have fz:=bp.out.lt;have et:=bn.out.lt;have fA:=bA.out.lt;have ae:(wd:Int)*2=((wd+wd:Nat):Int):=oM;rw [ae];refine ⟨_,_,_,_,_,wd+wd,d',cG,rfl,rfl,zAs _,Bk.new _ _ _,bA.out.alloc _,cp.out.alloc _,⟨_,bp.out.alloc _,Y.out,ew⟩,⟨_,bn.out.alloc _,eq⟩,aT.out.alloc _,k.out.ok,⟨?_,dS,dV,dU,?_,dY,dX.symm,?_,dW⟩,⟨k.out.lo.1,k.out.lo.2.2.1,k.out.lo.2.1,k.out.lo.2.2.2⟩,⟨k.out.cap.2,k.out.cap.1⟩,dF,?_,en,by omega,by omega,a3.out.alloc a3.out.size _⟩;omega;omega;omega;intro ch a7;obtain ⟨e,aI,rfl⟩:=ex ch a7;have:=tZ (jM (aN R) wd) (dT d') 0 e;rw [zBi] at this;have eS:cN (jM (aN R) wd) (dT d') 0=0:=rfl;omega
end
section
open Go.RowKit
def WaveAt.mono {w:World} {B B' b:Nat} {a:List Nat} (f:WaveAt w B b a) (c:B'<=B):WaveAt w B' b a:=by
 obtain ⟨g,e,p,i,j⟩:=f;exact ⟨zAk c g,e,p,i,fun o k=>(j o k).mono c⟩
def WalkAt (w:World) (B gk:Nat) (a:List Nat):Prop:=
 ∃c b,Bk w gk 151 #[.pointer (some ⟨c,0,none⟩),.pointer (some ⟨b,0,none⟩)]/\WaveAt w B c a/\Bk w b 214 (tcells a)
def WalkAt.vis {w w':World} {B gk:Nat} {b:List Nat} (f:WalkAt w B gk b) (a:Vis w w'):WalkAt w' B gk b:=by
 obtain ⟨e,c,g,i,j⟩:=f;exact ⟨e,c,a.bk g dC dC,i.vis a,a.bk j dC dC⟩
def WalkAt.mono {w:World} {B B' gk:Nat} {a:List Nat} (e:WalkAt w B gk a) (j:B'<=B):WalkAt w B' gk a:=by
 obtain ⟨c,b,f,g,i⟩:=e;exact ⟨c,b,f,g.mono j,i⟩
def uA {B b:Nat} {a:List Nat} {w:World} (g:WaveAt w B b a):
 Calls prog 127 #[b] w fun f w'=>f=.returned (.int .i64 (a.length:Int))/\w=w':=by
 obtain ⟨_,e,i,c,_⟩:=g;have j:w.cell? ⟨b,9,none⟩=some (.int .i64 (a.length:Int)):=by rw [c.cell];have:=bV e (a.length:Int) i;simp [this]
 clear c;go_enter func127,ntmps127;go_wp2;go_ret;exact ⟨rfl,rfl⟩
def kC {B gk:Nat} {L:List Nat} {w:World} (c:WalkAt w B gk L):
 Calls prog 77 #[gk] w fun a w'=>a=.returned (.int .i64 (L.length:Int))/\w=w':=by
 obtain ⟨j,i,b,e,f⟩:=c;have g:=b.cell 0;clear b f;go_enter func77,ntmps77;go_wp2_with fail;refine (uA e).mono ?_;rintro a w' ⟨rfl,rfl⟩;go_wp2_with fail;go_ret;exact ⟨rfl,rfl⟩
def gZ {B gk:Nat} {L:List Nat} {s:Nat} {w:World} (j:WalkAt w B gk L) (q:s < 257) (p:L.length<=1000):
 Calls prog 161 #[gk,(s:Int)] w fun b w'=>b=.returned (.int .i64 ((L.countP (fun a=>decide (a < s)):Nat):Int))/\Below w.heap.size w w':=by
 obtain ⟨u,t,c,k,e⟩:=j;have r:=c.cell 1;clear c k;have i:=lhd e;clear e;go_enter func161,ntmps161;go_wp2_with fail;refine (jI i.out q p).mono ?_;rintro b w' ⟨rfl,o⟩;obtain ⟨g,f⟩:∃g,L.countP (fun a=>decide (a < s))=g:=⟨_,rfl⟩;rw [f];go_wp2_with fail;go_ret;exact ⟨by rw [f];rfl,o⟩
def cB (a:List Nat) (b c:Nat):Nat:=a.countP (fun e=>decide (e < b))+(a.take c).count b
end
section
open Go.RowKit Go.Shelf
def mK (a:Nat×Nat):List Value:= [.int .i64 (a.1:Int),.int .i64 (a.2:Int)]
def bG (C:List (Nat×Nat)):List Value:=C.flatMap mK
def aC (C:List (Nat×Nat)) (a:Nat):Nat:=(C.getD a (0,0)).1
def aJ (C:List (Nat×Nat)) (a:Nat):Nat:=(C.getD a (0,0)).2
def cU (C:List (Nat×Nat)):(bG C).length=C.length*2:=by
 induction C with
 | nil=>rfl
 | cons a l b=>
   have:bG (a::l)=mK a++bG l:=rfl;rw [this,zAi,b];simp [mK];omega
def cC (C:List (Nat×Nat)) (a:Nat) (c:a < C.length):(bG C)[a*2]?=some (.int .i64 ((aC C a:Nat):Int))/\(bG C)[a*2+1]?=some (.int .i64 ((aJ C a:Nat):Int)):=by
 induction C generalizing a with
 | nil=>cases c
 | cons b l f=>
   have e:bG (b::l)=mK b++bG l:=rfl;rcases a with _ | a;exact ⟨rfl,rfl⟩;have:=f a (by simpa using c);rw [e,zAo (by simp [mK];omega),zAo (by simp [mK];omega)];rw [show (a+1)*2 -(mK b).length=a*2 by simp [mK];omega,show (a+1)*2+1 -(mK b).length=a*2+1 by simp [mK];omega];exact this
structure PRd (W:World) (gb gp:Nat) (A:Option Addr) (n c:Nat) (C:List (Nat×Nat)):Prop where
 box:W.cell? gb=some (.pointer (some gp))
 sl:W.cell? ⟨gp,1,none⟩=some (.slice A n c)
 rd:Rd W W.heap.size 2 A n (bG C)
def PRd.below {a g:World} {c gp n i:Nat} {f:Option Addr} {C:List (Nat×Nat)} (e:PRd a c gp f n i C) (j:c < a.heap.size) (k:gp < a.heap.size) (b:Below a.heap.size a g):PRd g c gp f n i C:=
 ⟨(b.cell j).trans e.box,(b.cell k).trans e.sl,(e.rd.below b).mono b.size⟩
def PRd.drewN {c:World} {f gp n e:Nat} {b:Option Addr} {C:List (Nat×Nat)} (a:PRd c f gp b n e C) (g:Nat):PRd (c.drewN g) f gp b n e C:=⟨a.box,a.sl,a.rd⟩
def PRd.at {e:World} {o gp n j:Nat} {f:Option Addr} {C:List (Nat×Nat)} (g:PRd e o gp f n j C) {a:Nat} (r:a < C.length):
 a < n/\∃b c,f=some ⟨b,c,none⟩/\e.cell? ⟨b,c+a*2,none⟩=some (.int .i64 ((aC C a:Nat):Int))/\e.cell? ⟨b,c+a*2+1,none⟩=some (.int .i64 ((aJ C a:Nat):Int)):=by
 have s:=g.rd.1;rw [cU] at s;have t:a < n:=oM;obtain ⟨b,c,k,_,i⟩:=g.rd.2 oM;obtain ⟨p,q⟩:=cC C a r;exact ⟨t,b,c,k,i _ _ p,by rw [Nat.add_assoc];exact i _ _ q⟩
def aC4 {g gp:Nat} {i:Option Addr} {n j:Nat} {C:List (Nat×Nat)} (a row:Nat) {b:World} (c:PRd b g gp i n j C) (o:a < C.length):
 Calls prog 110 #[(a:Int),(row:Int),g] b fun f w'=>f=.returned (.int .i64 (Lib.compareInt (aC C a:Nat) row))/\b=w':=by
 obtain ⟨u,p,v,rfl,t,k⟩:=c.at o;have q:=c.box;have s:=c.sl;have e:=AnyG.cmp_Compare_int shCmp ((aC C a:Nat):Int) (row:Int) b;change Calls prog 111 _ _ _ at e;generalize Lib.compareInt (aC C a:Nat) row=r at e⊢;clear c k;go_enter func110,ntmps110;go_wp2_with fail;refine e.mono ?_;rintro f w' ⟨rfl,rfl⟩;go_wp2_with fail;go_ret;exact ⟨rfl,rfl⟩
def aBB {g i gp:Nat} {o:Option Addr} {n p:Nat} {C:List (Nat×Nat)} (e:Nat) {f:Nat} {a:World} (c:PRd a g gp o n p C) (A:a.cell? i=some (.int .i64 (f:Int))) (s:e < C.length):
 Calls prog 113 #[(e:Int),g,i] a fun b w'=>b=.returned (.bool (decide (aJ C e=f)))/\∃t,w'=a.drewN t:=by
 obtain ⟨z,u,D,rfl,q,r⟩:=c.at s;have v:=c.box;have x:=c.sl;obtain ⟨k,j⟩:=eqx (aJ C e);rw [j] at r⊢;clear c q j;by_cases b:k=f
 · subst b;go_enter func113,ntmps113;go_wp2;go_quiet (fail);go_wp2;go_ret;exact ⟨by simp,_,rfl⟩
 · have y:((k:Int)==(f:Int))=false:=(by simp;omega);go_enter func113,ntmps113;go_wp2;go_quiet (fail);go_wp2;go_ret;exact ⟨by simp [b],_,rfl⟩
end
section
open Go.RowKit Go.Shelf
open Go.Sort (Holds)
structure PermAt (w:World) (B gp ga:Nat) (vl vo vt vf:Value) (R P:Nat) (ks:List Nat) (C:List (Nat×Nat)) (tk:List Bool) (fr:List Nat):Prop where
 blk:Bk w gp 110 #[ga,vl,vo,(R:Int),(P:Int)]
 lrow:w.ownsRow B 112 2 vl C.length (bG C)
 orow:w.ownsRow B 3 1 vo ks.length (ks.map sv)
 ar:Bk w ga 154 #[vt,vf,.int .i64 268435456]
 trow:w.ownsRow B 4 1 vt tk.length (tk.map Value.bool)
 frow:w.ownsRow B 3 1 vf fr.length (fr.map sv)
 apart:vo.ownBlock=none∨vo.ownBlock≠vf.ownBlock
 lt:∀k∈ks,k < C.length
 lo:B<=gp/\B<=ga
def aEk {l:List Nat} {b:Nat->Nat} (j:l.Pairwise (fun i q=>b i < b q)) (g:Nat):∀(a e:Nat),l[a]?=some e->(b e < g↔a < l.countP fun k=>decide (b k < g)):=by
 induction l with
 | nil=>intro a e j;cases j
 | cons u l t=>
   obtain ⟨p,r⟩:=List.pairwise_cons.1 j;intro a e c;rw [zBn];by_cases f:b u < g
   · rcases a with _ | a
     · simp at c;subst c;simp [f]
     have:=t r a e (by simpa using c);simp only [f,decide_true,if_true];omega
   · have o:(l.countP fun k=>decide (b k < g))=0:=(by rw [List.countP_eq_zero];intro i s;have:=p i s;simp;omega);rcases a with _ | a
     · simp at c;subst c;simp [f,o]
     have v:=p e (zAd (by simpa using c));simp only [o,f,decide_false];simp;omega
def tG {l:List Nat} {f:Nat->Nat} (i:l.Pairwise (fun r s=>f r < f s)) (k:Nat):(∃g,l[l.countP fun a=>decide (f a < k)]?=some g/\f g=k)↔∃a∈l,f a=k:=by
 constructor;rintro ⟨g,j,e⟩;exact ⟨g,zAd j,e⟩
 · rintro ⟨a,v,rfl⟩;obtain ⟨b,p,rfl⟩:=List.getElem_of_mem v;have o:=zAa p;have j:=aEk i (f l[b]) b _ o;have z:¬b < l.countP fun a=>decide (f a < f l[b]):=fun c=>by have:=j.2 c;omega
   rcases zBe (l.countP fun a=>decide (f a < f l[b])) b with e | e
   · have q:(l.countP fun a=>decide (f a < f l[b])) < l.length:=oM;have t:=zAa q;have u:=aEk i (f l[b]) _ _ t;have x:¬f l[l.countP fun a=>decide (f a < f l[b])] < f l[b]:=fun c=>by have:=u.1 c;omega
     have y:=zAr.1 i _ _ q p e;omega
   have c:(l.countP fun a=>decide (f a < f l[b]))=b:=oM;rw [c];exact ⟨_,o,rfl⟩
def fA (a:Nat) (ks:List Nat):Array (Fin (a+1)):=(ks.map fun b=>(⟨b %(a+1),Nat.mod_lt _ (Nat.succ_pos a)⟩:Fin (a+1))).toArray
def mW {e:Nat} {ks:List Nat} (i:∀a∈ks,a < e+1) {c a:Nat} (b:ks[c]?=some a):((fA e ks)[c]!).val=a:=by
 have f:c < ks.length:=(zAc.1 b).1;have j:=i a (zAd b);have g:ks[c]=a:=by rw [zAa f] at b;injection b
 rw [aCt _ _ (by simpa [fA] using f)];simp [fA,g,zBu j]
def aDS {b:Nat} {ks:List Nat} (e:∀a∈ks,a < b+1) (c:Nat->Bool):(fA b ks).toList.countP (fun g=>c g.val)=ks.countP c:=by
 unfold fA;rw [List.countP_map];refine List.countP_congr fun a f=>?_;simp [zBu (e a f)]
def pM {w:World} {c g:Nat} {ks:List Nat} {b:Array Value} (i:Bk w g 3 b) (j:∀p∈ks,p < c+1) (o:b.toList.take ks.length=ks.map sv):Holds (eM c) w g 0 (fA c ks):=by
 intro a k;have e:a < ks.length:=by simpa [fA] using k
 rw [zBi];refine ⟨?_,i.frozen a⟩;have f:(b.toList.take ks.length)[a]?=(ks.map sv)[a]?:=by rw [o]
 rw [zBs,zBx e,zAf,zAa e,Array.getElem?_toList] at f;rw [i.cell,f];have:=mW j (zAa e);simp [eM,this,sv]
def aHf {w w':World} {a b:Nat} {d:Array (Fin (a+1))} (f:Holds (eM a) w b 0 d) (e:SW (eM a) w b 0 d w'):Below w.heap.size w w':=by
 obtain ⟨n,i,rfl⟩:=e;unfold sortWorld;have c:Go.Sort.putRow (eM a) (Go.Sort.ahead w n) b 0 d=Go.Sort.ahead w n:=Go.Sort.putRow_self (eM a) _ b 0 d f;rw [c];exact ⟨rfl,rfl,rfl,by show w.heap.size<=(w.heap++i).size;simp,fun j g=>Go.Sort.heap_grow_old _ _ g⟩
def uY (a b:Int):Lib.compareInt a b < 0↔a < b:=by
 unfold Lib.compareInt;split
 · simp [*]
 · split <;> simp [*]
def aIA (a b:Int):Lib.compareInt a b=0↔a=b:=by
 unfold Lib.compareInt;split;simp;omega;split;simp;omega;simp;omega
section
variable {w : World} {B gp ga : Nat} {vl vo vt vf : Value} {R P : Nat} {ks : List Nat} {C : List (Nat × Nat)} {tk : List Bool} {fr : List Nat}
def PermAt.prd (c:PermAt w B gp ga vl vo vt vf R P ks C tk fr) {f:Nat} {w':World} (j:w'.cell? f=some (.pointer (some gp))) (i:Below w.heap.size w w'):∃a n b,vl=.slice a n b/\PRd w' f gp a n b C:=by
 obtain ⟨a,b,e,_⟩:=aQ c.lrow;refine ⟨a,C.length,b,e,j,?_,?_⟩;have:=(c.blk.below i c.blk.lt).cell 1;rw [e] at this;exact this;have g:=aM c.lrow i;rw [e] at g;exact Rd.of_own g
end
def aKD {ks:List Nat} {C:List (Nat×Nat)} {c row:Nat} (q:C.length=c+1) (s:∀a∈ks,a < C.length) (t:ks.Pairwise (fun o p=>aC C o < aC C p)):
 ((fA c ks).toList.countP (fun b=>decide (Lib.compareInt (aC C b.val:Nat) row < 0)))=ks.countP (fun a=>decide (aC C a < row))/\
 (decide (((fA c ks).toList.countP (fun b=>decide (Lib.compareInt (aC C b.val:Nat) row < 0))) < (fA c ks).size)&&decide (Lib.compareInt (aC C ((fA c ks)[((fA c ks).toList.countP (fun b=>decide (Lib.compareInt (aC C b.val:Nat) row < 0)))]!).val:Nat) row=0))=decide (∃a∈ks,aC C a=row):=by
 have i:∀a∈ks,a < c+1:=fun a r=>by rw [<-q];exact s a r
 have j:(fA c ks).toList.countP (fun b=>decide (Lib.compareInt (aC C b.val:Nat) row < 0))=ks.countP (fun a=>decide (aC C a < row)):=by rw [<-aDS i (fun a=>decide (aC C a < row))];congr 1;funext b;rw [decide_eq_decide,uY];omega
 refine ⟨j,?_⟩;rw [j,Bool.eq_iff_iff];simp only [zBd,zCa,aIA];rw [<-tG (f:=aC C) t row];constructor;rintro ⟨e,k⟩;have g:(ks.countP fun a=>decide (aC C a < row)) < ks.length:=(by simpa [fA] using e);refine ⟨_,zAa g,?_⟩;rw [mW i (zAa g)] at k;omega;rintro ⟨b,e,k⟩;have g:=(zAc.1 e).1;refine ⟨by simpa [fA] using g,?_⟩;rw [mW i e];omega
def jK {B gp ga:Nat} {vl vo vt vf:Value} {R P:Nat} {ks:List Nat} {C:List (Nat×Nat)} {tk:List Bool} {fr:List Nat} (row:Nat) {w:World} (e:PermAt w B gp ga vl vo vt vf R P ks C tk fr) (I:ks.Pairwise (fun o f=>aC C o < aC C f)) (T:ks.length<=1099511627776):
 Calls prog 67 #[gp,(row:Int)] w fun a w'=>a=.returned (.tuple #[.int .i64 ((ks.countP (fun b=>decide (aC C b < row)):Nat):Int),.bool (decide (∃b∈ks,aC C b=row))])/\Below w.heap.size w w':=by
 have am:=e.blk.lt;have r:Below w.heap.size w (w.alloc (.cells #[gp] 72)):=bR.alloc nL _;have a1:w.cell? ⟨gp,2,none⟩=some vo:=(e.blk.cell 2).trans rfl;have S:∀k n g,vo=.slice k n g->Calls prog 109 #[.slice k n g,(row:Int),.func (.func 110) #[] #[w.heap.size]] (w.alloc (.cells #[gp] 72)) fun a w'=>a=.returned (.tuple #[.int .i64 ((ks.countP (fun b=>decide (aC C b < row)):Nat):Int),.bool (decide (∃b∈ks,aC C b=row))])/\Below w.heap.size w w':=by
  intro k n g L;rcases zBa ks.length with t | t;have aa:ks= []:=zBk t;obtain ⟨a0,a2,i,_⟩:=aQ e.orow;rw [L] at i;injection i with _ i _;rw [t] at i;subst i;subst aa;refine (Any.slices_BinarySearchFunc_none shBin k g (.int .i64 (row:Int)) (.func (.func 110) #[] #[w.heap.size]) _).mono ?_;rintro a w' ⟨rfl,rfl⟩;exact ⟨by simp,r⟩
  · rcases e.orow.2 with ⟨_,a⟩|⟨q,ag,a3,a,ak,a8,ao,an,ap,X⟩;omega
    · rw [L] at a;injection a with e1 e2 e3;subst e1 e2 e3;rw [zBl] at X;obtain ⟨k0,a9⟩:∃b,b∈ks:=(by obtain ⟨j,af⟩:=List.exists_mem_of_length_pos t;exact ⟨j,af⟩);obtain ⟨c,D⟩:∃c,C.length=c+1:=⟨C.length - 1,by have:=e.lt k0 a9;omega⟩;have H:∀b∈ks,b < c+1:=fun b T=>by rw [<-D];exact e.lt b T
      have v:Bk w q 3 a3:=a8;have u:=v.below r v.lt;have O:=pM u H X;have a6:(w.alloc (.cells #[gp] 72)).cell? w.heap.size=some (.pointer (some gp)):=(Bk.new w 72 #[gp]).cell 0;have a7:CmpLaysT prog 110 #[w.heap.size] (eM c) (.int .i64 (row:Int)) (fun j=>Lib.compareInt (aC C j.val:Nat) row) q 0 (fA c ks).size (w.alloc (.cells #[gp] 72)):=(by intro K J x al j;have G:=iR (enc:=eM c) u.lt 0 K x J;obtain ⟨k,n,g,a,W⟩:=e.prd a6 r;have ad:PRd (sortWorld (eM c) (w.alloc (.cells #[gp] 72)) q 0 K x J) w.heap.size gp k n g C:=(by refine ⟨?_,?_,?_⟩;exact (G.cell (p:=w.heap.size) (by simp) (fun a=>by have:=v.lt;have ai:w.heap.size=q:=a;omega)).trans W.box;exact (G.cell (p:=⟨gp,1,none⟩) (by simp;omega) (Bk.ne e.blk v dC)).trans W.sl;have ab:=aM e.lrow r;have U:=aA (w':=sortWorld (eM c) (w.alloc (.cells #[gp] 72)) q 0 K x J) ab fun f ah _ s=>G.bk s (Bk.ne s u dC);obtain ⟨a0,a2,i,_⟩:=aQ e.lrow;rw [a] at i U;injection i with e91 e92 e93;subst e92;exact Rd.of_own U);exact (aC4 j.val row ad (by rw [D];exact j.isLt)).mono fun _ _ ⟨a4,a5⟩=>⟨a4,0,#[],by rw [<-a5,Go.Sort.grow_empty];rfl⟩);have ac:∀o f,o<=f->f < (fA c ks).size->Lib.compareInt (aC C ((fA c ks)[f]!).val:Nat) row < 0->Lib.compareInt (aC C ((fA c ks)[o]!).val:Nat) row < 0:=(by intro o f z A V;have s:f < ks.length:=(by simpa [fA] using A);rw [mW H (zAa s),uY] at V;rw [mW H (zAa (show o < ks.length by omega)),uY];rcases Nat.eq_or_lt_of_le z with rfl | z;exact V;have:=zAr.1 I o f oM s z;omega);have Y:(fA c ks).size=ks.length:=(by simp [fA]);have y:=Any.slices_BinarySearchFunc shBin (eM c) (lR c) (.int .i64 (row:Int)) (fun j=>Lib.compareInt (aC C j.val:Nat) row) 110 #[w.heap.size] q 0 g (fA c ks) (w.alloc (.cells #[gp] 72)) (enters_of func110 kR rfl) a7 O u.lt (by rw [Y];omega) ac;obtain ⟨M,N⟩:=aKD (row:=row) D e.lt I;rw [M] at N;rw [M,N] at y;rw [Y] at y;refine y.mono ?_;rintro a w' ⟨rfl,ae⟩;exact ⟨rfl,r.trans ((aHf O ae).mono (by simp))⟩
 obtain ⟨k,g,a,_⟩:=aQ e.orow;have Q:=S _ _ _ a;rw [a] at a1;obtain ⟨Z,F⟩:∃Z,ks.countP (fun b=>decide (aC C b < row))=Z:=⟨_,rfl⟩;obtain ⟨aj,E⟩:∃f,decide (∃b∈ks,aC C b=row)=f:=⟨_,rfl⟩;rw [F,E] at Q;rw [F,E];clear S e I F E r a;go_enter func67,ntmps67;go_wp2_with fail;refine Q.mono ?_;rintro a w' ⟨rfl,A⟩;go_wp2_with fail;go_ret2;exact ⟨rfl,A⟩
end
end Go.Proofs.YtcoooelofcejbaaGreatDoor
