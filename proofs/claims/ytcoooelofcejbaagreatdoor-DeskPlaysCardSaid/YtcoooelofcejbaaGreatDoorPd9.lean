/- Lemmas of the walk. Conditions: each its own. -/
import Derived.Test.YtcoooelofcejbaaGreatDoorPd5
import Derived.Test.YtcoooelofcejbaaGreatDoorPd7
import Derived.Test.YtcoooelofcejbaaGreatDoorProg
set_option linter.all false
set_option maxRecDepth 100000
set_option maxHeartbeats 4000000
open Go.Proofs.Tryz
namespace Go.Proofs.YtcoooelofcejbaaGreatDoor
section
open Go.RowKit Go Go.Sort
def sufLt (a:List Nat) (b c:Nat):Prop:=∃w,ltW (aN a) w b c
def aAX {a:Nat->Int} {w e b c:Nat} (f:ltW a w b c) (k:w<=e):ltW a e b c:=by
 obtain ⟨i,j,g⟩:=f;exact ⟨i,by omega,g⟩
def sufLt.asymm {c:List Nat} {e f:Nat} (a:sufLt c e f) (b:sufLt c f e):False:=by
 obtain ⟨w,a⟩:=a;obtain ⟨g,b⟩:=b;exact (aAX a (Nat.le_max_left w g)).asymm (aAX b (Nat.le_max_right w g))
def sufLt.trans {c:List Nat} {e f g:Nat} (a:sufLt c e f) (b:sufLt c f g):sufLt c e g:=by
 obtain ⟨w,a⟩:=a;obtain ⟨i,b⟩:=b;exact ⟨_,(aAX a (Nat.le_max_left w i)).trans (aAX b (Nat.le_max_right w i))⟩
structure IsSuf (l rs:List Nat):Prop where
 perm:rs.Perm (List.range l.length)
 sorted:rs.Pairwise (sufLt l)
def IsSuf.len {a b:List Nat} (c:IsSuf a b):b.length=a.length:=by simpa using c.perm.length_eq
def IsSuf.lt {a c:List Nat} (e:IsSuf a c) {b:Nat} (f:b∈c):b < a.length:=by simpa using e.perm.mem_iff.1 f
def IsSuf.mem {a c:List Nat} (e:IsSuf a c) {b:Nat} (f:b < a.length):b∈c:=e.perm.mem_iff.2 (by simpa using f)
def IsSuf.nodup {c a:List Nat} (b:IsSuf c a):a.Nodup:=b.perm.nodup_iff.2 List.nodup_range
def IsSuf.unique {a e f:List Nat} (b:IsSuf a e) (c:IsSuf a f):e=f:=by
 refine List.Perm.eq_of_pairwise (le:=sufLt a) ?_ b.sorted c.sorted (b.perm.trans c.perm.symm);intro j k _ _ g i;exact (g.asymm i).elim
def eM (m:Nat) (a:Fin (m+1)):Value:=.int .i64 ((a.val:Nat):Int)
def lR (m:Nat) (a:Fin (m+1)):(eM m a).oneCell'=true:=rfl
section
variable {α : Type} [Inhabited α] {enc : α -> Value} {w : World} {blk : Nat} {t : TypeId} {d d' : Array α}
def aCt (d:Array α) (a:Nat) (b:a < d.size):d[a]! =d[a]:=getElem!_pos d a b
def aAR (c:d'.size=d.size):putCells enc 0 d' (d.map enc)=d'.map enc:=by
 apply Array.ext
 · simp [putCells,c]
 · intro e f a;have b:e < d'.size:=(by simpa using a);simp [putCells,b,aCt]
def aI5 (a:Bk w blk t (d.map enc)) (f:d'.size=d.size) (b:Nat) (g:Array Obj):Bk (sortWorld enc w blk 0 b d' g) blk t (d'.map enc):=by
 have e:=a.lt;unfold Bk at a⊢;have c:(putRow enc (Sort.ahead w b) blk 0 d').heap[blk]?=some (.cells (d'.map enc) t (0,0)):=by show (w.heap.modify blk _)[blk]?=_;rw [Array.getElem?_modify,zBx rfl,a];simp only [Option.map_some,onCells];rw [aAR f]
 unfold sortWorld;rw [heap_grow_old _ _ (by show blk < (w.heap.modify blk _).size;simpa using e)];exact c
def iR (k:blk < w.heap.size) (j i:Nat) (d':Array α) (b:Array Obj):Keep (fun c=>c=blk) w (sortWorld enc w blk j i d' b):=by
 refine ⟨rfl,rfl,rfl,?_,fun a f g=>?_⟩
 · show w.heap.size<=((w.heap.modify blk _)++b).size;simp
 · unfold sortWorld;rw [heap_grow_old _ _ (by show a < (w.heap.modify blk _).size;simpa using f)];show (w.heap.modify blk _)[a]?=_;rw [Array.getElem?_modify,zBw (fun e=>g e.symm)]
def aIF (a:Bk w blk t (d.map enc)):Holds enc w blk 0 d:=by
 intro c b;rw [zBi];refine ⟨?_,a.frozen c⟩;rw [a.cell];simp [b,aCt]
end
def vV {α:Type} [Inhabited α] {d d':Array α} (a:PermIn 0 d.size d d'):d'.toList.Perm d.toList:=by
 have e:=a.2.2;have b:d'.extract 0 d.size=d':=by rw [<-a.1];exact Array.extract_size
 have c:d.extract 0 d.size=d:=Array.extract_size;rwa [b,c] at e
def dT {m:Nat} (d:Array (Fin (m+1))) (a:Nat):Nat:=(d[a]!).val
structure RowsOk (m:Nat) (d:Array (Fin (m+1))):Prop where
 size:d.size=m+1
 perm:d.toList.Perm (List.finRange (m+1))
def kT {m:Nat} {d:Array (Fin (m+1))} {i:Nat} (a:i < d.size):(d.toList.map (·.val))[i]?=some (dT d i):=by
 rw [zAf,Array.getElem?_toList,zAq a];simp [dT,aCt d i a]
section
variable {m : Nat} {d : Array (Fin (m + 1))}
def RowsOk.lt (b:RowsOk m d) (a:Nat):dT d a < m+1:=(d[a]!).isLt
def RowsOk.vals (c:RowsOk m d):(d.toList.map (·.val)).Perm (List.range (m+1)):=by
 have a:=c.perm.map (·.val);have b:(List.finRange (m+1)).map (·.val)=List.range (m+1):=by
  apply List.ext_getElem
  · simp
  · intro f a e;simp
 rwa [b] at a
def RowsOk.nodup (a:RowsOk m d):(d.toList.map (·.val)).Nodup:=a.vals.nodup_iff.2 List.nodup_range
def RowsOk.inj (a:RowsOk m d) {i j:Nat} (b:i < m+1) (e:j < m+1) (c:dT d i=dT d j):i=j:=by
 refine (List.getElem?_inj (l:=d.toList.map (·.val)) (by simpa [a.size] using b) a.nodup).1 ?_;rw [kT (by rw [a.size];exact b),kT (by rw [a.size];exact e),c]
def RowsOk.sur (c:RowsOk m d) {p:Nat} (k:p < m+1):∃a,a < m+1/\dT d a=p:=by
 have g:p∈d.toList.map (·.val):=c.vals.mem_iff.2 (by simpa using k);obtain ⟨a,e,j⟩:=List.getElem_of_mem g;have f:a < m+1:=by simpa [c.size] using e
 refine ⟨a,f,?_⟩;have b:=kT (d:=d) (i:=a) (by rw [c.size];exact f);rw [zAa e,j] at b;injection b with b;exact b.symm
def RowsOk.cell (b:RowsOk m d) {a:Nat} (c:a < m+1):(d.map (eM m))[a]?=some (.int .i64 ((dT d a:Nat):Int)):=by
 have:a < d.size:=by rw [b.size];exact c
 simp [eM,dT,this,aCt]
def RowsOk.of_perm {d':Array (Fin (m+1))} (a:RowsOk m d) (b:PermIn 0 d.size d d'):RowsOk m d':=
 ⟨b.1.trans a.size,(vV b).trans a.perm⟩
def RowsOk.suf (c:RowsOk m d) {l:List Nat} (p:l.length=m+1) {w:Nat} (q:∀a b,a < b->b < m+1->ltW (aN l) w (dT d a) (dT d b)):IsSuf l (d.toList.map (·.val)):=by
 refine ⟨by rw [p];exact c.vals,?_⟩;rw [zAr];intro a b g j o;have n:a < m+1:=by simpa [c.size] using g
 have k:b < m+1:=by simpa [c.size] using j
 have e:=kT (d:=d) (i:=a) (by rw [c.size];exact n);have f:=kT (d:=d) (i:=b) (by rw [c.size];exact k);rw [zAa g] at e;rw [zAa j] at f;injection e with e;injection f with f;rw [e,f];exact ⟨w,q a b o k⟩
end
def vP (m:Nat):Array (Fin (m+1)):=(List.finRange (m+1)).toArray
def aHt (m:Nat):RowsOk m (vP m):=⟨by simp [vP],by simp [vP]⟩
def aHG {b:Nat} {cs:Array Value} {f:Nat->Nat} {v:Nat->Nat} (z:b<=cs.size) (r:∀a,a < b->f a < b) (q:∀a,a < b->cs[f a]?=some (.int .i64 ((v a:Nat):Int))) (s:∀i,i < b->∃c,c < b/\f c=i):
 ∃j:List Nat,j.length=b/\(∀a,a < b->j[f a]?=some (v a))/\(∀(a:Nat) n,(j.map sv)[a]?=some n->cs[a]?=some n)/\∀u∈j,∃a,a < b/\u=v a:=by
 let p:Nat->Nat:=fun i=>match cs[i]? with
  | some (.int _ o)=>o.toNat
  | _=>0
 have k:∀a,a < b->p (f a)=v a:=by intro a g;show (match cs[f a]? with | some (.int _ o)=>o.toNat | _=>0)=v a;rw [q a g];simp
 refine ⟨(List.range b).map p,by simp,fun a g=>?_,fun a n l=>?_,fun u y=>?_⟩
 · simp [r a g,k a g]
 have g:a < b:=(by have:=(zAc.1 l).1;simpa using this);obtain ⟨c,e,rfl⟩:=s a g;simp [r c e,k c e] at l;rw [q c e,<-l];rfl;obtain ⟨i,x,rfl⟩:=zAy.1 y;obtain ⟨c,e,rfl⟩:=s i (by simpa using x);exact ⟨c,e,k c e⟩
def cfF (m w:Nat) (a:List Nat) (b c:Fin (m+1)):Int:=jM (aN a) w b.val c.val
def aJ7 {g e:List Nat} {w:Nat} (m:Nat) (b:RankOk (aN g) (aN e) w):SWO (ltOf (cfF m w e)) where
 irrefl x:=by unfold ltOf cfF;rw [decide_eq_false_iff_not,uS b];exact fun b=>b.irrefl
 trans x y z h1 h2:=by
  unfold ltOf cfF at*
  rw [decide_eq_true_iff,uS b] at*
  exact h1.trans h2
 ntrans x y z h1 h2:=by
  unfold ltOf cfF at*
  rw [decide_eq_false_iff_not,uS b] at*
  intro f;rcases qW (a:=aN g) (w+w) x.val y.val with c | c | c;exact h1 c;exact h2 (ltW.eq_left c.symm f);exact h2 (c.trans f)
def aHi {c b:List Nat} {w m:Nat} {d:Array (Fin (m+1))} (e:RankOk (aN c) (aN b) w) (j:d.size=m+1) (g:SortedIn (ltOf (cfF m w b)) 0 (m+1) d) {i:Nat} (f:i+1 < m+1):¬ltW (aN c) (w+w) (dT d (i+1)) (dT d i):=by
 have a:=g i (i+1) (zAp _) oM f;unfold ltOf cfF at a;rw [decide_eq_false_iff_not,uS e] at a;exact a
end
section
open Go.RowKit
def aEo (b:Nat) (a:Array Value):Value->World->Prop:=fun _ w=>Bk w b 297 a
def wT (c:Nat) (b:Array Value):Stb (aEo c b):=fun _ _ _ a e=>Bk.below a e (Bk.lt a)
def nI (a:Int) (b c:Nat):Array Value:=#[.int .i64 a,.int .u64 (b:Int),.int .u64 (c:Int)]
def wV (e:Int) (b c a:Nat) (f:a < 2):(nI e b c)[1+a]?=some (.int .u64 (((if a=0 then b else c):Nat):Int)):=by
 obtain rfl | rfl:a=0∨a=1:=oM;rfl;rfl
def wU (c:Int) (e f b a:Nat) (g:a < 2):(nI c e f).setIfInBounds (1+a) (.int .u64 (b:Int))=nI c (if a=0 then b else e) (if a=0 then f else b):=by
 obtain rfl | rfl:a=0∨a=1:=oM;rfl;rfl
def aAh {w:World} {a:Nat} {f:Int} {b c:Nat} (e:Bk w a 297 (nI f b c)) (m:Int):Bk (w.setCell a (.int .i64 m)) a 297 (nI m b c):=e.set 0 _
structure InsI (l l':List Bool) (k:Nat) (b:Bool) (i a:Nat) (bb:Bool) (u0 u1:Nat):Prop where
 at0:i=0->k < 64/\a=k/\bb=b/\u0=w0 l/\u1=w1 l
 at1:i=1->a < 64/\u0=w0 l'/\qQ u1 a bb=w1 l'/\u1 < 18446744073709551616
 at2:i=2->u0=w0 l'/\u1=w1 l'
 le:i<=2
def uM {b:Nat} {c:List Bool} {f:Nat} (e:Bool) {w:World} (aa:Bk w b 297 (gP c)) (aJ:c.length<=127) (N:f<=c.length):
 Calls prog 299 #[b,(f:Int),.bool e] w fun s ah=>s=.returned (.int .i64 0)/\Bk ah b 297 (gP (aP c f e))/\Keep (fun e=>e=b) w ah:=by
 obtain ⟨o,a0⟩:=eqx c.length;have ae:(aP c f e).length=o+1:=by rw [fJ _ _ N,a0]
 have L:Bk w b 297 (nI (o:Int) (w0 c) (w1 c)):=by rw [<-a0];exact aa
 have ac:∀S,Bk S b 297 (nI ((o+1:Nat):Int) (w0 (aP c f e)) (w1 (aP c f e)))->Bk S b 297 (gP (aP c f e)):=fun S y=>by unfold gP;rw [ae];exact y
 have a6:=mO c;have V:=mJ (l:=c) oM;have aL:∃Q G:Nat,(f:Int)/ 64=(Q:Int)/\(f:Int)% 64=(G:Int)/\InsI c (aP c f e) f e Q G e (w0 c) (w1 c):=by by_cases av:f < 64;exact ⟨0,f,by omega,by omega,fun _=>⟨av,rfl,rfl,rfl,rfl⟩,fun s=>by omega,fun s=>by omega,by omega⟩;obtain ⟨U,J⟩:=aKe (l:=c) (k:=f) e N oM oM;exact ⟨1,f - 64,by omega,by omega,fun s=>by omega,fun _=>⟨by omega,U.symm,J.symm,V⟩,fun s=>by omega,by omega⟩
 have af:∀a u j g i,a < 2->InsI c (aP c f e) f e a u j g i->u < 64/\(if a=0 then g else i) < 18446744073709551616/\InsI c (aP c f e) f e (a+1) 0 ((if a=0 then g else i).testBit 63) (if a=0 then qQ g u j else g) (if a=0 then i else qQ i u j):=by intro a u j g i aY y;obtain rfl | rfl:a=0∨a=1:=oM;obtain ⟨I,rfl,rfl,rfl,rfl⟩:=y.at0 rfl;obtain ⟨U,J⟩:=aKd (l:=c) (k:=u) j N oM I;have aE:(w0 c).testBit 63=c.getD 63 false:=(by rw [iL];simp);simp only [if_true,aE];exact ⟨I,a6,fun s=>by omega,fun _=>⟨by omega,U.symm,J.symm,V⟩,fun s=>by omega,by omega⟩;obtain ⟨I,aw,ax,ay⟩:=y.at1 rfl;simp only [show ¬((1:Nat)=0) by omega,if_false];exact ⟨I,ay,fun s=>by omega,fun s=>by omega,fun _=>⟨aw,ax⟩,by omega⟩
 obtain ⟨Q,G,aZ,aU,a7⟩:=aL;have aI:¬((f:Int) > (o:Int)):=oM;have aG:decide ((f:Int) < 0)=false:=by simp
 have b1:((o:Int)==128)=false:=by rw [zCb];omega
 have H:w.cell? b=some (.int .i64 (o:Int)):=(L.cell 0).trans rfl;have aW:=L.lt;have b2:o<=127:=oM;obtain ⟨ak,ao,ar,ai⟩:=hqq4 L ac af a7;clear aa L ac a6 V af a7 ae a0 aJ N;go_enter func299,ntmps299;go_wp2_with fail;clear H aG aI;go_loopw [2,7,8] (fun n q a4 wr=>∃(a u:Nat) (j:Bool) (g i:Nat),n=.bool j/\q=.int .i64 (u:Int)/\a4=.int .i64 (a:Int)/\InsI c (aP c f e) f e a u j g i/\Bk wr b 297 (nI (o:Int) g i)/\Keep (fun e=>e=b) w wr) (fun _ _ a4 _=>2 -(intOf a4).toNat)
 case atStart=>exact ⟨Q,G,e,_,_,rfl,rfl,rfl,ai.out,ak.out,Keep.refl _ _⟩
 case round=>
  obtain ⟨a,z,j,g,i,rfl,rfl,rfl,A,v,O⟩:=hrel;by_cases Z:a < 2
  · obtain ⟨aK,ag,W⟩:=ar.out a z j g i Z A;have M:=wV (o:Int) g i a Z;have a1:=fun q=>wU (o:Int) g i q a Z;obtain ⟨n,D⟩:∃n,(if a=0 then g else i)=n:=⟨_,rfl⟩;obtain ⟨q,P⟩:=eqx (qQ n z j);obtain ⟨T,ab⟩:=eqx (nI (o:Int) g i)
    have a8:InsI c (aP c f e) f e (a+1) 0 (n.testBit 63) (if a=0 then q else g) (if a=0 then i else q):=by
        have aC:(if a=0 then qQ g z j else g)=if a=0 then q else g:=by
         split
         · rw [<-P,<-D,zBx (by assumption)]
         rfl
        have aD:(if a=0 then i else qQ i z j)=if a=0 then i else q:=by
         split;rfl
         · rw [<-P,<-D,zBw (by assumption)]
        rw [D,aC,aD] at W;exact W
    rw [D] at M ag;rw [ab] at M a1 v;have b0:(a:Int) < 2:=oM;obtain ⟨a5,aq,an,au,aj,R⟩:=hqq6 M a1 v P a8 O;clear A W v O M a1 D P ab a8;go_wp2_with fail;refine wp_region_any kR ?_;refine cT (pre:=(fun w1=>Bk w1 b 297 T)) (pJ:=(aEo b (T.setIfInBounds (1+a) (.int .u64 (q:Int))))) [38,39,40,41,42,43,44,45,46,47,48,37,49,50,51,52,53,2] (fun e=>e=b) 17 [7,17] [is b,is (a:Int),is b,is (a:Int),is b,is (.pointer (some ⟨b,1,none⟩)),is (.pointer (some ⟨b,1+a,none⟩)),is (.int .u64 (n:Int)),is (z:Int),is (.bool j),is (.tuple #[.int .u64 (q:Int),.bool (n.testBit 63)]),is (.tuple #[.int .u64 (q:Int),.bool (n.testBit 63)]),is (.int .u64 (q:Int)),is (.bool (n.testBit 63)),is b,is (.pointer (some ⟨b,1,none⟩)),is (.pointer (some ⟨b,1+a,none⟩)),dJ,is (.bool (n.testBit 63))] _ rfl kR kR (an.out) (fun w1 b4 y _ aF=>Bk.below y aF y.lt) (wT _ _) tA1 ?_ ?_
    · refine aV ?_;refine pH3 0 (.pointer (some b)) ?_;refine pH3 8 (.int .i64 (a:Int)) ?_;refine pH3 0 (.pointer (some b)) ?_;refine pH3 8 (.int .i64 (a:Int)) ?_;refine pV3 2 40 ?_;refine pV3 4 42 ?_;refine pW3 5 43 3 41 ?_;refine sC3 (fun _ E _ X _ _ _ r _ _ _ B=>?_) ?_
      · have C:=X rfl;have aN:_=_:=r 6 44 kR rfl;have H:E.cell? ⟨b,1+a,none⟩=some (.int .u64 (n:Int)):=(C.cell (1+a)).trans a5.out;go_simp;exact kq B rfl
      refine pH3 7 (.int .i64 (z:Int)) ?_;refine pH3 2 (.bool j) ?_;refine sC3 (fun _ E _ _ _ _ _ r _ _ _ B=>?_) ?_
      · have aO:_=_:=r 7 45 kR rfl;have aQ:_=_:=r 8 46 kR rfl;have aR:_=_:=r 9 47 kR rfl;go_simp;refine (aIW (x:=n) (k:=z) j ag aK E).mono ?_;rintro s b5 ⟨rfl,rfl⟩;rw [au.out];exact kq B rfl
      refine pV3 10 48 ?_;refine pV3 11 37 ?_;refine pV3 11 37 ?_;refine pV3 0 38 ?_;refine pV3 14 51 ?_;refine pW3 15 52 1 39 ?_;refine sC3 (fun _ E _ X _ _ _ r _ _ _ B=>?_) ?_
      · have C:=X rfl;have aT:_=_:=r 16 53 kR rfl;have aS:_=_:=r 12 49 kR rfl;have H:E.cell? ⟨b,1+a,none⟩=some (.int .u64 (n:Int)):=(C.cell (1+a)).trans a5.out;have aB:=C.frozen (1+a);go_simp;exact B (.bool true) _ (bJ (Keep.setCell (F:=fun e=>e=b) (Keep.refl _ _) (p:=⟨b,1+a,none⟩) (.inl rfl) _)) (C.set (1+a) _)
      refine pV3 13 50 ?_;exact aH
    · intro aA a3 K r a9;replace K:Keep (fun e=>e=b) wr a3:=kD K;have az:aA (.tmp 2)=.bool (n.testBit 63):=r 18 2 rfl;obtain ⟨b3,a2⟩:∃aM,(aEo b (T.setIfInBounds (1+a) (.int .u64 (q:Int)))) aM a3:=a9 17 dC;simp only [zqq];rw [az];clear r a9;have Y:Bk a3 b 297 _:=a2;rw [aq.out] at Y;have ad:=R.out.trans K;obtain ⟨am,ap⟩:=hqq2 Y ad;clear Y ad a2 K;go_wp2_with fail;go_roundw
      case rel=>exact ⟨a+1,0,_,_,_,rfl,rfl,by go_num,aj.out,am.out,ap.out⟩
      case measure=>simp [intOf];omega
  · obtain rfl:a=2:=(by have:=A.le;omega);obtain ⟨rfl,rfl⟩:=A.at2 rfl;have H:wr.cell? b=some (.int .i64 (o:Int)):=(v.cell 0).trans rfl;have aB:=v.frozen 0;have aX:=v.lt;obtain ⟨al,R⟩:=hqq2 v O;clear v O A;have J:IntKind.i64.wrap ((o:Int)+1)=((o+1:Nat):Int):=(by rw [IntKind.wrap_i64];omega);go_wp2_with fail;go_ret;exact ⟨rfl,ao.out _ (aAh al.out _),Keep.setCell (F:=fun e=>e=b) R.out (p:=b) (.inl rfl) _⟩
def uN {c:Nat} {b:List Bool} {e:Nat} {w:World} (ag:Bk w c 297 (gP b)) (Z:b.length<=128) (V:e < b.length):
 Calls prog 293 #[c,(e:Int)] w fun G aK=>G=.returned (.tuple #[.bool (b.getD e false),.int .i64 0])/\Bk aK c 297 (gP (aG b e))/\Keep (fun j=>j=c) w aK:=by
 have aA:=sO (gb:=c) (l:=b) (k:=e) (w:=w) ag V;obtain ⟨n,ak⟩:=eqx b.length;have b2:(aG b e).length+1=n:=by rw [cM V,ak]
 have ah:Bk w c 297 (nI (n:Int) (w0 b) (w1 b)):=by rw [<-ak];exact ag
 have ay:∀a9,Bk a9 c 297 (nI ((n:Int) - 1) (w0 (aG b e)) (w1 (aG b e)))->Bk a9 c 297 (gP (aG b e)):=fun a9 K=>by unfold gP;rw [show (((aG b e).length:Nat):Int)=(n:Int) - 1 by omega];exact K
 have av:=mO b;have aw:=mJ (l:=b) Z;obtain ⟨A,g,bo,aT,bq,aU,b1⟩:∃A g:Nat,(e:Int)/ 64=(A:Int)/\(e:Int)% 64=(g:Int)/\A < 2/\g < 64/\e=64*A+g:=⟨e / 64,e % 64,by omega,by omega,by omega,by omega,by omega⟩;have aI:A=0->w0 (aG b e)=nH (w0 b) g ((w1 b).testBit 0)/\w1 (aG b e)=nH (w1 b) 0 false/\(w0 b).testBit g=b.getD e false:=fun G=>by have D:e=g:=oM;have r:=aKy (l:=b) (k:=e) V Z oM;rw [gI,zBq,<-D];refine ⟨r.1,r.2,?_⟩;rw [iL,zBz oM,Bool.true_and]
 have aB:A=1->w0 (aG b e)=w0 b/\w1 (aG b e)=nH (w1 b) g false/\(w1 b).testBit g=b.getD e false:=fun G=>by have D:e - 64=g:=oM;have r:=cut_hi (l:=b) (k:=e) V Z oM;rw [D] at r;refine ⟨r.1,r.2,?_⟩;rw [gI];congr 1;omega
 have aY:=ah.lt;have bs:n<=128:=oM;have aW:0 < nH 0 0 true:=dC;obtain ⟨aq,aN,aQ,aO,aL,ap⟩:=hqq6 ah ay aI aB av aw;clear ag ah ay av aw aI aB b2 ak Z V aW b1;go_enter func293,ntmps293;go_wp2_with fail;refine aA.mono ?_;rintro G b8 ⟨rfl,ai⟩;have ax:=aq.out.below ai aY;have aF:Keep (fun j=>j=c) w b8:=Keep.of_below ai;obtain ⟨aM,aP⟩:=hqq2 ax aF;clear aA ai ax aF aq;go_wp2_with fail;go_loopw [7,8] (fun f ao wr=>∃(a B:Nat) (C:Bool),f=.bool C/\ao=.int .i64 (a:Int)/\A<=a/\a < 2/\(a=1->C=false/\B=w1 b)/\(a=0->C=(w1 b).testBit 0/\B=nH (w1 b) 0 false)/\Bk wr c 297 (nI (n:Int) (w0 b) B)/\Keep (fun j=>j=c) w wr) (fun _ ao _=>(intOf ao).toNat)
 case atStart=>exact ⟨1,w1 b,false,rfl,rfl,by omega,by omega,fun _=>⟨rfl,rfl⟩,fun G=>by omega,aM.out,aP.out⟩
 case round=>
  obtain ⟨a,B,C,rfl,rfl,bp,aD,r,af,O,Y⟩:=hrel;by_cases az:A < a
  · obtain rfl:a=1:=oM;obtain ⟨rfl,rfl⟩:=r rfl;obtain rfl:A=0:=oM;obtain ⟨a,aC⟩:∃a,a=1:=⟨1,rfl⟩;have q:=wV (n:Int) (w0 b) (w1 b) a oM;have v:=fun o=>wU (n:Int) (w0 b) (w1 b) o a oM;rw [zBw oM] at q;obtain ⟨f,a0⟩:=eqx (w1 b);obtain ⟨o,M⟩:=eqx (nH f 0 false);obtain ⟨J,U⟩:=eqx (nI (n:Int) (w0 b) (w1 b));have a1:=ap.out;rw [U] at q v O;rw [a0] at q a1;have aJ:nH (w1 b) 0 false=o:=(by rw [a0];exact M);obtain ⟨P,al⟩:=eqx (f.testBit 0);have T:(w1 b).testBit 0=P:=(by rw [a0];exact al);have aR:=lhd al;have b0:(a:Int) < 2:=oM;obtain ⟨Q,a7,a4,a8,aS,a2,a5⟩:=hqq7 q v O M aJ T Y;have br:a < 2:=oM;have aE:¬a=0:=oM;have aZ:¬(a:Int)<=0:=oM;rw [show ((1:Nat):Int)=(a:Int) by omega];have ar:=lhd aC;have bk:¬(a:Int)<=0:=aZ;have bl:(a:Int) > 0:=oM;clear O Y q v a0 M aJ U r af T aC az al;go_wp2_with fail;refine wp_region_any kR ?_;refine cT (pre:=(fun w1=>Bk w1 c 297 J)) (pJ:=(aEo c (J.setIfInBounds (1+a) (.int .u64 (o:Int))))) [22,23,24,25,26,27,28,29,30,31,21,32,33,34,35,36,7] (fun j=>j=c) 16 [7,16] [is c,is (a:Int),is c,is (a:Int),is c,is (.pointer (some ⟨c,1,none⟩)),is (.pointer (some ⟨c,1+a,none⟩)),is (.int .u64 (f:Int)),is (.bool false),is (.tuple #[.int .u64 (o:Int),.bool P]),is (.tuple #[.int .u64 (o:Int),.bool P]),is (.int .u64 (o:Int)),is (.bool P),is c,is (.pointer (some ⟨c,1,none⟩)),is (.pointer (some ⟨c,1+a,none⟩)),dJ,is (.bool P)] _ rfl kR kR (a4.out) (fun w1 b6 K _ aj=>Bk.below K aj K.lt) (wT _ _) tA1 ?_ ?_
    · refine aV ?_;refine pH3 0 (.pointer (some c)) ?_;refine pH3 8 (.int .i64 (a:Int)) ?_;refine pH3 0 (.pointer (some c)) ?_;refine pH3 8 (.int .i64 (a:Int)) ?_;refine pV3 2 24 ?_;refine pV3 4 26 ?_;refine pW3 5 27 3 25 ?_;refine sC3 (fun _ y _ L _ _ _ i _ _ _ s=>?_) ?_
      · have u:=L rfl;have b9:_=_:=i 6 28 kR rfl;have X:y.cell? ⟨c,1+a,none⟩=some (.int .u64 (f:Int)):=(u.cell (1+a)).trans Q.out;go_simp;exact kq s rfl
      refine pH3 7 (.bool false) ?_;refine sC3 (fun _ y _ _ _ _ _ i _ _ _ s=>?_) ?_
      · have ba:_=_:=i 7 29 kR rfl;have bb:_=_:=i 8 30 kR rfl;go_simp;refine (aDl (x:=f) 0 false a1 oM y).mono ?_;rintro G b7 ⟨rfl,rfl⟩;rw [a8.out,aR.out];exact kq s rfl
      refine pV3 9 31 ?_;refine pV3 10 21 ?_;refine pV3 10 21 ?_;refine pV3 0 22 ?_;refine pV3 13 34 ?_;refine pW3 14 35 1 23 ?_;refine sC3 (fun _ y _ L _ _ _ i _ _ _ s=>?_) ?_
      · have u:=L rfl;have bd:_=_:=i 15 36 kR rfl;have bc:_=_:=i 11 32 kR rfl;have X:y.cell? ⟨c,1+a,none⟩=some (.int .u64 (f:Int)):=(u.cell (1+a)).trans Q.out;have au:=u.frozen (1+a);go_simp;exact s (.bool true) _ (bJ (Keep.setCell (F:=fun j=>j=c) (Keep.refl _ _) (p:=⟨c,1+a,none⟩) (.inl rfl) _)) (u.set (1+a) _)
      refine pV3 12 33 ?_;exact aH
    · intro ae I E i S;replace E:Keep (fun j=>j=c) wr I:=kD E;have ad:ae (.tmp 7)=.bool P:=i 17 7 rfl;obtain ⟨b5,N⟩:∃an,(aEo c (J.setIfInBounds (1+a) (.int .u64 (o:Int)))) an I:=S 16 dC;simp only [zqq];rw [ad];clear i S;have z:Bk I c 297 _:=N;rw [a7.out,zBw aE,zBw aE] at z;have W:=a5.out.trans E;obtain ⟨a3,a6⟩:=hqq2 z W;have R:IntKind.i64.wrap ((a:Int) - 1)=((0:Nat):Int):=(by have:=ar.out;rw [IntKind.wrap_i64];omega);clear z W N E;go_wp2_with fail;go_roundw
      case rel=>exact ⟨0,_,_,rfl,rfl,by omega,by omega,fun G=>by omega,fun _=>⟨a2.out.symm,aS.out.symm⟩,a3.out,a6.out⟩
      case measure=>have:=ar.out;simp [intOf];omega
  · obtain rfl:a=A:=oM
    have aX:∃f:Nat,(nI (n:Int) (w0 b) B)[1+a]?=some (.int .u64 (f:Int))/\f < 18446744073709551616/\(nI (n:Int) (w0 b) B).setIfInBounds (1+a) (.int .u64 ((nH f g C:Nat):Int))=nI (n:Int) (w0 (aG b e)) (w1 (aG b e))/\f.testBit g=b.getD e false:=by
        have q:=wV (n:Int) (w0 b) B a aD;have v:=fun o=>wU (n:Int) (w0 b) B o a aD;obtain H | H:a=0∨a=1:=oM
        · obtain ⟨R,D⟩:=af H;obtain ⟨aa,ab,ac⟩:=aQ.out H;rw [zBx H] at q;refine ⟨w0 b,q,aL.out,?_,ac⟩;rw [v,zBx H,zBx H,aa,ab,R,D]
        · obtain ⟨R,D⟩:=r H;obtain ⟨aa,ab,ac⟩:=aO.out H;have am:¬a=0:=oM;rw [zBw am] at q;refine ⟨B,q,by rw [D];exact ap.out,?_,by rw [D];exact ac⟩;rw [v,zBw am,zBw am,aa,ab,R,D]
    obtain ⟨f,q,a1,v,T⟩:=aX;obtain ⟨bv,b4⟩:=eqx g;subst b4;have b3:=aU;obtain ⟨o,M⟩:=eqx (nH f g C);obtain ⟨J,U⟩:=eqx (nI (n:Int) (w0 b) B);rw [M] at v;rw [U] at q v O;obtain ⟨Q,a7,a4,a8,a2,a5⟩:=hqq6 q v O M T Y;have bm:¬(a:Int) > (a:Int):=oM;have b0:(a:Int) < 2:=oM;have bu:IntKind.i64.wrap (a:Int)=(a:Int):=(by rw [IntKind.wrap_i64];omega);have bt:((e:Int)).tmod 64=(g:Int):=(by rw [Int.tmod_eq_emod_of_nonneg oM];exact aT);clear O Y q v M U r af T az;go_wp2_with fail;refine wp_region_any kR ?_;refine cT (pre:=(fun w1=>Bk w1 c 297 J)) (pJ:=(aEo c (J.setIfInBounds (1+a) (.int .u64 (o:Int))))) [38,39,40,41,42,43,44,45,46,47,48,49,50,51,37,52,53,54,55,56,7] (fun j=>j=c) 20 [9,20] [is c,is (e:Int),is (a:Int),is c,is (e:Int),is (a:Int),is c,is (.pointer (some ⟨c,1,none⟩)),is (.pointer (some ⟨c,1+a,none⟩)),is (.int .u64 (f:Int)),is (e:Int),is (g:Int),is (.bool C),is (.tuple #[.int .u64 (o:Int),.bool (f.testBit g)]),is (.tuple #[.int .u64 (o:Int),.bool (f.testBit g)]),is (.int .u64 (o:Int)),is (.bool (f.testBit g)),is c,is (.pointer (some ⟨c,1,none⟩)),is (.pointer (some ⟨c,1+a,none⟩)),dJ,is (.bool (f.testBit g))] _ rfl kR kR (a4.out) (fun w1 b6 K _ aj=>Bk.below K aj K.lt) (wT _ _) tA1 ?_ ?_
    · refine aV ?_;refine pH3 0 (.pointer (some c)) ?_;refine pH3 1 (.int .i64 (e:Int)) ?_;refine pV3 1 39 ?_;refine pH3 0 (.pointer (some c)) ?_;refine pH3 1 (.int .i64 (e:Int)) ?_;refine pV3 4 42 ?_;refine pV3 3 41 ?_;refine pV3 6 44 ?_;refine pW3 7 45 5 43 ?_;refine sC3 (fun _ y _ L _ _ _ i _ _ _ s=>?_) ?_
      · have u:=L rfl;have be:_=_:=i 8 46 kR rfl;have X:y.cell? ⟨c,1+a,none⟩=some (.int .u64 (f:Int)):=(u.cell (1+a)).trans Q.out;go_simp;exact kq s rfl
      refine pH3 1 (.int .i64 (e:Int)) ?_;refine pV3 10 48 ?_;refine pH3 7 (.bool C) ?_;refine sC3 (fun _ y _ _ _ _ _ i _ _ _ s=>?_) ?_
      · have bf:_=_:=i 9 47 kR rfl;have bg:_=_:=i 11 49 kR rfl;have bh:_=_:=i 12 50 kR rfl;go_simp;refine (aDl (x:=f) g C a1 b3 y).mono ?_;rintro G b7 ⟨rfl,rfl⟩;rw [a8.out];exact kq s rfl
      refine pV3 13 51 ?_;refine pV3 14 37 ?_;refine pV3 14 37 ?_;refine pV3 0 38 ?_;refine pV3 17 54 ?_;refine pW3 18 55 2 40 ?_;refine sC3 (fun _ y _ L _ _ _ i _ _ _ s=>?_) ?_
      · have u:=L rfl;have bj:_=_:=i 19 56 kR rfl;have bi:_=_:=i 15 52 kR rfl;have X:y.cell? ⟨c,1+a,none⟩=some (.int .u64 (f:Int)):=(u.cell (1+a)).trans Q.out;have au:=u.frozen (1+a);go_simp;exact s (.bool true) _ (bJ (Keep.setCell (F:=fun j=>j=c) (Keep.refl _ _) (p:=⟨c,1+a,none⟩) (.inl rfl) _)) (u.set (1+a) _)
      refine pV3 16 53 ?_;exact aH
    · intro ae I E i S;replace E:Keep (fun j=>j=c) wr I:=kD E;have ad:ae (.tmp 7)=.bool (f.testBit g):=i 21 7 rfl;obtain ⟨b5,N⟩:∃an,(aEo c (J.setIfInBounds (1+a) (.int .u64 (o:Int)))) an I:=S 20 dC;simp only [zqq];rw [ad];clear i S;have z:Bk I c 297 _:=N;rw [a7.out] at z;have W:=a5.out.trans E;have X:I.cell? c=some (.int .i64 (n:Int)):=(z.cell 0).trans rfl;have au:=z.frozen 0;have bn:=z.lt;obtain ⟨a3,a6⟩:=hqq2 z W;have R:IntKind.i64.wrap ((n:Int) - 1)=(n:Int) - 1:=(by rw [IntKind.wrap_i64];omega);rw [a2.out];clear z W N E;go_wp2_with fail;go_ret2;exact ⟨rfl,aN.out _ (aAh a3.out _),Keep.setCell (F:=fun j=>j=c) a6.out (p:=c) (.inl rfl) _⟩
end
end Go.Proofs.YtcoooelofcejbaaGreatDoor
