/- Lemmas of the walk. Conditions: each its own. -/
import Derived.Test.YtnmapianpjamnaaGreatDoorPk10
import Derived.Test.YtnmapianpjamnaaGreatDoorProg
set_option linter.all false
set_option maxRecDepth 100000
set_option maxHeartbeats 1000000
open Go.Proofs.Tryz
namespace Go.Proofs.YtnmapianpjamnaaGreatDoor
section
open Go.RowKit
def aX (a lv:Nat):Nat:=a / 2 ^(9 - lv)
def eP (a lv:Nat):Bool:=decide (a / 2 ^(8 - lv)% 2=1)
def eC (a:Nat) (w:World) (g:a < 257):
 Calls prog 91 #[(a:Int)] w fun b c=>b=.returned (.bool true)/\Below w.heap.size w c:=by
 have e:(0:Int)<=(a:Int):=oM;have f:(a:Int) < 257:=oM;go_enter func91,ntmps91;go_wp2;go_ret;exact ⟨rfl,Below.refl _ _⟩
def uK (b a:Nat):(b:Int)/ 2 ^ a=((b / 2 ^ a:Nat):Int):=by push_cast;rfl
def aDz (a:Nat) (c:a < 257):bits .and .i64 (a:Int) 1=((a % 2:Nat):Int):=by
 have b:=(bits_nat .i64 10 dC (fun f e b=>by rw [IntKind.wrap_i64];omega) a 1 oM oM).1;rw [show ((1:Nat):Int)=1 from rfl] at b;rw [b,Nat.and_one_is_mod]
def iO (a lv:Nat) (w:World) (e:a < 257) (j:lv<=9):
 Calls prog 92 #[(a:Int),(lv:Int)] w fun b f=>b=.returned (.int .i64 ((aX a lv:Nat):Int))/\Below w.heap.size w f:=by
 have g:¬((lv:Int) < 0):=oM;have i:¬((lv:Int) > 9):=oM;go_enter func92,ntmps92;go_wp2_with fail;refine (eC a _ e).mono ?_;rintro b w1 ⟨rfl,c⟩;go_wp2_with fail;go_ret;exact ⟨cZ (uK _ _),c⟩
def kC (a lv:Nat) (w:World) (e:a < 257) (o:lv < 9):
 Calls prog 93 #[(a:Int),(lv:Int)] w fun b k=>b=.returned (.bool (eP a lv))/\Below w.heap.size w k:=by
 have l:¬((lv:Int) < 0):=oM;have n:¬((lv:Int)>=9):=oM;go_enter func93,ntmps93;go_wp2_with fail;refine (eC a _ e).mono ?_;rintro b w1 ⟨rfl,i⟩;go_wp2_with fail;go_ret;refine ⟨kT ?_,i⟩;have j:a / 2 ^(8 - lv) < 257:=Nat.lt_of_le_of_lt (Nat.div_le_self _ _) e;rw [uK,aDz _ j];unfold eP;generalize a / 2 ^(8 - lv)% 2=f;by_cases c:f=1;subst c;rfl
 · have g:((f:Int)==1)=false:=(by simp;omega);rw [g];simp [c]
def wN (c:List Nat):∀a∈c.map sv,a.oneCell'=true:=by
 intro a b;obtain ⟨e,_,rfl⟩:=zAy.1 b;rfl
def nS (t:List UInt8):List Nat:=t.map (fun a=>a.toNat+1)
def aE (t:List UInt8):List Nat:=nS t++ [0]
def aK (t:List UInt8):(aE t).length=t.length+1:=by simp [aE,nS]
def gI (t:List UInt8):∀c∈aE t,c < 257:=by
 intro c b;unfold aE nS at b;rcases zCl.1 b with a | a;obtain ⟨e,_,rfl⟩:=zAy.1 a;have:=e.toNat_lt;omega;simp at a;omega
def aAt (a:UInt8) (w:World):
 Calls prog 107 #[.int .u8 (a.toNat:Int)] w fun b c=>b=.returned (.int .i64 ((a.toNat+1:Nat):Int))/\Below w.heap.size w c:=by
 have f:=a.toNat_lt;have e:IntKind.i64.wrap (a.toNat:Int)=(a.toNat:Int):=by rw [IntKind.wrap_i64];omega
 go_enter func107,ntmps107;go_wp2;go_ret;exact ⟨cZ oM,Below.refl _ _⟩
def oX (k ae:Nat) (f:Option Addr) (m q A:Nat) (t:List UInt8) (w:World) (v:Bk w k 22 #[.slice f m q]) (u:Rd w A 1 f m (t.map bv)) (a0:A<=w.heap.size) (ag:m<=1000):
 Calls prog 150 #[.slice (some k) 1 1] w fun E T=>∃g j,E=.returned (.slice g (m+1) j)/\Made T w.heap.size 3 1 g (m+1) j ((aE t).map sv)/\Below w.heap.size w T:=by
 obtain ⟨S,I,P,Q,R⟩:=info_parts fZ;have O:t.length=m:=by simpa using u.1
 have Z:w.cell? k=some (.slice f m q):=(v.cell 0).trans rfl;have a3:=v.lt;obtain ⟨Y,C⟩:=hqq2 (u.mono a0) O;clear v u O;go_enter func150,ntmps150;go_wp2_with fail;go_loopw [3,10] (fun z e wr=>∃a:Nat,a<=1/\e=.int .i64 a/\wr.ownsRow w.heap.size 3 1 z (if a=0 then 0 else m) ((if a=0 then [] else nS t).map sv)/\Below w.heap.size w wr) (fun _ e _=>1 -(intOf e).toNat)
 case atStart=>exact ⟨0,by omega,rfl,World.ownsRow_nil _ _ _ _,Below.refl _ _⟩
 case round=>
  obtain ⟨a,a4,rfl,b,c⟩:=hrel;have n:=c.size;rcases a with _ | a
  · have ad:wr.cell? k=some (.slice f m q):=(c.cell a3).trans Z;obtain ⟨i,W⟩:=hqq2 b c;clear b c;go_wp2_with fail;obtain ⟨D,a1⟩:∃D,D=wr:=⟨_,rfl⟩;subst a1;go_loopw [3,16] (fun z e U=>∃a:Nat,a<=m/\e=.int .i64 a/\U.ownsRow w.heap.size 3 1 z a ((nS (t.take a)).map sv)/\Below w.heap.size w U) (fun _ e _=>m -(intOf e).toNat)
    case atStart=>exact ⟨0,by omega,rfl,i.out,W.out⟩
    case round=>
        obtain ⟨a,a4,rfl,b,c⟩:=hrel;have n:=c.size;by_cases K:a < m
        · have a6:a < t.length:=(by rw [C.out];exact K);obtain ⟨o,y⟩:∃o,t[a]?=some o:=⟨t[a],zAa a6⟩;obtain ⟨ac,ah,ai,rfl,af,x,a2⟩:=(Y.out.below c).get K;rw [zAf,y] at x;simp at x;subst x;have N:t.take (a+1)=t.take a++ [o]:=(by rw [zAv,y];rfl);unfold bv at a2;obtain ⟨V,p⟩:=hqq2 N b;clear N y b;go_wp2_with fail;refine (aAt o _).mono ?_;rintro E w1 ⟨rfl,G⟩;have L:=aF p.out G;have H:=c.trans (G.mono n);have M:=H.size;have B:=lhd L;clear L;go_wp2_with (at_builtin;refine aZ _ rfl (.tmp 20) (.tmp 23) _ rfl w.heap.size 3 S (.int .i64 0) 1 8 underlying27 I P Q R rfl dC _ a _ rfl B.out rfl rfl (by simp [Value.oneCell']) (by unfold maxLen;omega) oM M ?_;intro aa ab s l a9 F);have r:=aS H B.out l M;clear l F;go_roundw
          case rel=>refine ⟨a+1,by omega,by go_num,?_,r⟩;rw [V.out,nS,zAz,zAz];exact s
          case measure=>simp [intOf];omega
        · have a7:a=m:=oM;subst a7;rw [zAg (by rw [C.out];omega)] at b;have p:=lhd b;clear b;go_wp2_with fail;go_roundw
          case rel=>exact ⟨1,by omega,by go_num,p.out,c⟩
          case measure=>simp [intOf]
  · have a5:a=0:=oM;subst a5;rw [zBv oM,zBv oM] at b;have i:=lhd b;have J:(aE t).map sv=(nS t).map sv++ [.int .i64 0]:=(by simp [aE,sv]);have X:=lhd J;clear b J;go_wp2_with (at_builtin;refine aZ _ rfl (.tmp 27) (.tmp 28) _ rfl w.heap.size 3 S (.int .i64 0) 1 8 underlying27 I P Q R rfl dC _ m _ rfl i.out rfl rfl (by simp [Value.oneCell']) (by unfold maxLen;omega) oM n ?_;intro aa ab s l a9 F);have r:=aS c i.out l n;obtain ⟨g,j,rfl,a8⟩:=aO s;go_ret;exact ⟨g,j,rfl,by rw [X.out];exact a8,r⟩
def pO (j:Option Addr) (a c l:Nat) (k:List Nat) (w:World) (i:Rd w l 1 j a (k.map sv)) (r:l<=w.heap.size) (F:a<=1073741824):
 Calls prog 151 #[.slice j a c] w fun q o=>∃f g,q=.returned (.slice f a g)/\Made o w.heap.size 3 1 f a g (k.map sv)/\Below w.heap.size w o:=by
 obtain ⟨D,v,A,B,C⟩:=info_parts fZ;have G:∀(w:World) (b:Option Addr) (a c:Nat),(binOp .eql 27 (.slice b a c) (.slice none 0 0)).run prog w=.ok (.bool b.isNone) w:=fun w b a c=>Lib.run_eql_slice_nil w _ _ b a c _ _ underlying27;rcases j with _ | b
 · have z:a=0:=by
    rcases zBa a with e | e;exact e
    · obtain ⟨_,_,e,_⟩:=i.2 e;cases e
   subst z;have x:k= []:=(by have:=i.1;simp only [zBc,Nat.zero_mul] at this;exact zBk this);subst x;go_enter func151,ntmps151;go_wp2;go_ret;exact ⟨none,0,rfl,⟨World.ownsRow_nil _ _ _ _,Rd.nil _ _ _ _,zAs _,zAp _⟩,Below.refl _ _⟩
 · have p:=lhd i;clear i;go_enter func151,ntmps151;go_wp2_with (at_builtin;refine bK _ rfl (.tmp 5) (.tmp 6) _ rfl w.heap.size 3 D (.int .i64 0) 1 8 underlying27 v A B C rfl dC (.slice (some ⟨w.heap.size,0,none⟩) 0 0) 0 [] rfl (qB w 3 1) w.heap.size (some b) a c _ rfl ((p.out.mono r).alloc nL _) (wN _) (by unfold maxLen;omega) oM (by simp) ?_;intro H I n u E);have s:=aS ((Below.refl w.heap.size w).alloc nL _) (qB w 3 1) u (by simp);rw [zBi,List.nil_append] at n;obtain ⟨f,g,rfl,y⟩:=aO n;go_wp2;go_ret;exact ⟨f,g,rfl,y,s⟩
end
section
open Go.RowKit Go Go.Sort
def sufLt (a:List Nat) (b c:Nat):Prop:=∃w,ltW (aN a) w b c
def rD {a:Nat->Int} {w e b c:Nat} (f:ltW a w b c) (k:w<=e):ltW a e b c:=by
 obtain ⟨i,j,g⟩:=f;exact ⟨i,by omega,g⟩
def sufLt.asymm {c:List Nat} {e f:Nat} (a:sufLt c e f) (b:sufLt c f e):False:=by
 obtain ⟨w,a⟩:=a;obtain ⟨g,b⟩:=b;exact (rD a (Nat.le_max_left w g)).asymm (rD b (Nat.le_max_right w g))
def sufLt.trans {c:List Nat} {e f g:Nat} (a:sufLt c e f) (b:sufLt c f g):sufLt c e g:=by
 obtain ⟨w,a⟩:=a;obtain ⟨i,b⟩:=b;exact ⟨_,(rD a (Nat.le_max_left w i)).trans (rD b (Nat.le_max_right w i))⟩
structure IsSuf (l rs:List Nat):Prop where
 perm:rs.Perm (List.range l.length)
 sorted:rs.Pairwise (sufLt l)
def IsSuf.len {a b:List Nat} (c:IsSuf a b):b.length=a.length:=by simpa using c.perm.length_eq
def IsSuf.lt {a c:List Nat} (e:IsSuf a c) {b:Nat} (f:b∈c):b < a.length:=by simpa using e.perm.mem_iff.1 f
def IsSuf.mem {a c:List Nat} (e:IsSuf a c) {b:Nat} (f:b < a.length):b∈c:=e.perm.mem_iff.2 (by simpa using f)
def IsSuf.nodup {c a:List Nat} (b:IsSuf c a):a.Nodup:=b.perm.nodup_iff.2 List.nodup_range
def IsSuf.unique {a e f:List Nat} (b:IsSuf a e) (c:IsSuf a f):e=f:=by
 refine List.Perm.eq_of_pairwise (le:=sufLt a) ?_ b.sorted c.sorted (b.perm.trans c.perm.symm);intro j k _ _ g i;exact (g.asymm i).elim
def dT (m:Nat) (a:Fin (m+1)):Value:=.int .i64 ((a.val:Nat):Int)
def kW (m:Nat) (a:Fin (m+1)):(dT m a).oneCell'=true:=rfl
section
variable {α : Type} [Inhabited α] {enc : α -> Value} {w : World} {blk : Nat} {t : TypeId} {d d' : Array α}
def aBn (d:Array α) (a:Nat) (b:a < d.size):d[a]! =d[a]:=getElem!_pos d a b
def rB (c:d'.size=d.size):putCells enc 0 d' (d.map enc)=d'.map enc:=by
 apply Array.ext
 · simp [putCells,c]
 · intro e f a;have b:e < d'.size:=(by simpa using a);simp [putCells,b,aBn]
def aB1 (a:Bk w blk t (d.map enc)) (f:d'.size=d.size) (b:Nat) (g:Array Obj):Bk (sortWorld enc w blk 0 b d' g) blk t (d'.map enc):=by
 have e:=a.lt;unfold Bk at a⊢;have c:(putRow enc (Sort.ahead w b) blk 0 d').heap[blk]?=some (.cells (d'.map enc) t (0,0)):=by show (w.heap.modify blk _)[blk]?=_;rw [Array.getElem?_modify,zBw rfl,a];simp only [Option.map_some,onCells];rw [rB f]
 unfold sortWorld;rw [heap_grow_old _ _ (by show blk < (w.heap.modify blk _).size;simpa using e)];exact c
def iW (k:blk < w.heap.size) (j i:Nat) (d':Array α) (b:Array Obj):Keep (fun c=>c=blk) w (sortWorld enc w blk j i d' b):=by
 refine ⟨rfl,rfl,rfl,?_,fun a f g=>?_⟩
 · show w.heap.size<=((w.heap.modify blk _)++b).size;simp
 · unfold sortWorld;rw [heap_grow_old _ _ (by show a < (w.heap.modify blk _).size;simpa using f)];show (w.heap.modify blk _)[a]?=_;rw [Array.getElem?_modify,zBv (fun e=>g e.symm)]
def aBM (a:Bk w blk t (d.map enc)):Holds enc w blk 0 d:=by
 intro c b;rw [zBi];refine ⟨?_,a.frozen c⟩;rw [a.cell];simp [b,aBn]
end
def wH {α:Type} [Inhabited α] {d d':Array α} (a:PermIn 0 d.size d d'):d'.toList.Perm d.toList:=by
 have e:=a.2.2;have b:d'.extract 0 d.size=d':=by rw [<-a.1];exact Array.extract_size
 have c:d.extract 0 d.size=d:=Array.extract_size;rwa [b,c] at e
def cD {m:Nat} (d:Array (Fin (m+1))) (a:Nat):Nat:=(d[a]!).val
structure RowsOk (m:Nat) (d:Array (Fin (m+1))):Prop where
 size:d.size=m+1
 perm:d.toList.Perm (List.finRange (m+1))
def fW {m:Nat} {d:Array (Fin (m+1))} {i:Nat} (a:i < d.size):(d.toList.map (·.val))[i]?=some (cD d i):=by
 rw [zAf,Array.getElem?_toList,zAq a];simp [cD,aBn d i a]
section
variable {m : Nat} {d : Array (Fin (m + 1))}
def RowsOk.lt (b:RowsOk m d) (a:Nat):cD d a < m+1:=(d[a]!).isLt
def RowsOk.vals (c:RowsOk m d):(d.toList.map (·.val)).Perm (List.range (m+1)):=by
 have a:=c.perm.map (·.val);have b:(List.finRange (m+1)).map (·.val)=List.range (m+1):=by
  apply List.ext_getElem
  · simp
  · intro f a e;simp
 rwa [b] at a
def RowsOk.nodup (a:RowsOk m d):(d.toList.map (·.val)).Nodup:=a.vals.nodup_iff.2 List.nodup_range
def RowsOk.inj (a:RowsOk m d) {i j:Nat} (b:i < m+1) (e:j < m+1) (c:cD d i=cD d j):i=j:=by
 refine (List.getElem?_inj (l:=d.toList.map (·.val)) (by simpa [a.size] using b) a.nodup).1 ?_;rw [fW (by rw [a.size];exact b),fW (by rw [a.size];exact e),c]
def RowsOk.sur (c:RowsOk m d) {p:Nat} (k:p < m+1):∃a,a < m+1/\cD d a=p:=by
 have g:p∈d.toList.map (·.val):=c.vals.mem_iff.2 (by simpa using k);obtain ⟨a,e,j⟩:=List.getElem_of_mem g;have f:a < m+1:=by simpa [c.size] using e
 refine ⟨a,f,?_⟩;have b:=fW (d:=d) (i:=a) (by rw [c.size];exact f);rw [zAa e,j] at b;injection b with b;exact b.symm
def RowsOk.cell (b:RowsOk m d) {a:Nat} (c:a < m+1):(d.map (dT m))[a]?=some (.int .i64 ((cD d a:Nat):Int)):=by
 have:a < d.size:=by rw [b.size];exact c
 simp [dT,cD,this,aBn]
def RowsOk.of_perm {d':Array (Fin (m+1))} (a:RowsOk m d) (b:PermIn 0 d.size d d'):RowsOk m d':=
 ⟨b.1.trans a.size,(wH b).trans a.perm⟩
def RowsOk.suf (c:RowsOk m d) {l:List Nat} (p:l.length=m+1) {w:Nat} (q:∀a b,a < b->b < m+1->ltW (aN l) w (cD d a) (cD d b)):IsSuf l (d.toList.map (·.val)):=by
 refine ⟨by rw [p];exact c.vals,?_⟩;rw [zAr];intro a b g j o;have n:a < m+1:=by simpa [c.size] using g
 have k:b < m+1:=by simpa [c.size] using j
 have e:=fW (d:=d) (i:=a) (by rw [c.size];exact n);have f:=fW (d:=d) (i:=b) (by rw [c.size];exact k);rw [zAa g] at e;rw [zAa j] at f;injection e with e;injection f with f;rw [e,f];exact ⟨w,q a b o k⟩
end
def oB (m:Nat):Array (Fin (m+1)):=(List.finRange (m+1)).toArray
def aAY (m:Nat):RowsOk m (oB m):=⟨by simp [oB],by simp [oB]⟩
def aA3 {b:Nat} {cs:Array Value} {f:Nat->Nat} {v:Nat->Nat} (z:b<=cs.size) (r:∀a,a < b->f a < b) (q:∀a,a < b->cs[f a]?=some (.int .i64 ((v a:Nat):Int))) (s:∀i,i < b->∃c,c < b/\f c=i):
 ∃j:List Nat,j.length=b/\(∀a,a < b->j[f a]?=some (v a))/\(∀(a:Nat) n,(j.map sv)[a]?=some n->cs[a]?=some n)/\∀u∈j,∃a,a < b/\u=v a:=by
 let p:Nat->Nat:=fun i=>match cs[i]? with
  | some (.int _ o)=>o.toNat
  | _=>0
 have k:∀a,a < b->p (f a)=v a:=by intro a g;show (match cs[f a]? with | some (.int _ o)=>o.toNat | _=>0)=v a;rw [q a g];simp
 refine ⟨(List.range b).map p,by simp,fun a g=>?_,fun a n l=>?_,fun u y=>?_⟩
 · simp [r a g,k a g]
 have g:a < b:=(by have:=(zAc.1 l).1;simpa using this);obtain ⟨c,e,rfl⟩:=s a g;simp [r c e,k c e] at l;rw [q c e,<-l];rfl;obtain ⟨i,x,rfl⟩:=zAy.1 y;obtain ⟨c,e,rfl⟩:=s i (by simpa using x);exact ⟨c,e,k c e⟩
def cfF (m w:Nat) (a:List Nat) (b c:Fin (m+1)):Int:=fN (aN a) w b.val c.val
def aCQ {g e:List Nat} {w:Nat} (m:Nat) (b:RankOk (aN g) (aN e) w):SWO (ltOf (cfF m w e)) where
 irrefl x:=by unfold ltOf cfF;rw [decide_eq_false_iff_not,nE b];exact fun b=>b.irrefl
 trans x y z h1 h2:=by
  unfold ltOf cfF at*
  rw [decide_eq_true_iff,nE b] at*
  exact h1.trans h2
 ntrans x y z h1 h2:=by
  unfold ltOf cfF at*
  rw [decide_eq_false_iff_not,nE b] at*
  intro f;rcases kY (a:=aN g) (w+w) x.val y.val with c | c | c;exact h1 c;exact h2 (ltW.eq_left c.symm f);exact h2 (c.trans f)
def aAQ {e c:List Nat} {w m:Nat} {d:Array (Fin (m+1))} (f:RankOk (aN e) (aN c) w) (j:d.size=m+1) (i:SortedIn (ltOf (cfF m w c)) 0 (m+1) d) (a:Nat) (g:a+1 < m+1):¬ltW (aN e) (w+w) (cD d (a+1)) (cD d a):=by
 have b:=i a (a+1) (zAp _) oM g;unfold ltOf cfF at b;rw [decide_eq_false_iff_not,nE f] at b;exact b
end
section
open Go.RowKit
@[irreducible] def tcells (L:List Nat):Array Value:=Array.ofFn (n:=258) fun i=>.int .i64 (((if i.val < 257 then L.count i.val else L.length):Nat):Int)
def dJ (b:List Nat) {a:Nat} (c:a < 257):(tcells b)[a]?=some (.int .i64 ((b.count a:Nat):Int)):=by
 unfold tcells;rw [Array.getElem?_ofFn,dif_pos oM,zBw c]
def gG (a:List Nat):(tcells a)[257]?=some (.int .i64 ((a.length:Nat):Int)):=by
 unfold tcells;rw [Array.getElem?_ofFn,dif_pos oM];rfl
def eF (a:List Nat):(tcells a).size=258:=by unfold tcells;simp
def nQ (c:Array Value) (b:List Nat) (j:c.size=258) (g:∀e,e < 257->c[e]?=some (.int .i64 ((b.count e:Nat):Int))) (i:c[257]?=some (.int .i64 ((b.length:Nat):Int))):c=tcells b:=by
 apply Array.ext_getElem?;intro f;rcases zBe f 257 with a | a
 · rw [g f a,dJ b a]
 · rcases Nat.eq_or_lt_of_le a with a | a
   · rw [<-a,i,gG]
   · rw [Array.getElem?_eq_none oM,Array.getElem?_eq_none (by rw [eF];omega)]
def vS (b:List Nat) (a:Nat) (g:a < 257):((tcells b).setIfInBounds a (.int .i64 (((b.count a+1:Nat)):Int))).setIfInBounds 257 (.int .i64 ((b.length+1:Nat):Int))=tcells (b++ [a]):=by
 apply nQ
 · simp [eF]
 · intro e f;rw [zCd oM];by_cases c:a=e
   · subst c;rw [Array.getElem?_setIfInBounds_self_of_lt (by rw [eF];omega)];simp
   rw [zCd c,dJ b f];have: [a].count e=0:=(by simp [c]);rw [zCb,this];rfl
 · rw [Array.getElem?_setIfInBounds_self_of_lt (by simp [eF])];simp
def mV (e:Nat) (b:List Nat) (a:Nat) (w:World) (g:Bk w e 236 (tcells b)) (j:a < 257):
 Calls prog 167 #[e,(a:Int)] w fun f k=>f=.returned (.int .i64 ((b.count a:Nat):Int))/\Below w.heap.size w k:=by
 have c:=lhd g;clear g;go_enter func167,ntmps167;go_wp2_with fail;refine (eC a _ j).mono ?_;rintro f w1 ⟨rfl,i⟩;have l:w1.cell? ⟨e,a,none⟩=some (.int .i64 ((b.count a:Nat):Int)):=((c.out.below i c.out.lt).cell a).trans (dJ b j);have n:¬((a:Int) < 0):=oM;have o:((a:Int) < 257):=oM;clear c;go_wp2_with fail;go_ret;exact ⟨rfl,i⟩
def mR (c:List Nat) (b:Nat):c.countP (fun a=>decide (a < b+1))=c.countP (fun a=>decide (a < b))+c.count b:=by
 induction c with
 | nil=>rfl
 | cons a j i=>
   rw [zBm,zBm,List.count_cons,i];by_cases g:a < b;have e:a < b+1:=oM;have f:a≠b:=oM;simp [g,e,f];omega
   · by_cases e:a=b;subst e;simp;omega
     · have f:¬a < b+1:=oM;simp [g,e,f]
def iN (i:Nat) (c:List Nat) (b:Nat) (w:World) (p:Bk w i 236 (tcells c)) (E:b < 257) (y:c.length<=1000):
 Calls prog 168 #[i,(b:Int)] w fun o B=>o=.returned (.int .i64 ((c.countP (fun e=>decide (e < b)):Nat):Int))/\Below w.heap.size w B:=by
 have n:=lhd p;clear p;have F:max (b:Int) 0=(b:Int):=oM;have G:min (b:Int) 257=(b:Int):=oM;go_enter func168,ntmps168;go_wp2_with fail;go_loopw [5,10] (fun A l wr=>∃a:Nat,a<=b/\l=.int .i64 a/\A=.int .i64 ((c.countP (fun e=>decide (e < a)):Nat):Int)/\Below w.heap.size w wr) (fun _ l _=>b -(intOf l).toNat)
 case atStart=>exact ⟨0,by omega,rfl,by simp,Below.refl _ _⟩
 case round=>
  obtain ⟨a,C,rfl,rfl,f⟩:=hrel;have z:=f.size;by_cases D:a < b
  · go_wp2_with fail;refine (mV i c a wr (n.out.below f n.out.lt) oM).mono ?_;rintro o w1 ⟨rfl,u⟩;have v:=f.trans (u.mono z);have g:=mR c a;have q:c.countP (fun e=>decide (e < a+1))<=1000:=zAk zBh y;obtain ⟨r,j⟩:∃r,c.countP (fun e=>decide (e < a))=r:=⟨_,rfl⟩;obtain ⟨H,k⟩:=eqx (c.count a);rw [g] at q;rw [j,k] at g q;rw [k]
    try rw [j]
    have s:=lhd g;clear g j k;go_wp2_with fail;go_roundw
    case rel=>exact ⟨a+1,by omega,by go_num,by rw [s.out];exact dH oM,v⟩
    case measure=>simp [intOf];omega
  · have x:a=b:=oM;subst x;go_wp2_with fail;go_ret;exact ⟨rfl,f⟩
def rX (a:Nat) (c:List Nat) (b:Nat) (w:World) (g:Bk w a 236 (tcells c)) (n:b < 257) (I:c.length<=1000):
 Calls prog 177 #[a,(b:Int),.int .i64 1] w fun G J=>G=.returned (.int .i64 0)/\Bk J a 236 (tcells (c++ [b]))/\Keep (fun i=>i=a) w J:=by
 have v:=lhd g;clear g;have a5:¬((b:Int) < 0):=oM;have a6:((b:Int) < 257):=oM;obtain ⟨f,u⟩:=eqx (c.count b);obtain ⟨B,s⟩:=eqx c.length;have a8:f<=1000:=by rw [<-u];exact zAk zBu I
 rw [s] at I;have z:=vS c b n;rw [u,s] at z;obtain ⟨K,x,E⟩:=hqq3 z u s;clear z u s;go_enter func177,ntmps177;go_wp2_with fail;refine (eC b _ n).mono ?_;rintro G w1 ⟨rfl,A⟩;have r:=v.out.below A v.out.lt;have S:w1.cell? ⟨a,b,none⟩=some (.int .i64 (f:Int)):=by rw [<-x.out];exact (r.cell b).trans (dJ c n)
 have T:w1.cell? ⟨a,257,none⟩=some (.int .i64 (B:Int)):=by rw [<-E.out];exact (r.cell 257).trans (gG c)
 have a9:¬((1:Int) < -(f:Int)):=oM;have aa:¬((1:Int) > 2147483648 -(B:Int)):=oM;obtain ⟨L,N⟩:=hqq2 A r;clear A r v;go_wp2_with fail;refine wp_region_any kR ?_;refine dF [33,34,35,36,37,38,39,40,41,42,43] (fun i=>i=a) 11 [5,11] (fun j=>Bk j a 236 (tcells c)) (fun _ j=>Bk j a 236 ((tcells c).setIfInBounds b (.int .i64 ((f+1:Nat):Int)))) [is a,is (b:Int),is a,is a,is (.pointer (some ⟨a,b,none⟩)),is (f:Int),is (.int .i64 1),is (.int .i64 ((f+1:Nat):Int)),is a,is a,is (.pointer (some ⟨a,b,none⟩)),dU] _ _ rfl kR kR (N.out) (fun j ac g _ P=>Bk.below g P g.lt) (fun _ _ _ g Q=>Bk.below g Q g.lt) tA1 ?_ ?_
 · refine bN ?_;refine pH3 0 (.pointer (some a)) ?_;refine pH3 1 (.int .i64 (b:Int)) ?_;refine pV3 0 33 ?_;refine pV3 2 35 ?_;refine pW3 3 36 1 34 ?_;refine sC3 (fun _ C _ y _ _ _ e _ _ _ k=>?_) ?_
   · have l:=y rfl;have X:_=_:=e 4 37 kR rfl;have V:C.cell? ⟨a,b,none⟩=some (.int .i64 (f:Int)):=(by rw [<-x.out];exact (l.cell b).trans (dJ c n));go_simp;exact kq k rfl
   refine pH3 2 (.int .i64 1) ?_;refine sC3 (fun _ _ _ _ _ _ _ e _ _ _ k=>?_) ?_
   · have Y:_=_:=e 5 38 kR rfl;have Z:_=_:=e 6 39 kR rfl;go_simp;exact k _ _ (aC bR) (dH (by rw [IntKind.wrap_i64];omega))
   refine pV3 0 33 ?_;refine pV3 8 41 ?_;refine pW3 9 42 1 34 ?_;refine sC3 (fun _ C _ y _ _ _ e _ _ _ k=>?_) ?_
   · have l:=y rfl;have a1:_=_:=e 10 43 kR rfl;have a0:_=_:=e 7 40 kR rfl;have W:C.cell? ⟨a,b,none⟩=some (.int .i64 (f:Int)):=(by rw [<-x.out];exact (l.cell b).trans (dJ c n));have a4:=l.frozen b;go_simp;exact k (.bool true) _ (cK (Keep.setCell (F:=fun i=>i=a) (Keep.refl _ _) (p:=⟨a,b,none⟩) (.inl rfl) _)) (l.set b _)
   exact aP
 · intro a2 D q e H;replace q:Keep (fun i=>i=a) w1 D:=kD q;obtain ⟨ab,o⟩:∃R,(fun _ j=>Bk j a 236 ((tcells c).setIfInBounds b (.int .i64 ((f+1:Nat):Int)))) R D:=H 11 dC;simp only [zqq];clear e H;have U:D.cell? ⟨a,257,none⟩=some (.int .i64 (B:Int)):=(by refine (o.cell 257).trans ?_;rw [zCd oM,<-E.out];exact gG c);have a3:=o.frozen 257;obtain ⟨O,M⟩:=hqq2 o q;have a7:=o.lt;clear o q;go_wp2_with fail;go_ret;refine ⟨rfl,?_,?_⟩;rw [<-K.out];exact O.out.set 257 _;exact ((Keep.of_below L.out).trans M.out).setCell (.inl rfl) _
def vQ:tcells []=Tryz.zeroCells236:=by kernel_rfl
def lH (q:Option Addr) (m I r:Nat) (b:List Nat) (w:World) (n:Rd w r 1 q m (b.map sv)) (J:r<=w.heap.size) (V:m<=1000) (u:∀e∈b,e < 257):
 Calls prog 166 #[.slice q m I] w fun k B=>∃c,k=.returned (.tuple #[.pointer (some ⟨c,0,none⟩),.int .i64 0])/\w.heap.size<=c/\Bk B c 236 (tcells b)/\Below w.heap.size w B:=by
 have y:b.length=m:=by simpa using n.1
 obtain ⟨G,D,s,C⟩:=hqq4 n u y J;clear n u y;go_enter func166,ntmps166;go_wp2_with fail;obtain ⟨c,v⟩:=eqx w.heap.size;have M:Bk (w.alloc (.cells Tryz.zeroCells236 236)) c 236 (tcells (b.take 0)):=by rw [List.take_zero,vQ,<-v];exact Bk.new _ _ _
 have K:=(Below.refl w.heap.size w).alloc nL (.cells Tryz.zeroCells236 236)
 try rw [v]
 go_loopw [12] (fun p wr=>∃a:Nat,a<=m/\p=.int .i64 a/\Bk wr c 236 (tcells (b.take a))/\Below w.heap.size w wr) (fun p _=>m -(intOf p).toNat)
 case atStart=>exact ⟨0,by omega,rfl,M,K⟩
 case round=>
  obtain ⟨a,U,rfl,g,f⟩:=hrel;have R:=f.size;by_cases z:a < m
  · have O:a < b.length:=(by rw [s.out];exact z);obtain ⟨e,i⟩:∃e,b[a]?=some e:=⟨b[a],zAa O⟩;obtain ⟨H,W,X,rfl,T,o,N⟩:=((G.out.mono C.out).below f).get z;rw [zAf,i] at o;simp at o;subst o;have Q:e < 257:=D.out e (zAd i);have A:b.take (a+1)=b.take a++ [e]:=(by rw [zAv,i];rfl);have S:(b.take a).length<=1000:=(by rw [zAj];omega);unfold sv at N;obtain ⟨E,j⟩:=hqq2 A g;clear A g i;go_wp2_with fail;refine (rX c (b.take a) e _ j.out Q S).mono ?_;rintro k w1 ⟨rfl,l,x⟩;have L:Below w.heap.size w w1:=f.trans (x.to_below R (fun H f k=>by omega));rw [<-E.out] at l;have F:=lhd l;clear l x;go_wp2_with fail;go_roundw
    case rel=>exact ⟨a+1,by omega,by go_num,F.out,L⟩
    case measure=>simp [intOf];omega
  · have P:a=m:=oM;subst P;rw [zAg (by rw [s.out];omega)] at g;have j:=lhd g;clear g;go_wp2_with fail;go_ret2;exact ⟨c,rfl,by omega,j.out,f⟩
def aR (a:List Nat) (lv b:Nat):List Bool:=(a.filter fun c=>aX c lv==b).map (eP · lv)
def lX (a lv:Nat) (f:lv < 9):aX a (lv+1)=2*aX a lv+(if eP a lv then 1 else 0):=by
 unfold aX eP;have c:9 -(lv+1)=8 - lv:=oM;have e:9 - lv=(8 - lv)+1:=oM;rw [c,e,Nat.pow_succ,<-Nat.div_div_eq_div_mul];generalize a / 2 ^(8 - lv)=q;by_cases b:q % 2=1;simp [b];omega;simp [b];omega
def lW (a:Nat) (b:a < 257):aX a 0=0:=by
 unfold aX;exact Nat.div_eq_of_lt oM
def lY (a:Nat):aX a 9=a:=by
 unfold aX;simp
def kV (a lv:Nat) (b:a < 257) (c:lv<=9):aX a lv < 2 ^ lv:=by
 unfold aX;rw [Nat.div_lt_iff_lt_mul (Nat.pos_of_ne_zero (by simp)),<-Nat.pow_add,show lv+(9 - lv)=9 by omega];omega
def xK (e:List Nat) (lv a:Nat) (j:lv < 9):(aR e lv (aX a lv)).count (eP a lv)=e.countP (fun l=>aX l (lv+1)==aX a (lv+1)):=by
 induction e with
 | nil=>rfl
 | cons b p k=>
   have f:=lX b lv j;have g:=lX a lv j;unfold aR at k⊢;rw [zBm,<-k,List.filter_cons];by_cases c:aX b lv=aX a lv
   · rw [zBw (by simp [c]),List.map_cons,List.count_cons];by_cases i:eP b lv=eP a lv
     · have:aX b (lv+1)=aX a (lv+1):=(by rw [f,g,c,i]);simp [i,this]
     · have:aX b (lv+1)≠aX a (lv+1):=(by rw [f,g,c];cases n:eP b lv <;> cases o:eP a lv <;> simp_all);simp [i,this]
   · rw [zBv (by simp [c])];have:aX b (lv+1)≠aX a (lv+1):=(by rw [f,g];cases eP b lv <;> cases eP a lv <;> simp <;> omega);simp [this]
def aAn (c:List Nat) (lv b a:Nat):(aR c lv b).take ((c.take a).countP fun j=>aX j lv==b)=aR (c.take a) lv b:=by
 induction c generalizing a with
 | nil=>simp [aR]
 | cons f k i=>
   rcases a with _ | a
   · simp [aR]
   · have:=i a;unfold aR at this⊢;rw [List.take_succ_cons,zBm,List.filter_cons,List.filter_cons];by_cases e:aX f lv=b
     · simp only [e,beq_self_eq_true,if_true,List.map_cons,List.take_succ_cons,this]
     · have g:(aX f lv==b)=false:=(by simp [e]);simp only [g,Bool.false_eq_true,if_false,zBp,this]
def oO (a:List Nat) (lv b:Nat):(aR a lv b).length=a.countP fun c=>aX c lv==b:=by
 unfold aR;rw [zBc,List.countP_eq_length_filter]
def fK (a:List Nat) (b e lv:Nat):Nat:=(a.take b).countP fun c=>aX c lv==aX e lv
def mF (a:List Nat) (b e:Nat) (j:b<=a.length) (f:∀c∈a,c < 257) (g:e < 257):fK a b e 0=b:=by
 unfold fK;rw [List.countP_eq_length.2 (fun c i=>by
  have:=f c (List.mem_of_mem_take i);simp [lW _ this,lW _ g]),zAj]
 omega
def mG (b:List Nat) (c a lv:Nat) (e:lv < 9):((aR b lv (aX a lv)).take (fK b c a lv)).count (eP a lv)=fK b c a (lv+1):=by
 unfold fK;rw [aAn,xK _ _ _ e]
def aCw (a:List Nat) (b c lv:Nat):fK a b c lv<=(aR a lv (aX c lv)).length:=by
 unfold fK;rw [oO];exact (List.take_sublist b a).countP_le
def qL (a:List Nat) (b c:Nat):fK a b c 9=(a.take b).count c:=by
 unfold fK;rw [List.count_eq_countP];congr 1;funext s;rw [lY,lY]
def cC (b:Nat->Nat) (lv m:Nat):List Value:=(List.range m).flatMap fun a=> [.pointer (some ⟨b a,0,none⟩),.int .i64 (lv:Int),.int .i64 (a:Int)]
def eH (a:Nat->Nat) (lv m:Nat):cC a lv (m+1)=cC a lv m++ [.pointer (some ⟨a m,0,none⟩),.int .i64 (lv:Int),.int .i64 (m:Int)]:=by
 unfold cC;rw [List.range_succ,List.flatMap_append];simp
def nW (a:Nat->Nat) (lv m:Nat):(cC a lv m).length=m*3:=by
 induction m with
 | zero=>rfl
 | succ m b=>rw [eH,zAi,b];simp;omega
def fE (b:Nat->Nat) (lv m a:Nat) (k:a < m):(cC b lv m)[a*3]?=some (.pointer (some ⟨b a,0,none⟩))/\(cC b lv m)[a*3+1]?=some (.int .i64 (lv:Int))/\(cC b lv m)[a*3+2]?=some (.int .i64 (a:Int)):=by
 induction m with
 | zero=>omega
 | succ m j=>
   rw [eH];by_cases e:a=m;subst e;have c:=nW b lv a;refine ⟨?_,?_,?_⟩;rw [zAo oM,c,Nat.sub_self];rfl;rw [zAo oM,c,show a*3+1 - a*3=1 by omega];rfl;rw [zAo oM,c,show a*3+2 - a*3=2 by omega];rfl;have c:=nW b lv m;obtain ⟨f,g,i⟩:=j oM;refine ⟨?_,?_,?_⟩;rw [zAn oM];exact f;rw [zAn oM];exact g;rw [zAn oM];exact i
def qV (b c:Nat->Nat) (lv m:Nat) (e:∀a,a < m->b a=c a):cC b lv m=cC c lv m:=by
 induction m with
 | zero=>rfl
 | succ m f=>rw [eH,eH,f (fun a g=>e a oM),e m oM]
def ShelfRow (w:World) (c:Nat) (f:Value) (e:List Nat) (lv m:Nat):Prop:=
 ∃(b:Nat->Nat),w.ownsRow c 143 3 f m (cC b lv m)/\∀a,a < m->c<=b a/\TreeAt w (b a) (aR e lv a)
def ShelfRow.vis {w w':World} {a:Nat} {i:Value} {b:List Nat} {lv m:Nat} (k:ShelfRow w a i b lv m) (f:Vis w w'):ShelfRow w' a i b lv m:=by
 obtain ⟨j,l,c⟩:=k;exact ⟨j,f.own l dC dC,fun g e=>⟨(c g e).1,(c g e).2.vis f⟩⟩
def ShelfRow.below {w e:World} {a:Nat} {c:Value} {b:List Nat} {lv m:Nat} (f:ShelfRow w a c b lv m) (g:Below w.heap.size w e):ShelfRow e a c b lv m:=f.vis (Vis.of_below g)
def WaveAt (w:World) (a e:Nat) (b:List Nat):Prop:=
 a<=e/\∃(c:Nat->Value) (f:Int),Bk w e 135 (wcells c (b.length:Int) f)/\∀lv,lv < 9->ShelfRow w a (c lv) b lv (2 ^ lv)
def WaveAt.vis {w w':World} {a c:Nat} {b:List Nat} (g:WaveAt w a c b) (e:Vis w w'):WaveAt w' a c b:=by
 obtain ⟨i,f,p,j,k⟩:=g;obtain ⟨o,l⟩:=e.waveC j;exact ⟨i,f,o,l,fun lv n=>(k lv n).vis e⟩
def WaveAt.below {w e:World} {a c:Nat} {b:List Nat} (f:WaveAt w a c b) (g:Below w.heap.size w e):WaveAt e a c b:=f.vis (Vis.of_below g)
abbrev VB (a:Nat):World->World->Prop:=VisK (fun b=>a<=b)
def bD {b:Nat} {w c:World} (a:VB b w.drew c):VB b w c:=⟨⟨a.1.os,a.1.tape,a.1.output,a.1.size,a.1.block⟩,⟨a.2.os,a.2.tape,a.2.output,a.2.size,a.2.block⟩⟩
def VB.to_below {a:Nat} {w b:World} (e:VB a w b) (f:a<=w.heap.size):Below a w b:=e.2.to_below f (fun g i c=>by have:=c;omega)
def VB.set_wave {w:World} {b a:Nat} {g:Array Value} (i:Bk w a 135 g) (j:b<=a) (c:Int):VB b w (w.setCell ⟨a,10,none⟩ (.int .i64 c)):=⟨Vis.set_wave i c,Keep.setCell (F:=fun f=>b<=f) (Keep.refl _ _) (p:=⟨a,10,none⟩) (.inl j) _⟩
@[irreducible] def rowC (e:Nat->Value) (m:Nat):Array Value:=Array.ofFn (n:=m) fun k=>e k.val
def iY (a:Nat->Value) (m:Nat):(rowC a m).size=m:=by unfold rowC;simp
def hY (b:Nat->Value) (m a:Nat) (c:a < m):(rowC b m)[a]?=some (b a):=by
 unfold rowC;rw [Array.getElem?_ofFn,dif_pos c]
def aAZ (f:Nat->Value) (m c:Nat) (i:c < m) (g:Value):(rowC f m).setIfInBounds c g=rowC (fun b=>if b=c then g else f b) m:=by
 apply Array.ext_getElem?;intro b;rcases zBe b m with a | a
 · rw [hY _ _ _ a];by_cases e:c=b
   · subst e;rw [Array.getElem?_setIfInBounds_self_of_lt (by rw [iY];exact i),zBw rfl]
   · rw [zCd e,hY _ _ _ a,zBv (fun j=>e j.symm)]
 · rw [Array.getElem?_eq_none (by simp [iY];exact a),Array.getElem?_eq_none (by rw [iY];exact a)]
def wA (b:Value) (m:Nat):rowC (fun _=>b) m=Array.replicate m b:=by
 apply Array.ext_getElem?;intro c;rcases zBe c m with a | a
 · rw [hY _ _ _ a];simp [a]
 · rw [Array.getElem?_eq_none (by rw [iY];exact a),Array.getElem?_eq_none (by simpa using a)]
structure Bits (w:World) (B gB m:Nat) (T:Nat->Value) (R:Nat->List Bool):Prop where
 blk:Bk w gB 138 (rowC T m)
 own:∀p,p < m->w.ownsRow B 4 1 (T p) (R p).length ((R p).map Value.bool)
 apart:∀p q,p < m->q < m->p≠q->∀b,(T p).ownBlock=some b->(T q).ownBlock≠some b
def Bits.same {w w':World} {e i m:Nat} {g:Nat->Value} {f:Nat->List Bool} (c:Bits w e i m g f) (l:∀a b,Bk w a 138 b->Bk w' a 138 b) (n:∀a b,Bk w a 4 b->Bk w' a 4 b):Bits w' e i m g f:=
 ⟨l _ _ c.blk,fun o k=>aA (c.own o k) fun a b _ j=>n a b j,c.apart⟩
def Bits.below {w i:World} {b f m:Nat} {e:Nat->Value} {c:Nat->List Bool} (l:Bits w b f m e c) (g:Below w.heap.size w i):Bits i b f m e c:=l.same (fun j k a=>a.below g a.lt) (fun j k a=>a.below g a.lt)
def Bits.start (w:World) (b a m:Nat) (c:Bk w a 138 (rowC (fun _=>.slice none 0 0) m)):Bits w b a m (fun _=>.slice none 0 0) (fun _=> []):=
 ⟨c,fun f i=>World.ownsRow_nil _ _ _ _,fun f j _ _ _ g e=>by simp [Value.ownBlock] at e⟩
def Bits.push {w w1:World} {x q m a:Nat} {j:Nat->Value} {p:Nat->List Bool} {v:Value} {b:Bool} (k:Bits w x q m j p) (u:a < m) (J:Keep (fun b=>(j a).ownBlock=some b) w w1)
 (M:w1.ownsRow x 4 1 v ((p a).length+1) ((p a).map Value.bool++ [.bool b])) (A:v.ownBlock=(j a).ownBlock∨∃f,v.ownBlock=some f/\w.heap.size<=f):
 Bits (w1.setCell ⟨q,a,none⟩ v) x q m (fun s=>if s=a then v else j s) (fun s=>if s=a then p a++ [b] else p s):=by
 have L:(j a).ownBlock≠some q:=by intro e;exact aQ (k.own a u) k.blk dC e.symm
 have E:=J.bk k.blk L;have G:∀f o,Bk w1 f 4 o->Bk (w1.setCell ⟨q,a,none⟩ v) f 4 o:=fun f o l=>l.far (Bk.ne l E dC) _;refine ⟨?_,fun c i=>?_,fun c C i F B y r=>?_⟩;rw [<-aAZ j m a u v];exact E.set a v;by_cases e:c=a;subst e;rw [zBw rfl,zBw rfl,zAi,zAz];exact aA M fun f o _ l=>G f o l;rw [zBv e,zBv e];refine aA (k.own c i) fun f o l K=>G f o (J.bk K ?_);exact fun g=>k.apart c a i u e f l g;have O:∀c,c < m->∀g,(j c).ownBlock=some g->g < w.heap.size:=fun c i g n=>((k.own c i).lt g n).2;have H:∀c,c < m->c≠a->∀g,v.ownBlock=some g->(j c).ownBlock≠some g:=(by intro c i N g n I;rcases A with A |⟨f,l,P⟩;rw [A] at n;exact k.apart a c u i (fun e=>N e.symm) g n I;rw [l] at n;cases n;have:=O c i _ I;omega);by_cases z:c=a;subst z;rw [zBw rfl] at r;rw [zBv (fun e=>B e.symm)];exact H C F (fun e=>B e.symm) y r;rw [zBv z] at r;by_cases D:C=a;subst D;rw [zBw rfl];intro n;exact H c i z y n r;rw [zBv D];exact k.apart c C i F B y r
def aAo (c:List Nat) (b lv a:Nat):aR (c++ [b]) lv a=if a=aX b lv then aR c lv a++ [eP b lv] else aR c lv a:=by
 unfold aR;rw [List.filter_append,zAz];by_cases e:a=aX b lv
 · rw [zBw e];simp [e]
 · rw [zBv e];have:(aX b lv==a)=false:=(by simp;omega);simp [this]
def Bits.congr {w:World} {c g m:Nat} {f:Nat->Value} {e R':Nat->List Bool} (b:Bits w c g m f e) (j:∀a,a < m->e a=R' a):Bits w c g m f R':=
 ⟨b.blk,fun a i=>by rw [<-j a i];exact b.own a i,b.apart⟩
def lZ {w:World} {f:Nat} {b:TypeId} {p o a:Nat} {e:Value} {q:List Value} (l:w.ownsRow f b p e o q) (c:e.ownBlock=some a):∃g,Bk w a b g:=by
 rcases l.2 with ⟨rfl,_⟩|⟨k,r,i,rfl,_,n,_⟩
 · simp [Value.ownBlock] at c
 have j:k=a:=(by simpa [Value.ownBlock] using c);subst j;exact ⟨i,n⟩
def TreeAt.keepT {w j:World} {b:Nat->Prop} {f:Nat} {c:List Bool} (l:TreeAt w f c) (q:Keep b w j) (p:∀a,b a->∃t e,Bk w a t e/\(t=135∨t=143)):TreeAt j f c:=by
 refine l.same fun a t e i g=>q.bk g fun n=>?_;obtain ⟨s,r,o,ht⟩:=p a n;have k:=(aU g o).1;subst k;rcases ht with rfl | rfl;exact absurd i dC;exact absurd i dC
def ShelfRow.keepW {w r:World} {b g:Nat} {c:Array Value} {q:Value} {i:List Nat} {lv m:Nat} (u:ShelfRow w g q i lv m) (o:Keep (fun a=>a=b) w r) (n:Bk w b 135 c):ShelfRow r g q i lv m:=by
 obtain ⟨s,v,j⟩:=u;refine ⟨s,aA v fun a c _ k=>o.bk k fun e=>?_,fun p l=>⟨(j p l).1,(j p l).2.keepT o fun a e=>by
  have f:a=b:=e;subst f;exact ⟨_,c,n,.inl rfl⟩⟩⟩
 have f:a=b:=e;subst f;exact absurd (aU k n).1 dC
def ShelfRow.mono {w:World} {B B':Nat} {g:Value} {a:List Nat} {lv m:Nat} (j:ShelfRow w B g a lv m) (c:B'<=B):ShelfRow w B' g a lv m:=by
 obtain ⟨i,k,b⟩:=j;exact ⟨i,cU k c,fun f e=>⟨zAk c (b f e).1,(b f e).2⟩⟩
end
end Go.Proofs.YtnmapianpjamnaaGreatDoor
