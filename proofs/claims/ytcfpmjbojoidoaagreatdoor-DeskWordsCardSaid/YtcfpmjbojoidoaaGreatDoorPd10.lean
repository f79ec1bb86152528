/- Lemmas of the walk. Conditions: each its own. -/
import Derived.Test.YtcfpmjbojoidoaaGreatDoorPd6
import Derived.Test.YtcfpmjbojoidoaaGreatDoorPd7
import Derived.Test.YtcfpmjbojoidoaaGreatDoorProg
import Derived.Test.YtcfpmjbojoidoaaGreatDoorShl
import Derived.Test.YtcfpmjbojoidoaaGreatDoorShi
set_option linter.all false
set_option maxRecDepth 100000
set_option maxHeartbeats 2000000
open Go.Proofs.Tryz
namespace Go.Proofs.YtcfpmjbojoidoaaGreatDoor
section
open Go.ChangeShapes Go.WideShapes Go.ChangeAt Go.RowKit
def aAn:laidOutB prog=true:=by kernel_rfl
def own:ownKnob prog.godebug=none:=by kernel_rfl
end
section
open Go.RowKit
def aDH:(prog.info? 148).map (fun a=>(a.zero,a.size,a.bytes))=some (some (.slice none 0 0),1,24):=by kernel_rfl
def aCV:(prog.info? 206).map (fun a=>(a.zero,a.size,a.bytes))=some (some (.agg #[.pointer none,.int .i64 0,.int .i64 0]),3,24):=by kernel_rfl
def aGz (n:Nat) (i:n<=1000000) (a:World):(Instr.makeSlice 202 (.int .i64 (n:Int)) (.int .i64 (n:Int))).run prog a=.ok (.slice (some a.heap.size) n n) (a.alloc (.cells (rowC (fun _=>.slice none 0 0) n) 148)):=by
 obtain ⟨g,c,d,e,f⟩:=info_parts aDH;have:=run_make (P:=prog) a 202 148 g (.slice none 0 0) underlying202 c d .i64 .i64 n n oM (Int.le_refl _) (by rw [f];omega) oM;rw [this,e,aC2];have b:madeCells #[.slice none 0 0] n=Array.replicate n (.slice none 0 0):=by apply Array.ext';rw [toList_madeCells_one];simp
 simp only [Value.cells,zBr,zBl];rw [b]
end
section
def aDM:List UInt8:= [101,114,114,111,114]
def lZ (l:List Nat):List Int:=l.map fun (n:Nat)=>(n:Int)
def oW (a:Told):List UInt8:=if a.code≠0 then cU [a.code] else if a.data= [] then cU [a.code]++ [32]++ [110,111,110,101] else cU [a.code]++ [32]++rV a.data
def aBW (c:Int) (a e:List UInt8) (b:Nat) (d:List UInt8):List UInt8×List UInt8:=
 if e= [105,110,115,101,114,116] then ((doM a c 1 (b:Int) 0 d).1,cU [(doM a c 1 (b:Int) 0 d).2.code])
 else if e= [115,101,116] then ((doM a c 3 (b:Int) 0 d).1,cU [(doM a c 3 (b:Int) 0 d).2.code])
 else match nO d with
    | none=>(a,aDM)
    | some n=>if e= [100,101,108,101,116,101] then ((doM a c 2 (b:Int) (n:Int) []).1,cU [(doM a c 2 (b:Int) (n:Int) []).2.code])
      else if e= [116,97,107,101] then (a,oW (doM a c 5 (b:Int) (n:Int) []).2) else (a,aDM)
def aAF (ρ:List UInt8->List Nat) (a b:List UInt8):List UInt8:=
 if b= [108,101,110] then cU [(a.length:Int)]
 else if b= [108,97,115,116] then cU (lZ (aF (aI a) (ρ a)))
 else if b= [114,101,108,111,97,100] then cU [0] else aDM
def iZ (ρ:List UInt8->List Nat) (d:Int) (b a:List UInt8):List UInt8×List UInt8:=
 if (eP a).2.2=false then (b,aAF ρ b a)
 else if (eP a).1= [99,111,117,110,116] then (b,cU [((dL b (eP a).2.1).length:Int)])
 else if (eP a).1= [108,111,99,97,116,101] then (b,cU (lZ (dL b (eP a).2.1)))
 else match nO (eP (eP a).2.1).1 with
    | none=>(b,aDM)
    | some c=>if (eP (eP a).2.1).2.2=false then (b,aDM) else aBW d b (eP a).1 c (eP (eP a).2.1).2.1
def aFz {l:List UInt8} (a:(eP l).2.2=false):(eP l).1=l:=by
 induction l with
 | nil=>rfl
 | cons d l c=>
   unfold eP at a⊢;split at a
   · cases a
   · rename_i b
     rw [zBw b];simp only at a⊢;rw [c a]
def oH (a:List UInt8):Prop:=a≠ [112,97,105,114,115]/\a≠ [110,111,100,101,115]/\a≠ [115,97,118,101]
def bW (ρ:List UInt8->List Nat) (a:Int):List UInt8->List (List UInt8)->List UInt8
 | _, []=> []
 | t,x::r=>if x= [] then bW ρ a t r else (iZ ρ a t x).2++ [10]++bW ρ a (iZ ρ a t x).1 r
def cR (ρ:List UInt8->List Nat) (a:Int):List UInt8->List (List UInt8)->List UInt8
 | t, []=>t
 | t,x::r=>if x= [] then cR ρ a t r else cR ρ a (iZ ρ a t x).1 r
def gQ (ρ:List UInt8->List Nat) (a:Int) (c:List UInt8):∀(l:List (List UInt8)) (b:List UInt8),bW ρ a b (l++ [c])=bW ρ a b l++(if c= [] then [] else (iZ ρ a (cR ρ a b l) c).2++ [10])
 | [],b=>by simp only [List.nil_append,bW,cR];split <;> simp
 | y::l,b=>by
   simp only [List.cons_append,bW,cR];split;exact gQ ρ a c l b
   · rw [gQ ρ a c l,<-zCn]
def iM (ρ:List UInt8->List Nat) (a:Int) (c:List UInt8):∀(l:List (List UInt8)) (b:List UInt8),cR ρ a b (l++ [c])=if c= [] then cR ρ a b l else (iZ ρ a (cR ρ a b l) c).1
 | [],b=>by simp only [List.nil_append,cR]
 | y::l,b=>by simp only [List.cons_append,cR];split;exact iM ρ a c l b;exact iM ρ a c l _
def yS (a:List UInt8):List (List UInt8):=if (bK a).getLast (yX a)= [] then (bK a).dropLast else bK a
def rM (ρ:List UInt8->List Nat) (b:Int) (a:List UInt8):List UInt8:=if 300 < (yS a).length then [101,114,114,111,114,10] else bW ρ b [] (yS a)
end
section
open Go.RowKit Go.Shelf
def qU (b:World) (a:List (Nat×Nat)) (f:Ending) (e:World):Prop:=
 ∃c d,f=.returned (.slice c a.length d)/\Made e b.heap.size 106 2 c a.length d (bJ a)/\Below b.heap.size b e
def gY (f:Nat):∀(d:List Value) (b:Nat) (i:World) (g:TypeId) (c:Array Value),Bk i f g c->∃e:Array Value,Bk (i.setCells f b d) f g e/\e.size=c.size/\∀a,a < c.size->e[a]?=if b<=a/\a < b+d.length then d[a - b]? else c[a]?
 | [],b,i,g,c,j=>⟨c,j,rfl,fun a k=>by rw [zBw (by simp)]⟩
 | v::d,b,i,g,c,j=>by
   obtain ⟨e,p,q,r⟩:=gY f d (b+1) (i.setCell ⟨f,b,none⟩ v) g _ (j.set b v);refine ⟨e,p,by rw [q];simp,fun a k=>?_⟩;rw [r a (by simpa using k)];by_cases m:b+1<=a/\a < b+1+d.length;rw [zBx m,zBx (by simp;omega),show a - b=(a -(b+1))+1 by omega];rfl
   · rw [zBw m,zCd];by_cases o:b=a;subst o;rw [zBx rfl,zBx k,zBx (by simp),Nat.sub_self];rfl
     · rw [zBw o,zBw (by simp;omega)]
def jT (a:Nat):∀(f:List Value) (b:Nat) (w0 c:World),Keep (fun d=>d=a) w0 c->Keep (fun d=>d=a) w0 (c.setCells a b f)
 | [],_,_,_,e=>e
 | v::f,b,w0,c,e=>jT a f (b+1) w0 (c.setCell ⟨a,b,none⟩ v) (e.setCell (p:=⟨a,b,none⟩) (.inl rfl) v)
def fW {f:Nat->Prop} (a:Nat):∀(e:List Value) (b:Nat) (w0 c:World),w0.heap.size<=a->Keep f w0 c->Keep f w0 (c.setCells a b e)
 | [],_,_,_,_,d=>d
 | v::e,b,w0,c,hg,d=>fW a e (b+1) w0 (c.setCell ⟨a,b,none⟩ v) hg (d.setCell (p:=⟨a,b,none⟩) (.inr hg) v)
def Bk.shape {e:World} {b:Nat} {d:TypeId} {a:Array Value} (c:Bk e b d a):e.shape? b=some (d,a.size):=by
 unfold Bk at c;unfold World.shape?;rw [c]
def fR {b:Array Value} {c:List Value} {n:Nat} (f:c.length=n) (g:n<=b.size) (e:∀a,a < n->b[a]?=c[a]?):b.toList.take n=c:=by
 apply List.ext_getElem?;intro a;by_cases d:a < n;rw [List.getElem?_take_of_lt d,Array.getElem?_toList];exact e a d
 · rw [List.getElem?_take_eq_none oM,zBg oM]
def rS {j:World} {f e n c:Nat} {g:TypeId} {k:List Value} (m:j.ownsRow f g 1 (.slice (some e) n c) n k) (w:0 < n):∃b:Array Value,Bk j e g b/\b.size=c/\n<=c/\c<=maxLen/\f<=e/\∀d,d < n->b[d]?=k[d]?:=by
 rcases m.2 with ⟨a,v⟩|⟨u,t,b,a,o,p,s,r,x,i⟩
 · cases a
 · injection a with a _ h3;injection a with a;injection a with a _;subst a h3;refine ⟨b,p,by omega,s,r,o,fun d q=>?_⟩;rw [zBl] at i;rw [<-i,List.getElem?_take_of_lt q,Array.getElem?_toList]
def qY (g:Nat) (d:Value) (n:Nat) (k:List Value) (e:World) (j:Ending) (f:World):Prop:=
 ∃a b,j=.returned (.slice a (n+1) b)/\f.ownsRow g 3 1 (.slice a (n+1) b) (n+1) k/\Keep (fun i=>d.ownBlock=some i) e f/\((Value.slice a (n+1) b).ownBlock=d.ownBlock∨∃c,(Value.slice a (n+1) b).ownBlock=some c/\e.heap.size<=c)
def xY (B:Nat) (u:Option Addr) (n f b:Nat) (d:List Nat) (p j:Nat) (c:World) (F:c.ownsRow B 3 1 (.slice u n f) n (d.map sv)) (A:Bk c p 3 #[sv j]) (a9:∀w,(Value.slice u n f).ownBlock=some w->w≠p) (Z:B<=c.heap.size) (S:b < n) (ag:n<=1000000):
 Calls prog 62 #[.slice u n f,(b:Int),.slice (some p) 1 1] c (qY B (.slice u n f) n ((aM d b j).map sv) c):=by
 have m:d.length=n:=by have:=F.1;simpa using this
 obtain ⟨g,ai,D,_,af⟩:=World.ownsRow.form F oM;injection D with D _ e3;subst D e3;obtain ⟨L,t,a6,a7,U,a0,O⟩:=rS F oM;have a8:p≠g:=fun s=>a9 g rfl s.symm;have R:∀a e,(d.map sv)[a]?=some e->c.cell? ⟨g,0+a,none⟩=some e:=fun a e k=>by
  have i:a < n:=by have:=(zAc.1 k).1;simpa [m] using this
  rw [zBi,t.cell,O a i,k]
 have W:∀a e, [sv j][a]?=some e->c.cell? ⟨p,0+a,none⟩=some e:=fun a e k=>by
  rw [zBi,A.cell,<-k];rcases a with _ | a;rfl
  · simp at k
 have M:∀e∈d.map sv,e.oneCell'=true:=fun e k=>by obtain ⟨ad,_,rfl⟩:=zAy.1 k;rfl
 have N:∀e∈ [sv j],e.oneCell'=true:=fun e k=>by rw [List.mem_singleton] at k;subst k;rfl
 have T:∀a,a < n+1->((aM d b j).map sv)[a]?=if a < b then (d.map sv)[a]? else if a=b then some (sv j) else (d.map sv)[a - 1]?:=fun a i=>by rw [mA,iB _ _ (by rw [zBc];omega)]
 have z:((aM d b j).map sv).length=n+1:=by rw [zBc,fG _ _ oM,m]
 by_cases V:n+1<=f
 · have a5:∀a,a < n+1->c.cell? ⟨g,0+a,none⟩=some (L.getD a (.bool false)):=fun a i=>by rw [zBi,t.cell,zAq oM];congr 1;rw [zAm,zAq oM];rfl
   have E:=Any2.slices_Insert_int_shift shIns g 0 n f b p 0 1 1 (d.map sv) [sv j] c S dC V (by unfold maxLen at U;omega) a8 (by simpa using m) rfl R (fun a i=>by rw [a5 a i];rfl) (fun a i=>by rw [zBi];exact t.frozen a) W M N 3 3 1 L.size (A.shape) (t.shape) oM (A.frozen 0) (A.frozen 1);refine E.mono ?_;rintro s ac ⟨rfl,rfl⟩;obtain ⟨Y,G,aa,H⟩:=gY g ((d.map sv).drop b) (0+(b+1)) c.drew _ _ t.drew;obtain ⟨C,J,ab,K⟩:=gY g [sv j] (0+b) _ _ _ G;refine ⟨_,f,rfl,⟨by rw [z,zBl],.inr ⟨g,f,C,rfl,a0,J,V,U,by omega,?_⟩⟩,(jT g _ _ c _ (jT g _ _ c _ (Keep.refl _ c).drew)).mono fun w _ s=>by rw [show w=g from s];rfl,.inl rfl⟩;rw [zBl];refine fR z oM fun a i=>?_;rw [T a i,K a oM,H a oM];simp only [zCf,List.length_nil,zAw,zBc,m];by_cases o:a < b
   · rw [zBw oM,zBw oM,zBx o,O a oM]
   · by_cases r:a=b
     · subst r;rw [zBx oM,zBw oM,zBx rfl];simp
     rw [zBw oM,zBx oM,zBw o,zBw r,zBt];congr 1;omega
 · have E:=Any2.slices_Insert_int_grow shIns g 0 n f b p 0 1 1 (d.map sv) [sv j] c S dC a7 oM oM (by simpa using m) rfl R W M N;refine E.mono ?_;rintro s ac ⟨rfl,rfl⟩;obtain ⟨q,y⟩:=eqx (grownCap c (n+1) f 3);have a2:n+1<=q:=(by rw [<-y];exact grownCap_ge _ _ _ _);have a3:q<=maxLen:=(by rw [<-y];exact grownCap_le_maxLen _ _ _ _ (by unfold maxLen;omega));show qY _ _ _ _ _ (.returned (.slice _ _ (grownCap c (n+1) f 3))) _;rw [y];have X:∀I,(Builtin.zeroCells (Value.int .i64 0).cells I).size=I:=fun I=>by simp [Builtin.zeroCells,Value.cells]
   obtain ⟨v,x⟩:=eqx (((d.map sv).take b).toArray++Builtin.zeroCells (Value.int .i64 0).cells (n+1 - b)++Builtin.zeroCells (Value.int .i64 0).cells (q -(n+1)));have ae:v.size=q:=(by rw [<-x,Array.size_append,Array.size_append,X,X];simp [m];omega);have a1:∀a,a < b->v[a]?=(d.map sv)[a]?:=fun a i=>by have ah:(((d.map sv).take b).toArray).size=b:=(by simp [m];omega);rw [<-x,Array.append_assoc,Array.getElem?_append_left oM,zCw,List.getElem?_take_of_lt i]
   have a4:Bk (c.alloc (.cells v 3)) c.heap.size 3 v:=Bk.new _ _ _;have a6:=x;show qY _ _ _ _ _ _ ((((c.alloc (.cells (((d.map sv).take b).toArray++Builtin.zeroCells (Value.int .i64 0).cells (n+1 - b)++Builtin.zeroCells (Value.int .i64 0).cells (grownCap c (n+1) f 3 -(n+1))) 3)).drew.setCells c.heap.size b [sv j]).drew).setCells c.heap.size (b+1) ((d.map sv).drop b));rw [y,x];obtain ⟨Y,G,aa,H⟩:=gY c.heap.size [sv j] b _ _ _ a4.drew;obtain ⟨C,J,ab,K⟩:=gY c.heap.size ((d.map sv).drop b) (b+1) _ _ _ G.drew;refine ⟨_,q,rfl,⟨by rw [z,zBl],.inr ⟨c.heap.size,q,C,rfl,Z,J,a2,a3,by omega,?_⟩⟩,fW _ _ _ c _ nL (fW _ _ _ c _ nL ((Keep.refl _ c).alloc _).drew).drew,.inr ⟨_,rfl,zAs _⟩⟩;rw [zBl];refine fR z oM fun a i=>?_;rw [T a i,K a oM,H a oM];simp only [zCf,List.length_nil,zAw,zBc,m];by_cases o:a < b
   · rw [zBw oM,zBw oM,zBx o,a1 a o]
   · by_cases r:a=b
     · subst r;rw [zBw oM,zBx oM,zBw o,zBx rfl];simp
     rw [zBx oM,zBw o,zBw r,zBt];congr 1;omega
def xZ (i:Nat) (f:Option Addr) (n g a:Nat) (e:List Nat) (c d:Nat) (b:World) (p:b.ownsRow i 3 1 (.slice f n g) n (e.map sv)) (q:Bk b c 3 #[sv d]) (D:∀m,(Value.slice f n g).ownBlock=some m->m≠c) (s:i<=b.heap.size) (E:a<=n) (t:n<=1000000):
 Calls prog 62 #[.slice f n g,(a:Int),.slice (some c) 1 1] b (qY i (.slice f n g) n ((aM e a d).map sv) b):=by
 by_cases z:a < n;exact xY i f n g a e c d b p q D s z t
 · obtain rfl:a=n:=oM;have F:e.length=a:=(by have:=p.1;simpa using this);have C:Rd b b.heap.size 1 (some ⟨c,0,none⟩) 1 [sv d]:=by
    refine ⟨rfl,fun _=>⟨c,0,rfl,q.lt,fun v G o=>?_⟩⟩;rcases v with _ | v;injection o with o;subst o;exact (q.cell 0).trans rfl
    · simp at o
   refine (nY i f a g (e.map sv) (some ⟨c,0,none⟩) 1 d b p C s t).mono ?_;rintro r I ⟨H,rfl,u,j,k⟩;have y:(aM e a d).map sv=e.map sv++ [sv d]:=(by unfold aM;rw [zAg oM,List.drop_of_length_le oM,zAz];rfl);obtain ⟨w,x,rfl,_⟩:=aP u;refine ⟨w,x,rfl,by rw [y];exact u,⟨j.os,j.tape,j.output,j.size,fun m A B=>j.block m A fun r=>B r.symm⟩,?_⟩;rcases k with k | k;exact .inl k;exact .inr ⟨_,k,zAs _⟩
end
section
open Go.RowKit Go.Shelf
open Go.Sort (Holds PermIn SortedIn SWO heap_grow_old)
def aGr {e:World} {f base a c n k:Nat} {os:Array Obj} {d:Array Value} (b:Array (Fin (f+1))) (i:b.size=n) (g:Bk e a 3 d) (r:base<=a) (m:n<=c) (o:c<=maxLen) (p:d.size=c):
 (sortWorld (eL f) e a 0 k b os).ownsRow base 3 1 (.slice (some a) n c) n ((b.toList.map fun w=>w.val).map sv):=by
 have s:=g.lt;have t:(sortWorld (eL f) e a 0 k b os).heap[a]?=some (.cells (Go.Sort.putCells (eL f) 0 b d) 3 (0,0)):=by unfold sortWorld;rw [heap_grow_old _ _ (by show a < (e.heap.modify a _).size;simpa using s)];have q:e.heap[a]?=some (.cells d 3 (0,0)):=g;simp [Go.Sort.putRow,Go.Sort.mapBlock,Go.Sort.ahead,Array.getElem?_modify,q,Go.Sort.onCells]
 refine ⟨by simp [i],.inr ⟨a,c,_,rfl,r,t,m,o,by simp [Go.Sort.putCells,p],?_⟩⟩;rw [zBl];refine fR (by simp [i]) (by simp [Go.Sort.putCells];omega) fun j x=>?_;have u:j < d.size:=oM;have v:j < b.size:=oM;simp [Go.Sort.putCells,Array.getElem?_mapIdx,u,v,eL,sv,aBR]
def aFa {c:Nat} {a:List Nat} (d:∀b∈a,b < c+1):(eX c a).toList.map (fun f=>f.val)=a:=by
 unfold eX;rw [zCg]
 conv=>rhs;rw [<-List.map_id a]
 exact List.map_congr_left fun b e=>zBu (d b e)
def cfK (b:Nat) (a:Nat->Nat) (c d:Fin (b+1)):Int:=Lib.compareInt ((a c.val:Nat):Int) ((a d.val:Nat):Int)
def aAh (b:Nat) (a:Nat->Nat) (c d:Fin (b+1)):ltOf (cfK b a) c d=decide (a c.val < a d.val):=by
 unfold ltOf cfK;rw [decide_eq_decide,tT];omega
def aHV (a:Nat) (b:Nat->Nat):SWO (ltOf (cfK a b)) where
 irrefl x:=by rw [aAh];simp
 trans x y z h1 h2:=by
  rw [aAh,zCa] at*
  omega
 ntrans x y z h1 h2:=by
  rw [aAh,decide_eq_false_iff_not] at*
  omega
def aBk {g:Nat} {c:List Nat} {f:Nat->Nat} {b:Array (Fin (g+1))} (x:∀E∈c,E < g+1) (s:PermIn 0 (eX g c).size (eX g c) b) (D:SortedIn (ltOf (cfK g f)) 0 (eX g c).size b) (B:c.Nodup) (z:∀a∈c,∀t∈c,f a=f t->a=t):
 (b.toList.map fun a=>a.val).Perm c/\(b.toList.map fun a=>a.val).Pairwise (fun u v=>f u < f v):=by
 have i:(b.toList.map fun a=>a.val).Perm c:=by have:=(uO s).map (fun a:Fin (g+1)=>a.val);rwa [aFa x] at this
 refine ⟨i,?_⟩;have C:(b.toList.map fun a=>a.val).Nodup:=i.nodup_iff.2 B;rw [zAr];intro d e j k p;have A:d < b.size:=by simpa using j
 have q:e < b.size:=by simpa using k
 have y:=D d e (zAp _) p (by rw [<-s.1];exact q);rw [aAh,decide_eq_false_iff_not,aBR _ _ A,aBR _ _ q] at y;have m:(b.toList.map fun a=>a.val)[d]=b[d].val:=by simp
 have o:(b.toList.map fun a=>a.val)[e]=b[e].val:=by simp
 have r:(b.toList.map fun a=>a.val)[d]≠(b.toList.map fun a=>a.val)[e]:=zAr.1 C d e j k p;have F:b[d].val∈c:=i.subset (by rw [<-m];exact zBj j);have G:b[e].val∈c:=i.subset (by rw [<-o];exact zBj k);rw [m,o] at r⊢;have H:f b[d].val≠f b[e].val:=fun w=>r (z _ F _ G w);omega
end
section
open Go.RowKit
def jJ (c:IntKind) (n:Nat) (a:Nat->Nat):Array Value:=((List.range n).map fun b=>Value.int c ((a b:Nat):Int)).toArray
def kM (b:IntKind) (n:Nat) (a:Nat->Nat):(jJ b n a).size=n:=by simp [jJ]
def fH {c:IntKind} {n:Nat} {b:Nat->Nat} {a:Nat} (d:a < n):(jJ c n b)[a]?=some (.int c ((b a:Nat):Int)):=by
 unfold jJ;rw [zCw,zAf,zCj d];rfl
def sD {c:IntKind} {n:Nat} {b:Nat->Nat} {a:Nat} (d:¬a < n):(jJ c n b)[a]?=none:=Array.getElem?_eq_none (by rw [kM];omega)
def cW {d:IntKind} {n:Nat} {b c:Nat->Nat} (e:∀a,a < n->b a=c a):jJ d n b=jJ d n c:=by
 unfold jJ;congr 1;exact List.map_congr_left fun a f=>by rw [e a (zCi.1 f)]
def kN {e:IntKind} {n:Nat} {f:Nat->Nat} {d i:Nat} (g:d < n):(jJ e n f).setIfInBounds d (.int e ((i:Nat):Int))=jJ e n (fun c=>if c=d then i else f c):=by
 apply Array.ext_getElem?;intro c;rw [zCd,kM];by_cases b:c < n
 · rw [fH b,fH b];by_cases a:d=c
   · subst a;rw [zBx rfl,zBx b,zBx rfl]
   · rw [zBw a,zBw (fun g=>a g.symm)]
 · rw [sD b,sD b];by_cases a:d=c
   · subst a;rw [zBx rfl,zBw b]
   · rw [zBw a]
def nM (b:IntKind) (n:Nat):Array.replicate n (Value.int b 0)=jJ b n (fun _=>0):=by
 apply Array.ext_getElem?;intro c;by_cases a:c < n;rw [fH a,Array.getElem?_replicate,zBx a];rfl
 · rw [sD a,Array.getElem?_replicate,zBw a]
def aFG (b:IntKind) (n:Nat) (a:Nat->Nat):(jJ b n a).toList=(List.range n).map fun c=>Value.int b ((a c:Nat):Int):=rfl
def aGH (a:Option Addr) (n c b:Nat):Array Value:=#[.slice a n c,.int .i64 (b:Int),.bool false]
def lL (c:Nat) (f:Option Addr) (n e m i k a b:Nat) (l:List UInt8) (d:World) (g:Bk d c 183 (aGH f n e i)) (r:Rd d m 1 f n (l.map bv)) (y:n<=e) (o:e<=maxLen) (q:dU l (i:Int)=(a,(k:Int),0)) (F:a<=b) (E:b<=4611686018427387904):
 Calls prog 159 #[c,(b:Int)] d fun x s=>x=.returned (.int .i64 (a:Int))/\Bk s c 183 (aGH f n e k)/\Keep (fun j=>j=c) d s:=by
 have B:d.cell? c=some (.slice f n e):=g.cell 0;have C:d.cell? ⟨c,1,none⟩=some (.int .i64 (i:Int)):=g.cell 1;have D:=g.frozen 1;obtain ⟨t,w,v,u⟩:=hqq4 g r q o;have z:¬((a:Int) > (b:Int)):=oM;have G:decide ((a:Int) > (b:Int))=false:=zBy z;have A:¬b < a:=oM;have H:decide (b < a)=false:=zBy A;have I:IntKind.u64.wrap (b:Int)=(b:Int):=by rw [IntKind.wrap_u64];omega
 have J:IntKind.i64.wrap (a:Int)=(a:Int):=by rw [IntKind.wrap_i64];omega
 clear g r q o;go_enter func159,ntmps159;go_wp2_with fail;go_quiet (exact aC6 (eQ f n e l (i:Int) m _ a (k:Int) 0 v.out (w.out.drewN _) y u.out));go_wp2_with fail;go_ret;exact ⟨rfl,(t.out.drewN nq).set 1 _,((Keep.refl (fun j=>j=c) d).drewN nq).setCell (p:=⟨c,1,none⟩) (.inl rfl) _⟩
def qR (b:Nat) (f:Option Addr) (n e s o a c d:Nat) (l:List UInt8) (i:World) (q:Bk i b 183 (aGH f n e o)) (A:Rd i s 1 f n (l.map bv)) (R:n<=e) (N:e<=maxLen) (Z:n<=1099511627776) (x:dU l (o:Int)=(c,(a:Int),0)) (a0:a+(c+4)=d) (a2:d<=n):
 Calls prog 160 #[b] i fun v D=>v=.returned (.slice (gJ f e a 1) c (e - a))/\Bk D b 183 (aGH f n e d)/\Keep (fun G=>G=b) i D:=by
 have z:=lL b f n e s o a c n l i q A R N x oM oM;have H:i.cell? b=some (.slice f n e):=q.cell 0;clear q A x;go_enter func160,ntmps160;go_wp2_with fail;refine z.mono ?_;clear z;rintro v w1 ⟨rfl,j,y⟩;have I:w1.cell? b=some (.slice f n e):=j.cell 0;have J:w1.cell? ⟨b,1,none⟩=some (.int .i64 (a:Int)):=j.cell 1;have K:w1.cell? ⟨b,2,none⟩=some (.bool false):=j.cell 2;have M:=j.frozen 1;obtain ⟨t,u⟩:=hqq2 j y;obtain ⟨g,O⟩:∃g,n - a=g+4:=⟨n - a - 4,by omega⟩;have T:IntKind.i64.wrap ((n:Int) -(a:Int))=((g+4:Nat):Int):=by rw [IntKind.wrap_i64];omega
 have U:IntKind.i64.wrap (((g+4:Nat):Int) - 4)=(g:Int):=by rw [IntKind.wrap_i64];omega
 have B:¬((c:Int) > (g:Int)):=oM;have V:decide ((c:Int) > (g:Int))=false:=zBy B;have C:¬g < c:=oM;have W:decide (g < c)=false:=zBy C;clear j y H;go_wp2_with fail;go_quiet (fail);go_wp2_with fail;have L:((a:Int)+((c:Int)+4))=(d:Int):=oM;rw [L];have k:=(t.out.drewN nq).set 1 (.int .i64 (d:Int));have m:=(u.out.drewN nq).setCell (p:=⟨b,1,none⟩) (.inl rfl) (.int .i64 (d:Int));generalize (w1.drewN nq).setCell ⟨b,1,none⟩ (.int .i64 (d:Int))=w2 at k m⊢;have X:w2.cell? b=some (.slice f n e):=k.cell 0;have Y:w2.cell? ⟨b,1,none⟩=some (.int .i64 (d:Int)):=k.cell 1;obtain ⟨E,F⟩:=hqq2 k m;obtain ⟨r,a3⟩:=eqx (a+c);have a6:IntKind.i64.wrap ((d:Int) -(c:Int))=((a+4:Nat):Int):=by rw [IntKind.wrap_i64];omega
 have a7:IntKind.i64.wrap (((a+4:Nat):Int) - 4)=(a:Int):=by rw [IntKind.wrap_i64];omega
 have a8:IntKind.i64.wrap ((d:Int) - 4)=(r:Int):=by rw [IntKind.wrap_i64];omega
 have S:=fun i=>zZ (P:=prog) 34 5 1 underlying34 (fun i=>by kernel_rfl) f n e a r oM oM i;have w:r - a=c:=oM;rw [w] at S;have a1:a<=1099511627776:=oM;have a4:d<=1099511627776:=oM;have a5:a+c+4=d:=oM;clear k m t u I J K M O T U B V C W w;go_quiet (fail);go_wp2_with fail;go_ret;exact ⟨rfl,E.out.drewN _,F.out.drewN _⟩
end
section
open Go.RowKit Go.Shelf
def yE (A:Nat) (k:Option Addr) (n f a:Nat) (e:List Nat) (d:World) (v:d.ownsRow A 3 1 (.slice k n f) n (e.map sv)) (Z:a < n) (a0:n<=1000000):
 Calls prog 257 #[.slice k n f,(a:Int),.int .i64 ((a+1:Nat):Int)] d fun p z=>p=.returned (.slice k (n - 1) f)/\z.ownsRow A 3 1 (.slice k (n - 1) f) (n - 1) ((aD e a).map sv)/\Keep (fun r=>(Value.slice k n f).ownBlock=some r) d z:=by
 have F:e.length=n:=by have:=v.1;simpa using this
 obtain ⟨i,a3,s,_,Y⟩:=World.ownsRow.form v oM;injection s with s _ e3;subst s e3;obtain ⟨I,B,V,a1,G,J,M⟩:=rS v oM;obtain ⟨c,y⟩:∃c:List Int,e.map (fun U=>((U:Nat):Int))=c:=⟨_,rfl⟩;have x:c.length=n:=by rw [<-y,zBc,F]
 have T:e.map sv=c.map (Value.int .i64):=by rw [<-y,zCg];rfl
 have K:Sort.Holds (Value.int .i64) d i 0 c.toArray:=holds_of_blockI B (by
  refine fR (by simp) oM fun b u=>?_;rw [M b oM,T])
 have t:=Any.slices_Delete_int shDel i 0 f a (a+1) c d K oM (by unfold maxLen at G;omega) oM oM;rw [x] at t;have X:(aD e a).length+1=n:=by rw [cQ _ oM,F]
 have W:(aD c a).length+1=n:=by rw [cQ _ oM,x]
 obtain ⟨o,q⟩:=eqx (c.take a++c.drop (a+1)++List.replicate (a+1 - a) 0);have a2:o.length=n:=by rw [<-q];simp [x];omega
 have R:∀b,b < n - 1->o[b]?=(aD c a)[b]?:=fun b u=>by rw [<-q];show ((aD c a)++List.replicate (a+1 - a) 0)[b]?=_;rw [zAn oM]
 rw [q] at t;clear q;refine t.mono ?_;rintro p z ⟨rfl,H,rfl⟩;have j:=grownBy_sortedI (w:=d) (g:=i) (n:=H) (os:=#[]) o.toArray;have C:=heap_sortedI (w:=d) (g:=i) (n:=H) (os:=#[]) o.toArray B;rw [Go.Sort.grow_empty] at j C;refine ⟨by rw [show a+1 - a=1 by omega],⟨by rw [zBc,zBl];omega,.inr ⟨i,f,_,rfl,J,C,by omega,G,by simp [Go.Sort.putCells];omega,?_⟩⟩,⟨j.os,j.tape,j.output,j.size,fun r L O=>j.block r L fun p=>O p.symm⟩⟩;rw [zBl];refine fR (by rw [zBc];omega) (by simp [Go.Sort.putCells];omega) fun b u=>?_;have D:b < (aD e a).length:=oM;have S:(aD c a)[b]?=some (((aD e a)[b]:Nat):Int):=by rw [<-y,<-qF,zAf,zAa D];rfl
 rw [zAf,zAa D];have m:=R b u;rw [S] at m;have N:b < I.size:=oM;have E:b < o.length:=oM;rw [zAa E] at m;injection m with m;simp [Go.Sort.putCells,Array.getElem?_mapIdx,N,E,m,sv]
end
section
open Go.RowKit
def aGO {l d:List Nat} (f:IsSuf l d) (c:Bool) (a:List Nat) (b:Nat) (r:b < d.length):Pq l c a d[b]=decide (b < Nq l c a):=by
 have p:d.countP (Pq l c a)=Nq l c a:=f.count _;have o:=rK (P:=Pq l c a) f.sorted (fun i x u v=>aAP a u v);rw [p] at o;rw [Bool.eq_iff_iff,zCa];constructor;intro m;by_cases j:b < Nq l c a;exact j;exfalso;have q:∀i∈d.take (b+1),Pq l c a i=true:=(by intro i t;obtain ⟨g,s,rfl⟩:=zBo.1 t;rw [zAj] at s;rw [List.getElem_take];rcases zBe g b with e | e;exact aAP a (zAr.1 f.sorted g b oM r e) m;obtain rfl:g=b:=oM;exact m);have e:=List.countP_eq_length.2 q;rw [zAj] at e;have w:(d.take (b+1)).countP (Pq l c a)<=d.countP (Pq l c a):=(List.take_sublist _ _).countP_le;omega;intro j;have k:d[b]∈d.take (Nq l c a):=(by rw [List.mem_take_iff_getElem];exact ⟨b,by omega,rfl⟩);rw [o,zCv] at k;exact k.2
def aH6 {l e:List Nat} (f:IsSuf l e) (b:List Nat) (a:Nat) (i:a < e.length):rO l b e[a]=true↔Nq l false b<=a/\a < Nq l true b:=by
 obtain ⟨c,g⟩:=aHI l b e[a];rw [aGO f false b a i,aGO f true b a i] at c;rw [aGO f false b a i] at g;constructor;intro k;rw [k] at c g;constructor;rcases zBe a (Nq l false b) with d | d;exact absurd ⟨zBz d,rfl⟩ g;exact d;simpa using c;rintro ⟨d,j⟩;rw [zBz j,zBy oM] at c;simpa using c.symm
def aDj {α:Type} (P:α->Bool) (b:List α) (a c:Nat) (r:a<=c) (s:c<=b.length) (j:∀i (t:i < b.length),P b[i]=true↔a<=i/\i < c):(b.drop a).take (c - a)=b.filter P:=by
 have m:b=b.take a++((b.drop a).take (c - a)++(b.drop a).drop (c - a)):=by rw [zAu,zAu]
 conv=>rhs;rw [m]
 rw [List.filter_append,List.filter_append];have o:(b.take a).filter P= []:=List.filter_eq_nil_iff.2 fun k f e=>by obtain ⟨g,d,rfl⟩:=zBo.1 f;rw [zAj] at d;rw [List.getElem_take] at e;have:=(j g oM).1 e;omega
 have p:((b.drop a).take (c - a)).filter P=(b.drop a).take (c - a):=List.filter_eq_self.2 fun k f=>by obtain ⟨g,d,rfl⟩:=zBo.1 f;rw [zAj,zAw] at d;rw [List.getElem_take,List.getElem_drop];exact (j (a+g) oM).2 ⟨by omega,by omega⟩
 have q:((b.drop a).drop (c - a)).filter P= []:=List.filter_eq_nil_iff.2 fun k f e=>by obtain ⟨g,d,rfl⟩:=zBo.1 f;rw [zAw,zAw] at d;rw [List.getElem_drop,List.getElem_drop] at e;have:=(j (a+(c - a+g)) oM).1 e;omega
 rw [o,p,q];simp
def fI (a b:List UInt8):List Nat:=(List.range (a.length+1)).filter (rO (aI a) (cZ b))
def aBs {b:List UInt8} {d:List Nat} (c:IsSuf (aI b) d) (a:List UInt8):((d.drop (Nq (aI b) false (cZ a))).take (Nq (aI b) true (cZ a) - Nq (aI b) false (cZ a))).Perm (fI b a):=by
 have e:Nq (aI b) false (cZ a)<=Nq (aI b) true (cZ a):=by rw [aDZ];omega
 rw [aDj (rO (aI b) (cZ a)) d _ _ e (by rw [c.len];exact aIK _ _ _) (fun g f=>aH6 c (cZ a) g f)];have:=c.perm.filter (rO (aI b) (cZ a));rw [aO] at this;exact this
def qE:∀(c d:List Int),c.Pairwise (fun a b=>a<=b)->d.Pairwise (fun a b=>a<=b)->c.Perm d->c=d
 | [],d,_,_,e=>e.nil_eq.symm ▸ rfl
 | a::c, [],_,_,e=>by simp at e
 | a::c,b::d,ha,hb,e=>by obtain ⟨j,k⟩:=List.pairwise_cons.1 ha;obtain ⟨m,o⟩:=List.pairwise_cons.1 hb;have p:a=b:=(by have g:a∈b::d:=e.mem_iff.1 (by simp);have i:b∈a::c:=e.mem_iff.2 (by simp);rcases List.mem_cons.1 g with f | g;exact f;rcases List.mem_cons.1 i with f | i;exact f.symm;have:=j b i;have:=m a g;omega);subst p;rw [qE c d k o (List.perm_cons a |>.1 e)]
def aBl {b:List UInt8} {d:List Nat} (c:IsSuf (aI b) d) (a:List UInt8):(((d.drop (Nq (aI b) false (cZ a))).take (Nq (aI b) true (cZ a) - Nq (aI b) false (cZ a))).map fun n:Nat=>(n:Int)).mergeSort (fun e f=>decide (e<=f))=(fI b a).map fun n:Nat=>(n:Int):=by
 refine qE _ _ ?_ ?_ ((List.mergeSort_perm _ _).trans ((aBs c a).map _));have:=List.pairwise_mergeSort (le:=fun e f:Int=>decide (e<=f)) (fun g i j k m=>by simp at*;omega) (fun g i=>by simp;omega) (((d.drop (Nq (aI b) false (cZ a))).take (Nq (aI b) true (cZ a) - Nq (aI b) false (cZ a))).map fun n:Nat=>(n:Int));exact this.imp fun c=>by simpa using c
 rw [List.pairwise_map];unfold fI;refine (List.Pairwise.filter _ List.pairwise_lt_range).imp fun {g i} c=>?_;omega
def vV (e gk:Nat) (g:List Nat) (o m f:Nat) (x:World) (a6:WalkAt x e gk g) (Y:f < 257) (aC:o<=m) (a7:m<=g.length) (V:∀O∈g,O < 257) (J:g.length<=1000):
 Calls prog 155 #[gk,(o:Int),(m:Int),(f:Int)] x fun q ad=>q=.returned (.tuple #[.int .i64 ((bZ g f o:Nat):Int),.int .i64 ((bZ g f m:Nat):Int)])/\VB e x ad:=by
 obtain ⟨D,W⟩:=eqx g.length;obtain ⟨j,E⟩:∃j,g.countP (fun O=>decide (O < f))=j:=⟨_,rfl⟩;obtain ⟨r,F⟩:=eqx ((g.take o).count f);obtain ⟨s,G⟩:=eqx ((g.take m).count f);have af:j<=1000:=by rw [<-E];exact zAk zBh J
 have b1:r<=1000:=by rw [<-F];exact zAk zBv (by rw [zAj];omega)
 have b2:s<=1000:=by rw [<-G];exact zAk zBv (by rw [zAj];omega)
 unfold bZ;rw [E,F,G];obtain ⟨w,a5,L,M,a0⟩:=a6;have C:Hid (WalkAt x e gk g):=lhd ⟨w,a5,L,M,a0⟩;obtain ⟨t,T⟩:=hqq2 L M;have aE:D<=1000:=oM;have aD:m<=D:=oM;obtain ⟨A,R,z,y,S,a1,a2⟩:=hqq7 Y V J W E F G;have a9:max (o:Int) 0=(o:Int):=oM;have aa:min (o:Int) (D:Int)=(o:Int):=oM;have ab:min (m:Int) (D:Int)=(m:Int):=oM;have ac:max (m:Int) (o:Int)=(m:Int):=oM;clear L M a0 V J E F G a7;go_enter func155,ntmps155;go_wp2_with fail;refine (eO f _ Y).mono ?_;rintro q w1 ⟨rfl,X⟩;have Z:VB e x w1:=VisK.of_below X;have B:=lhd Z;clear X Z;go_wp2_with fail;refine (jR e gk g _ (C.out.vis B.out.1)).mono ?_;rintro q k ⟨rfl,rfl⟩;rw [y.out];go_wp2_with fail;refine (jR e gk g _ (C.out.vis B.out.1)).mono ?_;rintro q k ⟨rfl,rfl⟩;rw [y.out];go_wp2_with fail;have p:=lhd B.out;clear B a9 aa ab ac W;obtain ⟨k,a8⟩:∃k,k=w1:=⟨_,rfl⟩;subst a8;refine wp_region_any kR ?_;refine aX [28,29,30,31,32,33,34,35,36,37,38,39,40,41,42,43,44,45,46,47,48,49,8,9] (VB e) (Vs [is gk,is (f:Int),is (j:Int),is gk,is gk,is gk,is w,is (o:Int),is (f:Int),is (r:Int),is (.int .i64 ((j+r:Nat):Int)),is gk,is (f:Int),is (j:Int),is gk,is gk,is gk,is w,is (m:Int),is (f:Int),is (s:Int),is (.int .i64 ((j+s:Nat):Int)),is (.int .i64 ((j+r:Nat):Int)),is (.int .i64 ((j+s:Nat):Int))]) _ _ rfl kR vR (fun _ _=>VisK.trans) (cM tA0) ?_ ?_
 · refine aR ?_;refine pH 0 (.pointer (some gk)) ?_;refine pH 3 (.int .i64 (f:Int)) ?_;refine sC (fun _ d a _ _ _ b _ _ _ c=>?_) ?_
   · have ag:_=_:=b 0 28 kR rfl;have ah:_=_:=b 1 29 kR rfl;replace a:(VB e) k d:=bD a;go_simp;refine (gT e gk g f d (C.out.vis (p.out.trans a).1) A.out z.out).mono ?_;rintro q N ⟨rfl,I⟩;rw [S.out];exact c _ _ (VisK.of_below I) rfl
   refine pH 0 (.pointer (some gk)) ?_;refine sC (fun _ d a _ _ _ b _ _ _ c=>?_) ?_
   · have aj:_=_:=b 3 31 kR rfl;replace a:(VB e) k d:=bD a;have i:=(p.out.trans a).1.bk t.out dC dC;have u:=i.cell 0;have v:=i.cell 1;go_simp;exact c _ _ vR rfl
   refine sC (fun _ d a _ _ _ b _ _ _ c=>?_) ?_
   · have ak:_=_:=b 4 32 kR rfl;replace a:(VB e) k d:=bD a;have i:=(p.out.trans a).1.bk t.out dC dC;have u:=i.cell 0;have v:=i.cell 1;go_simp;exact c _ _ vR rfl
   refine sC (fun _ d a _ _ _ b _ _ _ c=>?_) ?_
   · have al:_=_:=b 5 33 kR rfl;replace a:(VB e) k d:=bD a;have i:=(p.out.trans a).1.bk t.out dC dC;have u:=i.cell 0;have v:=i.cell 1;go_simp;exact c _ _ vR rfl
   refine pH 1 (.int .i64 (o:Int)) ?_;refine pH 3 (.int .i64 (f:Int)) ?_;refine sC (fun _ d a _ _ _ b _ _ _ c=>?_) ?_
   · have am:_=_:=b 6 34 kR rfl;have an:_=_:=b 7 35 kR rfl;have ao:_=_:=b 8 36 kR rfl;replace a:(VB e) k d:=bD a;go_simp;refine (gF e w g o f d (T.out.vis (p.out.trans a).1) A.out (by rw [y.out];omega) R.out z.out).mono ?_;rintro q N ⟨rfl,K⟩;rw [a1.out];exact c _ _ K rfl
   refine sC (fun _ _ _ _ _ _ b _ _ _ c=>?_) ?_
   · have ai:_=_:=b 2 30 kR rfl;have ap:_=_:=b 9 37 kR rfl;have H:IntKind.i64.wrap ((j:Int)+(r:Int))=((j+r:Nat):Int):=(by rw [IntKind.wrap_i64];omega);go_simp;exact c _ _ vR (by first | rfl | exact H | simp [is])
   refine pH 0 (.pointer (some gk)) ?_;refine pH 3 (.int .i64 (f:Int)) ?_;refine sC (fun _ d a _ _ _ b _ _ _ c=>?_) ?_
   · have aq:_=_:=b 11 39 kR rfl;have ar:_=_:=b 12 40 kR rfl;replace a:(VB e) k d:=bD a;go_simp;refine (gT e gk g f d (C.out.vis (p.out.trans a).1) A.out z.out).mono ?_;rintro q N ⟨rfl,I⟩;rw [S.out];exact c _ _ (VisK.of_below I) rfl
   refine pH 0 (.pointer (some gk)) ?_;refine sC (fun _ d a _ _ _ b _ _ _ c=>?_) ?_
   · have av:_=_:=b 14 42 kR rfl;replace a:(VB e) k d:=bD a;have i:=(p.out.trans a).1.bk t.out dC dC;have u:=i.cell 0;have v:=i.cell 1;go_simp;exact c _ _ vR rfl
   refine sC (fun _ d a _ _ _ b _ _ _ c=>?_) ?_
   · have aw:_=_:=b 15 43 kR rfl;replace a:(VB e) k d:=bD a;have i:=(p.out.trans a).1.bk t.out dC dC;have u:=i.cell 0;have v:=i.cell 1;go_simp;exact c _ _ vR rfl
   refine sC (fun _ d a _ _ _ b _ _ _ c=>?_) ?_
   · have ax:_=_:=b 16 44 kR rfl;replace a:(VB e) k d:=bD a;have i:=(p.out.trans a).1.bk t.out dC dC;have u:=i.cell 0;have v:=i.cell 1;go_simp;exact c _ _ vR rfl
   refine pH 2 (.int .i64 (m:Int)) ?_;refine pH 3 (.int .i64 (f:Int)) ?_;refine sC (fun _ d a _ _ _ b _ _ _ c=>?_) ?_
   · have ay:_=_:=b 17 45 kR rfl;have az:_=_:=b 18 46 kR rfl;have aA:_=_:=b 19 47 kR rfl;replace a:(VB e) k d:=bD a;go_simp;refine (gF e w g m f d (T.out.vis (p.out.trans a).1) A.out (by rw [y.out];omega) R.out z.out).mono ?_;rintro q N ⟨rfl,K⟩;rw [a2.out];exact c _ _ K rfl
   refine sC (fun _ _ _ _ _ _ b _ _ _ c=>?_) ?_
   · have au:_=_:=b 13 41 kR rfl;have aB:_=_:=b 20 48 kR rfl;have H:IntKind.i64.wrap ((j:Int)+(s:Int))=((j+s:Nat):Int):=(by rw [IntKind.wrap_i64];omega);go_simp;exact c _ _ vR (by first | rfl | exact H | simp [is])
   refine pV 10 38 ?_;refine pV 21 49 ?_;exact aH
 · intro U ae a b;replace a:(VB e) k ae:=bD a;have a3:U (.tmp 8)=.int .i64 ((j+r:Nat):Int):=b 22 8 rfl;have a4:U (.tmp 9)=.int .i64 ((j+s:Nat):Int):=b 23 9 rfl;simp only [zqq];rw [a3];rw [a4];clear b;go_wp2_with fail;go_ret2;exact ⟨rfl,p.out.trans a⟩
end
section
open Go.RowKit Go.Shelf
attribute [local go_sem] Oper.semAt_some
section
variable {P : Program} {ops : Array Oper} {md : Region.Mode} {Q : Exit -> Act -> World -> Prop} {l n : Nat}
def aEE {f:Oper} {e:Act} {d:Act->World->Prop} {b:Result Next} (a:f.upon P e d Q b):f.uponIn (Fence.wide.inRound l) n P e d Q b:=by
 cases b with
 | ok c s=>
   cases c with
   | value g=>exact a
   | skip=>exact a
   | defer t=>exact a
   | enter u j=>
     refine ⟨fun a=>(by simp [Fence.wide] at a),CallsIn.inRound l (callsIn_wide.2 (Calls.mono a ?_))⟩;intro o i p;cases o <;> exact p
   | row row j=>
     refine ⟨fun a=>(by simp [Fence.wide] at a),fun k m _=>?_⟩;obtain ⟨g,i,q,r⟩:=a k m;exact ⟨g,i,q,stepsIn_wide.2 r⟩
   | _=>exact a.elim
 | halt c s=>cases c <;> exact a
def aCK (r:¬LetsOut Q) (p:∀(e:Nat) (f:Oper),ops[e]?=some f->∀o,f.op≠.defer o):∀(d:Nat) (i:Array Bool) (b:Act) (c:World),wpAny P md ops Q d i b c->wpAnyIn (Fence.wide.inRound l) n P md ops Q d i b c:=by
 intro d
 induction d with
 | zero=>intro i b c g;exact g
 | succ d k=>
   intro i b c g;refine ⟨g.1,fun e q=>?_⟩;have a:=g.2 e q;unfold wpOp at a;unfold wpOpIn;cases j:ops[e]? with
   | none=>
     rw [j] at a;exact k _ _ _ a
   | some f=>
     rw [j] at a;simp only at a⊢;by_cases m:Region.wanted f (yielded ops b.tmps)=true;rw [zBx m] at a⊢;rcases a with a | a;refine ⟨fun _ _=>trivial,?_⟩;rw [Oper.semAt_eq _ _ _ (p e f j)];exact aEE (Oper.wp_mono (fun b c=>k _ b c) a);exact absurd a.2 r;rw [zBw m] at a⊢;exact ⟨fun _ _=>trivial,k _ _ _ a⟩
end
def KpB (b1 b2:Nat) (b c:World):Prop:=∀a:Addr,(a.block=b1∨a.block=b2)->c.cell? a=b.cell? a
def KpB.trans {b1 b2:Nat} {a b c:World} (f:KpB b1 b2 a b) (g:KpB b1 b2 b c):KpB b1 b2 a c:=fun e d=>(g e d).trans (f e d)
def bkL (a:List UInt8) (c:Nat):List (Nat×UInt8):=(List.range c).map fun b=>(a.length - 1 - b,a.getD (a.length - 1 - b) 0)
def aHA (a:List UInt8) (b:Nat):bkL a (b+1)=bkL a b++ [(a.length - 1 - b,a.getD (a.length - 1 - b) 0)]:=by simp [bkL,List.range_succ]
def aIu (b:List UInt8) (a:Nat):(bkL b a).length=a:=by simp [bkL]
def aA8 (s:Fence) (n:Nat) (Z:s.fn 221) (a1:s.round=none) (a9:1<=n) (l j o y V:Nat) (z:Option Addr) (b:List UInt8) (C:0 < b.length->z=some ⟨o,y,none⟩) (a0:b.length<=1000000) (m A:List (Nat×UInt8)->World->Prop)
 (F:∀g i e,m g e->g.length < b.length->YieldAt s (n - 1) prog l #[(i.1:Int),.int .u8 (i.2.toNat:Int)] e fun d f=>
  (d=.returned (.bool true)/\m (g++ [i]) f/\KpB j o e f)∨(d=.returned (.bool false)/\A (g++ [i]) f))
 (e:World) (u:e.cell? j=some (.slice z b.length V)) (G:∀a,a < b.length->e.cell? ⟨o,y+a,none⟩=some (.int .u8 ((b.getD a 0).toNat:Int))) (B:m [] e):
 CallsIn s n prog 221 #[.func (.yield l) #[] #[],j] e fun d f=>(∃a3,d=.returned a3)/\
  ((∃J,J=bkL b b.length/\m J f)∨(∃g,True/\A g f)):=by
 obtain ⟨c,w⟩:=eqx b.length;rw [w] at u a0;obtain ⟨L,k,O,S,M,K⟩:=hqq6 C w F G u B;clear w F G B C;refine callsIn_of_wp func221 rfl Z ?_ a1;simp only [ntmps221,List.size_toArray,zCf,List.length_nil,Nat.reduceAdd,Nat.reduceSub,Array.replicate_succ,Array.replicate_zero,List.push_toArray,List.append_toArray,List.nil_append,List.cons_append]
 gi_wp2
 clear u
 gi_loopw [3] (fun x wr=>∃r:Nat,r<=c/\x=.int .i64 ((r:Int) - 1)/\m (bkL b (c - r)) wr/\KpB j o e wr) (fun x _=>(intOf x+1).toNat)
 case atStart=>exact ⟨c,zAs _,rfl,by rw [Nat.sub_self];exact K.out,fun _ _=>rfl⟩
 case round=>
  obtain ⟨r,aa,rfl,p,q⟩:=hrel;rcases r with _ | a
  · have d:((0:Nat):Int) - 1=-1:=oM;rw [d];rw [Nat.sub_zero] at p;have N:=lhd p;clear p q
    gi_wp2
    go_end0;exact ⟨⟨_,rfl⟩,.inl ⟨_,rfl,by rw [k.out];exact N.out⟩⟩
  · have d:((a+1:Nat):Int) - 1=(a:Int):=oM;rw [d];have v:bkL b (c - a)=bkL b (c -(a+1))++ [(a,b.getD a 0)]:=(by rw [show c - a=(c -(a+1))+1 by omega,aHA,k.out,show c - 1 -(c -(a+1))=a by omega]);have X:=(q ⟨j,0,none⟩ (.inl rfl)).trans M.out;rw [L.out (by rw [k.out];omega)] at X;have Y:=(q ⟨o,y+a,none⟩ (.inr rfl)).trans (S.out a (by rw [k.out];omega));have a8:a < c:=oM;obtain ⟨i,I⟩:=eqx (b.getD a 0);rw [I] at Y v;obtain ⟨a7,ab,a5,a6,a2,W⟩:=O.out (bkL b (c -(a+1))) (a,i) wr p (by rw [aIu,k.out];omega);dsimp only at a2;obtain ⟨R,T⟩:=hqq2 v q;clear v q p d I
    gi_wp2
    refine W.mono ?_;rintro d a4 (⟨rfl,D,H⟩|⟨rfl,E⟩)
    · obtain ⟨t,U⟩:=hqq2 D H;clear D H
      gi_wp2
      go_roundw
      case rel=>exact ⟨a,by omega,rfl,by rw [R.out];exact t.out,T.out.trans U.out⟩
      case measure=>simp [intOf]
    · have t:=lhd E;clear E
      gi_wp2
      refine bodyPost_ret (results_none rfl _ _ _) rfl ?_;exact ⟨⟨_,rfl⟩,.inr ⟨_,trivial,t.out⟩⟩
end
section
open Go.RowKit
def aGN (l:List Nat) (e:List Nat):∀c,rO l e c=true↔∀(a d:Nat),e[a]?=some d->aN l (c+a)=(d:Int):=by
 induction e with
 | nil=>intro c;exact ⟨fun _ a d b=>by simp at b,fun _=>rfl⟩
 | cons k e j=>
   intro c;rw [yT,zBd,zCa,j];constructor
   · rintro ⟨f,g⟩ a d b;rcases a with _ | a;simp at b;subst b;exact f
     · have:=g a d (by simpa using b);rwa [show c+(a+1)=c+1+a by omega]
   · intro b;refine ⟨b 0 k (by simp),fun a d i=>?_⟩;have:=b (a+1) d (by simpa using i);rwa [show c+1+a=c+(a+1) by omega]
def aEB (d:List UInt8) {c:Nat} {a:UInt8} (b:d[c]?=some a):aN (aI d) c=((a.toNat+1:Nat):Int):=by
 have e:=(zAc.1 b).1;refine lG ?_;unfold aI cZ;rw [zAn (by simpa using e),zAf,b];rfl
def aDa (c k:List UInt8) (d:Nat):rO (aI c) (cZ k) d=true↔∀(a:Nat) (b:UInt8),k[a]?=some b->c[d+a]?=some b:=by
 rw [aGN];constructor
 · intro f a b g;have:=f a (b.toNat+1) (by unfold cZ;rw [zAf,g];rfl);cases j:c[d+a]? with
   | none=>
     exfalso;have o:=List.getElem?_eq_none_iff.1 j;rcases Nat.eq_or_lt_of_le o with e | e
     · have:aN (aI c) (d+a)=0:=by
         rw [lG (x:=0)];rfl
         · unfold aI cZ;rw [zAo (by simp;omega)];simp [e]
       omega
     have:aN (aI c) (d+a)=-1:=lR (by rw [aO];omega);omega
   | some m=>
     rw [aEB c j] at this;have e:m.toNat=b.toNat:=oM;rw [UInt8.toNat_inj.1 e]
 intro f a p i;unfold cZ at i;rw [zAf] at i;obtain ⟨b,g,rfl⟩:=Option.map_eq_some_iff.1 i;exact aEB c (f a b g)
def aC9 (e b:List UInt8):e.isPrefixOf b=true↔∀(d:Nat) (c:UInt8),e[d]?=some c->b[d]?=some c:=by
 rw [List.isPrefixOf_iff_prefix];constructor;rintro ⟨i,rfl⟩ d c a;rw [zAn (by obtain ⟨j,_⟩:=zAc.1 a;exact j)];exact a
 · intro a
   induction e generalizing b with
   | nil=>exact List.nil_prefix
   | cons f e o=>
     cases b with
     | nil=>exact absurd (a 0 f rfl) (by simp)
     | cons p b=>
       have g:=a 0 f rfl;simp at g;subst g;obtain ⟨i,m⟩:=o b fun d c k=>by simpa using a (d+1) c (by simpa using k)
       exact ⟨i,by rw [List.cons_append,m]⟩
def aBE (g f:List UInt8) (e:Nat):rO (aI g) (cZ f) e=f.isPrefixOf (g.drop e):=by
 rw [Bool.eq_iff_iff,aDa,aC9];constructor;intro b d a c;rw [zBt];exact b d a c;intro b d a c;have:=b d a c;rw [zBt] at this;exact this
def aDs (b c:List UInt8):∀a,b.length+1 - c.length<=a->a<=b.length+1->mB b c a=dL b c:=by
 intro a e
 induction a with
 | zero=>
   intro _;have:b.length+1 - c.length=0:=oM;rw [dL,this]
 | succ a g=>
   intro i;rcases Nat.eq_or_lt_of_le e with d | d
   · rw [dL,d]
   · rw [aFp,g oM oM];cases f:c.isPrefixOf (b.drop a) with
     | false=>rfl
     | true=>
       exfalso;have:=(List.isPrefixOf_iff_prefix.1 f).length_le;rw [zAw] at this;omega
def pM (a b:List UInt8):fI a b=dL a b:=by
 rw [<-aDs a b (a.length+1) oM nL];unfold fI mB;congr 1;funext i;exact aBE a b i
def aDb (b a:List UInt8):(fI b a).length=occ (aI b) (cZ a):=by
 unfold fI occ;rw [List.countP_eq_length_filter,aO]
structure Part (l:List Nat) (x j:Nat) (L:List Nat):Prop where
 perm:L.Perm (List.range' x j)
 sorted:L.Pairwise (sufLt l)
def Part.len {l a:List Nat} {d b:Nat} (c:Part l d b a):a.length=b:=by simpa using c.perm.length_eq
def Part.mem {l c:List Nat} {b d a:Nat} (e:Part l b d c) (f:a∈c):b<=a/\a < b+d:=by
 have:=e.perm.mem_iff.1 f;rw [List.mem_range'_1] at this;exact this
def Part.rel {l a:List Nat} {i g c b:Nat} (d:Part l i g a) (e:c < b) (f:b < a.length):sufLt l (a[c]' oM) a[b]:=zAr.1 d.sorted c b oM f e
def Part.put {l b:List Nat} {d k c:Nat} (i:Part l (d+1) k b) (s:d < l.length) (t:d+1+k<=l.length) (u:c<=b.length) (q:∀a (f:a < b.length),a < c->sufLt l b[a] d) (r:∀a (f:a < b.length),c<=a->¬sufLt l b[a] d):
 Part l d (k+1) (b.take c++d::b.drop c):=by
 constructor;rw [List.range'_succ];refine List.perm_middle.trans (List.Perm.cons d ?_);rw [zAu];exact i.perm;have g:=i.sorted;rw [<-zAu c b,List.pairwise_append] at g;rw [List.pairwise_append];refine ⟨g.1,List.pairwise_cons.2 ⟨fun m e=>?_,g.2.1⟩,fun p o m e=>?_⟩;obtain ⟨a,f,rfl⟩:=zBo.1 e;rw [zAw] at f;rw [List.getElem_drop];have v:=i.mem (zBj (l:=b) (n:=c+a) oM);rcases sufLt.tri s (by omega:b[c+a]' oM < l.length) oM with j | j;exact j;exact absurd j (r (c+a) oM oM);rcases List.mem_cons.1 e with rfl | e;obtain ⟨a,f,rfl⟩:=zBo.1 o;rw [zAj] at f;rw [List.getElem_take];exact q a oM oM;exact g.2.2 p o m e
end
end Go.Proofs.YtcfpmjbojoidoaaGreatDoor
