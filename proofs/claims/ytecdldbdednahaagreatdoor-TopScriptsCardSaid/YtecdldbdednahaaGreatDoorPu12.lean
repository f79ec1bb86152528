/- Lemmas of the walk. Conditions: each its own. -/
import Derived.Test.YtecdldbdednahaaGreatDoorPu10
import Derived.Test.YtecdldbdednahaaGreatDoorProg
import Derived.Test.YtecdldbdednahaaGreatDoorShl
import Derived.Test.YtecdldbdednahaaGreatDoorShi
set_option linter.all false
set_option maxRecDepth 100000
set_option maxHeartbeats 4000000
open Go.Proofs.Tryz
namespace Go.Proofs.YtecdldbdednahaaGreatDoor
section
open Go.RowKit
section
variable {w w' : World} {B B' sz n : Nat} {A : Option Addr} {xs : List Value}
end
section
variable {P : Program} (t e : TypeId) (sz : Nat) (ht : P.underlying t = some (.slice e)) (hs : ∀ w, (sizeOf e).run P w = .ok sz w)
include ht hs
end
section
variable {w w' : World} {g : Nat} {t : TypeId} {cs : Array Value}
end
section
variable {F G : Nat -> Prop} {w w1 w' : World}
end
section
variable {P : Program} (w : World)
end
def aCs {P} (t) (f:P.underlying t=some .string) (b:ByteArray) (a) (j:a < b.size) (c):
 (Instr.index t (.string b) (.int .i64 (a:Int))).run P c=.ok (.int .u8 ((b[a]'j).toNat:Int)) c:=by
 rw [run_index_string (h:=f),dif_pos oM];rfl
end
section
open Go.RowKit Go
section
variable {P : Program} {ops : Array Oper} {Q : Exit -> Act -> World -> Prop} {md : Region.Mode}
def fU {s} {S:Nat->World->World->Prop} {v:Nat->World->Prop} {o x l g d b c} (T:ops[l]?=some c) (M:c.guard=some (g,b)) (D:((ops[g]?).bind (·.dst))=some d) (O:c.after.toList.any (fun e=>Region.binds md e&&e.on==g)=true) (V:∀f w,s w->o g f w->f=.bool b) (H:∀k:Operand->Value,∀w,s w->v l w->(∀f,k (.const f)=f)->(∀y,k (.func y)=.func (.func y) #[] #[])->(∀t,qO md ops l t=true->k (.tmp t)=x.eval (.tmp t))->
  (∀i d,c.after.toList.any (fun e=>Region.binds md e&&e.on==i)=true->((ops[i]?).bind (·.dst))=some d->o i (k (.tmp d)) w)->
  ∀a p,a.eval=k->(∀f w',S l w w'->o l f w'->p (a.put c.dst f) w')->Oper.upon P c a p Q ((execOp k c).run P w)):cX P ops Q md s S v o x l c:=by
 intro a w C K a0 Z U W p J;have E:∀i d,c.after.toList.any (fun e=>Region.binds md e&&e.on==i)=true->((ops[i]?).bind (·.dst))=some d->o i (a.eval (.tmp d)) w:=by
  intro i d R q;obtain ⟨e,L,z⟩:=List.any_eq_true.1 R;simp only [zBd,zCq] at z;obtain ⟨I,rfl⟩:=z;cases u:ops[e.on]? with
  | none=>rw [u] at q;cases q
  | some Y=>rw [u] at q;exact W e (Array.mem_toList_iff.1 L) I Y d u q
 have j:=V _ _ C (E g d O D);unfold wpOp;simp only [T];have X:Region.wanted c (yielded ops a.tmps)=true:=by
  unfold Region.wanted;rw [M];have:yielded ops a.tmps g=some b:=by
   unfold yielded;rw [D];change a.tmps.getD d undef=.bool b at j;rw [zAm] at j;rw [Option.bind_some];cases ht:a.tmps[d]? with
   | none=>rw [ht] at j;cases j
   | some a1=>rw [ht] at j;simp only [Option.getD_some] at j;rw [j]
  simp only [this,beq_self_eq_true]
 rw [zBx X];exact .inl (H a.eval w C K (fun _=>rfl) (fun _=>rfl) (fun t ht=>U t ht) E a p rfl J)
end
section
variable {P : Program} {ops : Array Oper} {Q : Exit -> Act -> World -> Prop} {md : Region.Mode}
def aCd (n u b) (S:Nat->World->World->Prop) (k:Nat->World->Prop) (c f l) (M:(ops.toList.take n).filterMap (·.dst)=u) (W:n<=ops.size) (V:iT md ops f.tmps.size=true) (a2:((List.range ops.size).all fun p=>decide (p < n)||(List.range n).all fun i=>upB md ops ops.size p i)=true) (H:b l) (K:∀i,k i l) (E:∀a w w',a < n->b w->S a w w'->b w') (J:∀i a w w',a < n->i≠a->upB md ops ops.size a i=false->k i w->b w->S a w w'->k i w') (Z:∀i a y w w',a < n->i≠a->uD md ops i a=false->upB md ops ops.size i a=false->c i y w->b w->S a w w'->c i y w') (a0:∀a q,a < n->ops[a]?=some q->cX P ops Q md b S k c f a q) (O:∀(z:Operand->Value) w v,b w->(∀i d,i < n->((ops[i]?).bind (·.dst))=some d->c i (z (.tmp d)) w)->wpAny P md ops Q (ops.size - n+v) (bX n ops.size) (dK z u f) w):
 wpAny P md ops Q ops.size (Array.replicate ops.size false) f l:=by
 refine qF n b S k c f l W V a2 H K E J Z a0 fun s w v I a1 L X a3=>?_;have o:=O s.eval w v I fun i d R j=>by
  cases x:ops[i]? with
  | none=>rw [x] at j;cases j
  | some q=>
    rw [x] at j;obtain ⟨y,o,D⟩:=a3 i q R x;have:=o d j;change c i (s.tmps.getD d undef) w;rw [this];exact D
 rw [<-mE s f u a1 L fun t ht=>X t fun p C T Y j=>ht ?_] at o;exact o;rw [<-M];refine List.mem_filterMap.2 ⟨C,?_,j⟩;have U:(ops.toList.take n)[p]?=some C:=(by rw [zBs,zBx T,Array.getElem?_toList];exact Y);exact zAd U
end
end
section
open Go.RowKit Go Go.Sort
def sufLt.tri {b f j} (k:f < b.length) (o:j < b.length) (l:f≠j):sufLt b f j∨sufLt b j f:=by
 rcases oY (a:=aN b) b.length f j with c | c | c;exact .inl ⟨_,c⟩;exact absurd c (aFG nL k o l);exact .inr ⟨_,c⟩
section
variable {α : Type} [Inhabited α] {enc : α -> Value} {w : World} {blk : Nat} {t : TypeId} {d d' : Array α}
end
section
variable {m : Nat} {d : Array (Fin (m + 1))}
end
end
section
open Go.RowKit
def aJq (t):aN (aJ t) t.length=0:=by
 refine lI (x:=0) ?_;unfold aJ dI;rw [zAo (by simp)];simp
def sO (a:List UInt8):(⟨a.toArray⟩:ByteArray).size=a.length:=by simp [ByteArray.size]
def aEa {t:List UInt8} {b:Nat} {c:UInt8} (f:t[b]?=some c):∀a,(Instr.index 9 (.string ⟨t.toArray⟩) (.int .i64 (b:Int))).run prog a=.ok (.int .u8 (c.toNat:Int)) a:=fun a=>by
 obtain ⟨j,k⟩:=zAc.1 f;rw [aCs (P:=prog) 9 underlying9 ⟨t.toArray⟩ b (by rw [sO];exact j) a];congr 4
def aCm {t a b c d} (l:t[a]?=some c) (o:t[b]?=some d):sufLt (aJ t) a b↔c.toNat < d.toNat∨(c.toNat=d.toNat/\sufLt (aJ t) (a+1) (b+1)):=by
 rw [iW,pM t l,pM t o];constructor;rintro (j |⟨k,f⟩);exact .inl oM;exact .inr ⟨by omega,f⟩;rintro (j |⟨k,f⟩);exact .inl oM;exact .inr ⟨by omega,f⟩
def aD9 {t b} (a:b < t.length):sufLt (aJ t) t.length b:=by
 rw [iW,aJq,pM t (zAa a)];exact .inl oM
def aD8 {t a} (c:a < t.length):¬sufLt (aJ t) a t.length:=by
 rw [iW,aJq,pM t (zAa c)];rintro (b |⟨b,_⟩);omega;omega
def aJz (t:List UInt8) (a b:Nat) (w:World) (e:Ending) (w':World):Prop:=∃r:Bool,e=.returned (.bool r)/\(r=true↔sufLt (aJ t) a b)/\∃c,w'=w.drewN c
def aIV (t) (l o n:Nat) (w) (I:t.length=n) (a2:n<=1000) (V:l<=n) (X:o<=n) (W:l≠o):
 Calls prog 67 #[.string ⟨t.toArray⟩,(l:Int),(o:Int)] w (aJz t l o w):=by
 have a5:(⟨t.toArray⟩:ByteArray).size=n:=(sO t).trans I;have p:=lhd I;clear I;go_enter func67,ntmps67;go_wp2_with fail;go_loopw [1,2] (fun J Z wr=>∃f j D:Nat,f<=n/\j<=n/\f≠j/\J=.int .i64 (f:Int)/\Z=.int .i64 (j:Int)/\(sufLt (aJ t) l o↔sufLt (aJ t) f j)/\wr=w.drewN D) (fun J _ _=>n -(intOf J).toNat)
 case atStart=>exact ⟨l,o,0,V,X,W,rfl,rfl,Iff.rfl,rfl⟩
 case round=>
  obtain ⟨f,j,D,a0,a1,a3,rfl,rfl,R,rfl⟩:=hrel;have E:=lhd R;clear R;by_cases u:f < n/\j < n
  · obtain ⟨q,M⟩:=u;have y:t[f]?=some (t[f]'(by rw [p.out];exact q)):=zAa _;have z:t[j]?=some (t[j]'(by rw [p.out];exact M)):=zAa _;generalize t[f]'(by rw [p.out];exact q)=c at y;generalize t[j]'(by rw [p.out];exact M)=d at z;have hs:=aCm y z;have Y:=aEa y;have a4:=aEa z;have K:=lhd hs;have L:(f:Int) < (n:Int):=oM;have U:(j:Int) < (n:Int):=oM;clear hs y z;by_cases C:c.toNat=d.toNat
    · have H:(c.toNat:Int)=(d.toNat:Int):=oM;rw [H] at Y;have O:sufLt (aJ t) l o↔sufLt (aJ t) (f+1) (j+1):=(by rw [E.out,K.out];constructor;rintro (k | k);omega;exact k.2;exact fun k=>.inr ⟨C,k⟩);have T:=lhd O;clear H O C;go_wp2_with fail;go_quiet (fail);go_wp2_with fail;go_roundw
      case rel=>exact ⟨f+1,j+1,_,by omega,by omega,by omega,by go_num,by go_num,T.out,rfl⟩
      case measure=>simp [intOf];omega
    · have H:¬(c.toNat:Int)=(d.toNat:Int):=oM;have v:decide (c.toNat < d.toNat)=true↔sufLt (aJ t) l o:=(by rw [E.out,K.out,zCa];constructor;exact fun k=>.inl k;rintro (k | k);exact k;exact absurd k.1 C);have x:=lhd v;clear v C;go_wp2_with fail;go_quiet (fail);go_wp2_with fail;go_quiet (fail);go_wp2_with fail;go_ret;exact ⟨decide (c.toNat < d.toNat),bH (by simp),x.out,_,by rw [World.drewN_drewN,World.drewN_drewN]⟩
  · have v:decide ((j:Int) < (f:Int))=true↔sufLt (aJ t) l o:=(by rw [E.out,zCa];by_cases q:f < n;obtain rfl:j=n:=(by have:¬j < n:=fun k=>u ⟨q,k⟩;omega);constructor;intro k;omega;intro k;have s:=aD8 (t:=t) (a:=f) (by rw [p.out];exact q);rw [p.out] at s;exact absurd k s;obtain rfl:f=n:=oM;have s:=aD9 (t:=t) (b:=j) (by rw [p.out];omega);rw [p.out] at s;exact ⟨fun _=>s,fun _=>by omega⟩);have x:=lhd v;clear v;by_cases q:f < n
    · have L:(f:Int) < (n:Int):=oM;have U:¬(j:Int) < (n:Int):=(by have:¬j < n:=fun k=>u ⟨q,k⟩;omega);clear u;go_wp2_with fail;go_ret;exact ⟨decide ((j:Int) < (f:Int)),bH (by simp),x.out,D,rfl⟩
    · have L:¬(f:Int) < (n:Int):=oM;clear u;go_wp2_with fail;go_ret;exact ⟨decide ((j:Int) < (f:Int)),bH (by simp),x.out,D,rfl⟩
structure Shp where
 len:Int
 height:Int
 leaves:Int
 nodes:Int
def Shp.cells (a:Shp):List Value:= [iv a.len,iv a.height,iv a.leaves,iv a.nodes]
def Shp.val (a:Shp):Value:=.agg #[iv a.len,iv a.height,iv a.leaves,iv a.nodes]
def cF (a:List Shp):List Value:=a.flatMap Shp.cells
def Shp.zero:Shp:=⟨0,0,0,0⟩
def Shp.add (a b:Shp):Shp:=⟨a.len+b.len,max a.height b.height,a.leaves+b.leaves,a.nodes+b.nodes⟩
def eD (b i c) (f:Shp) (a:b[i]?=some f) (l:c < 4):(cF b)[i*4+c]?=f.cells[c]?:=by
 induction b generalizing i with
 | nil=>simp at a
 | cons k b j=>
   rcases i with _ | i
   · simp at a;subst a;simp only [cF,List.flatMap_cons,Nat.zero_mul,zBi];rw [zAn (by simp [Shp.cells];omega)]
   simp only [zCf] at a;have:=j i a;simp only [cF,List.flatMap_cons] at this⊢;rw [zAo (by simp [Shp.cells];omega)];rw [<-this];congr 1;simp [Shp.cells];omega
def rI (a):(cF a).length=a.length*4:=by
 induction a with
 | nil=>rfl
 | cons b a f=>
   have c:b.cells.length=4:=rfl;have e:cF (b::a)=b.cells++cF a:=(by simp [cF]);rw [e,zAi,f,c,zCg];omega
def shO (a:List Bool):Shp:=⟨(a.length:Int),0,1,1⟩
def shL (a:List Nat) (b:Nat):Nat->List Shp
 | 0=> []
 | p+1=>shL a b p++if aL a b p= [] then [] else [shO (aL a b p)]
def shA (a:List Nat):Nat->List Shp
 | 0=> []
 | lv+1=>shA a lv++shL a lv (2 ^ lv)
def aJS {f j b} {l:Shp} (a:l∈shL f j b):∃c,c < b/\aL f j c≠ []/\l=shO (aL f j c):=by
 induction b with
 | zero=>cases a
 | succ b p=>
   unfold shL at a;rcases zCp.1 a with a | a;obtain ⟨c,q,o⟩:=p a;exact ⟨c,by omega,o⟩
   · by_cases k:aL f j b= []
     · rw [zBx k] at a;cases a
     rw [zBw k] at a;exact ⟨b,by omega,k,List.mem_singleton.1 a⟩
def aJT {j f} {o:Shp} (a:o∈shA j f):∃c b,c < f/\b < 2 ^ c/\aL j c b≠ []/\o=shO (aL j c b):=by
 induction f with
 | zero=>cases a
 | succ f p=>
   unfold shA at a;rcases zCp.1 a with a | a;obtain ⟨c,b,l,k⟩:=p a;exact ⟨c,b,by omega,k⟩;obtain ⟨b,l,k⟩:=aJS a;exact ⟨f,b,by omega,l,k⟩
def aA1 (b c a):(shL b c a).length<=a:=by
 induction a with
 | zero=>exact zAs _
 | succ a f=>
   unfold shL;rw [zAi];split;simp;omega;simp;omega
def aJU (b):(shA b 9).length<=511:=by
 have a:=fun c=>aA1 b c (2 ^ c);have:=a 0;have:=a 1;have:=a 2;have:=a 3;have:=a 4;have:=a 5;have:=a 6;have:=a 7;have:=a 8;simp only [shA,zAi,List.length_nil];omega
def aKv (a b c):(aL a b c).length<=a.length:=by
 rw [jM];exact zBh
def aGY (b) (c:∀a∈b,a < 257):(aL b 0 0).length=b.length:=by
 rw [jM,List.countP_eq_length];intro a hs;have f:=c a hs;have:bG a 0=0:=by unfold bG;omega
 rw [this];rfl
def aH6 (a) (o:∀u∈a,u < 257) (j:a≠ []):∃c,shA a 9=⟨(a.length:Int),0,1,1⟩::c:=by
 have f:=aGY a o;have q:aL a 0 0≠ []:=fun e=>by rw [e] at f;exact j (zCx.1 f.symm)
 have k:shA a 1= [⟨(a.length:Int),0,1,1⟩]:=by show []++shL a 0 1=_;show []++([]++if aL a 0 0= [] then [] else [shO (aL a 0 0)])=_;rw [zBw q];unfold shO;rw [f];rfl
 have l:∀b,∃c,shA a (1+b)=⟨(a.length:Int),0,1,1⟩::c:=fun b=>by
  induction b with
  | zero=>exact ⟨[],k⟩
  | succ b s=>
    obtain ⟨c,p⟩:=s;refine ⟨c++shL a (1+b) (2 ^(1+b)),?_⟩;show shA a (1+b)++_=_;rw [p];rfl
 exact l 8
def aAZ (a b):cF (a++b)=cF a++cF b:=by simp [cF]
def aFw (F a w) (l:ArenaE w F a [true] []):
 Calls prog 146 #[a] w fun e w'=>e=.returned (.int .i64 1)/\Below w.heap.size w w':=by
 obtain ⟨_,f,k,c,j,b,_⟩:=l;have o:w.cell? a=some (.slice f 1 k):=(b.cell 0).trans rfl;have p:w.cell? ⟨a,1,none⟩=some (.slice c 0 j):=(b.cell 1).trans rfl;clear b;go_enter func146,ntmps146;go_wp2;go_quiet (fail);go_wp2;go_ret;exact ⟨rfl,kn bR _⟩
def aG4 (F) (b a:Nat) (j k l w) (ht:Bk w b 226 #[a,j,k,l]) (c:ArenaE w F a [true] []):
 Calls prog 227 #[b] w fun e w'=>e=.returned (.int .i64 1)/\Below w.heap.size w w':=by
 have p:=ht.cell 0;have f:=aFw F a w c;clear ht c;go_enter func227,ntmps227;go_wp2_with fail;refine f.mono ?_;rintro e w1 ⟨rfl,o⟩;clear f;go_wp2_with fail;go_ret;exact ⟨rfl,o⟩
def zU (F c v w) (J:TreeE w F c v) (af:v≠ []):
 Calls prog 195 #[c] w fun e w'=>e=.returned (shO v).val/\Below w.heap.size w w':=by
 have aa:=J;obtain ⟨aL,aK,bh,⟨z,_⟩|⟨z,_⟩|⟨z,aM,y,a8,bg,aN,aO,C,a9⟩⟩:=J;exact absurd z af;exact absurd z af;obtain ⟨U,K⟩:=eqx (w.alloc (.cells #[o0,o0,o0,o0] 80));obtain ⟨k,u⟩:=eqx w.heap.size;obtain ⟨n,Z⟩:=eqx v.length;have O:Below k w U:=by rw [<-K,<-u];exact bR.alloc nL _
 have X:Bk U k 80 #[o0,o0,o0,o0]:=by rw [<-K,<-u];exact ke _ _ _
 have T:=X.lt;have R:c < k:=by rw [<-u];exact C.tree.lt
 have aR:y < k:=by rw [<-u];exact C.row.lt.2
 have ae:=aG4 F c aK _ _ _ U (C.tree.below O R) (a9.vis (kc (by rw [u];exact O)));obtain ⟨aW,ah,ai,aZ,b0,b1,aj,b2,b3,b4,aX,aY⟩:=C.cells;have ag:(shO v).val=.agg #[(n:Int),o0,(1:Int),(1:Int)]:=by rw [<-Z];rfl
 obtain ⟨am,I,ap,ar,ay,a6,az,al,av⟩:=hqq9 K u O X ah ai aj aa Z;have ax:=lhd ag;clear aa aL z aM aN aO C a9 K u O X aW ah ai aZ b0 b1 aj b2 b3 b4 aX aY ag Z;rw [ax.out,I.out];go_enter func195,ntmps195;have V:w.cell? ⟨c,2,none⟩=some (.int .i64 0):=a6.out;have aS:c < w.heap.size:=by rw [I.out];exact R
 go_wp2_with fail;rw [am.out]
 try rw [I.out]
 refine ae.mono ?_;clear ae V aS;rintro e s ⟨rfl,M⟩;have L:Below k w s:=ap.out.trans (M.mono (zCm T));have Y:k<=s.heap.size:=zAk (zCm T) M.size;have ac:∀a,Keep (fun _=>False) s a->a.cell? ⟨c,1,none⟩=some (.slice (some y) 1 a8)/\a.cell? ⟨c,2,none⟩=some (.int .i64 0)/\a.cell? ⟨y,2,none⟩=some (.int .i64 0):=fun a a1=>by have D:=L.trans (a1.to_below Y fun a7 _ o=>o.elim);exact ⟨(D.cell R).trans ay.out,(D.cell R).trans a6.out,(D.cell aR).trans az.out⟩
 have ad:∀a,Keep (fun _=>False) s a->Calls prog 194 #[c] a fun e w'=>e=.returned (.int .i64 (n:Int))/\Below a.heap.size a w':=fun a a1=>by have D:=L.trans (a1.to_below Y fun a7 _ o=>o.elim);have:=eZ c v a (al.out.at.below (by rw [I.out];exact D));rw [av.out] at this;exact this
 obtain ⟨a5,an,H,au⟩:=hqq4 (ar.out.below M T) L ac ad;clear M L Y ac ad T;go_wp2_with fail;refine wp_region_any kR ?_;refine cK 18 [16,17,18,19,20,21,22,23,24,25,26,27,28,29,30,31,32,33] (fun _=>False) 0 [] (fun _=>True) (is c) [cJ,is (n:Int),is c,is c,is (.pointer (some ⟨c,1,none⟩)),is (.slice (some y) 1 a8),is c,is c,is (.pointer (some ⟨c,2,none⟩)),is o0,is y,is (.pointer (some ⟨y,2,none⟩)),is o0,is (.int .i64 1),is (.int .i64 2),is (.int .i64 1),is (.int .i64 1),is (.agg #[(n:Int),o0,(1:Int),(1:Int)])] _ _ rfl dC kR kR kR (trivial) (fun _ _ _ _ _=>trivial) (fun _ _ _ J _=>J) tA0 ?_ ?_
 · refine bJ ?_;refine sC3 (fun x _ _ _ _ _ aU _ _ _ _ l=>?_) ?_
   · have b5:x (.tmp 0)=.pointer (some c):=aU 0 kR;go_simp;exact l _ _ (aT (kf _ _)) rfl
   refine sC3 (fun x a b _ _ _ _ j _ _ _ l=>?_) ?_
   · replace b:Keep (fun _=>False) s a:=kD b;have aV:(is c) (x (.tmp 16)) a:=j 0 16 kR rfl;have b6:x (.tmp 16)=.pointer (some c):=aV;have aQ:=au.out a b;go_simp;refine aQ.mono ?_;rintro e bi ⟨rfl,aP⟩;exact l _ _ (aE aP) rfl
   refine pH3 0 (.pointer (some c)) ?_;refine pV3 2 18 ?_;refine pV3 3 19 ?_;refine sC3 (fun _ a b _ _ _ _ j _ _ _ l=>?_) ?_
   · replace b:Keep (fun _=>False) s a:=kD b;have b8:_=_:=j 4 20 kR rfl;obtain ⟨a2,a3,a4⟩:=H.out a b;go_simp;exact kq l rfl
   refine pH3 0 (.pointer (some c)) ?_;refine pV3 6 22 ?_;refine pV3 7 23 ?_;refine sC3 (fun _ a b _ _ _ _ j _ _ _ l=>?_) ?_
   · replace b:Keep (fun _=>False) s a:=kD b;have ba:_=_:=j 8 24 kR rfl;obtain ⟨a2,a3,a4⟩:=H.out a b;go_simp;exact kq l rfl
   refine sC3 (fun _ a b _ _ _ _ j _ _ _ l=>?_) ?_
   · replace b:Keep (fun _=>False) s a:=kD b;have b9:_=_:=j 5 21 kR rfl;have bb:_=_:=j 9 25 kR rfl;obtain ⟨a2,a3,a4⟩:=H.out a b;go_simp;exact kq l rfl
   refine pV3 10 26 ?_;refine sC3 (fun _ a b _ _ _ _ j _ _ _ l=>?_) ?_
   · replace b:Keep (fun _=>False) s a:=kD b;have bc:_=_:=j 11 27 kR rfl;obtain ⟨a2,a3,a4⟩:=H.out a b;go_simp;exact kq l rfl
   refine pH3 3 (.int .i64 1) ?_;refine pV3 13 29 ?_;refine pV3 14 30 ?_;refine pH3 3 (.int .i64 1) ?_;refine sC3 (fun _ _ _ _ _ _ _ j _ _ _ l=>?_) ?_
   · have b7:_=_:=j 1 17 kR rfl;have bd:_=_:=j 12 28 kR rfl;have be:_=_:=j 15 31 kR rfl;have bf:_=_:=j 16 32 kR rfl;go_simp;exact kq l rfl
   exact aC
 · intro x E o b j;replace b:Keep (fun _=>False) s E:=kD b;have aF:x (.tmp 33)=.agg #[(n:Int),o0,(1:Int),(1:Int)]:=j 17 33 dC rfl;simp only [zqq];rw [aF];clear j;have q:Bk E k 80 #[o0,o0,o0,o0]:=Keep.bk b a5.out fun o=>o;have aG:=q.frozen 0;have aH:=q.frozen 1;have aI:=q.frozen 2;have aJ:=q.frozen 3;have aA:=q.cell 0;have aB:=q.cell 1;have V:=q.cell 2;have aD:=q.cell 3;obtain ⟨ao,ak⟩:=hqq2 q b;clear q b;change wpAny prog Region.Mode.any _ _ (1+o) (bX 18 19) _ E;rw [zCs 1 o];refine bQ (f:=o) (i:=18) kR ?_;refine bY rfl rfl ?_;generalize l:wpAny prog _ _ _ o _=K5;go_simp;subst l;refine bV kR ?_;have ab:Below k w E:=an.out.trans (ak.out.to_below (zCm a5.out.lt) fun a7 _ o=>o.elim);have W:=(((ab.setCell (p:=⟨k,0,none⟩) nL (.int .i64 (n:Int))).setCell (p:=⟨k,1,none⟩) nL (.int .i64 0)).setCell (p:=⟨k,2,none⟩) nL (.int .i64 1)).setCell (p:=⟨k,3,none⟩) nL (.int .i64 1);have a0:=(((ao.out.set 0 (.int .i64 (n:Int))).set 1 (.int .i64 0)).set 2 (.int .i64 1)).set 3 (.int .i64 1);generalize (((E.setCell ⟨k,0,none⟩ (.int .i64 (n:Int))).setCell ⟨k,1,none⟩ (.int .i64 0)).setCell ⟨k,2,none⟩ (.int .i64 1)).setCell ⟨k,3,none⟩ (.int .i64 1)=w9 at W a0⊢;obtain ⟨aq,aw⟩:=hqq2 W a0;clear W a0 ab aG aH aI aJ aA aB V aD;go_wp2_with fail;exact bodyPost_ret (results_cell_row (P:=prog) (fn:=f195) (p:=2) (ty:=80) rfl _ w9 k 80 #[(n:Int),o0,(1:Int),(1:Int)] (0,0) _ rfl aw.out underlying80 rfl kR) rfl ⟨rfl,aq.out⟩
def aH5:(prog.info? 80).map (fun i=>(i.zero.map (·.cells.size),i.size,i.bytes))=some (some 4,4,32):=by kernel_rfl
def aGj:∃b c,prog.info? 80=some b/\b.zero=some c/\b.size=4/\b.bytes=32/\c.cells.size=4:=by
 have a:=aH5;cases j:prog.info? 80 with
 | none=>rw [j] at a;cases a
 | some b=>
   rw [j] at a;cases f:b.zero with
   | none=>simp [f] at a
   | some c=>
     simp [f] at a;exact ⟨b,c,rfl,f,a.2.1,a.2.2,a.1⟩
def aKU (b a):(shA b a).length+1<=2 ^ a:=by
 induction a with
 | zero=>exact zAs _
 | succ a c=>
   have:=aA1 b a (2 ^ a);unfold shA;rw [zAi,Nat.pow_succ];omega
def nC (w:World) (a:List Shp) (e:Ending) (w':World):Prop:=∃b,e=.returned b/\w'.ownsRow w.heap.size 80 4 b a.length (cF a)/\Below w.heap.size w w'
def yG (B j own b w) (u:WaveE w B own j b):
 Calls prog 135 #[j] w (nC w (shA b 9)):=by
 obtain ⟨br,bw,bh,bn,bo,bp,bq⟩:=aGj;obtain ⟨S,bs,u⟩:=u;have aI:=u.rows;have f:=u.blk;obtain ⟨W,am,an,ao,ap,aq,ar,au,av,ba,b9⟩:=bI S (b.length:Int) bs;have bA:w.cell? j=some (S 0):=(f.cell 0).trans W;have bB:w.cell? ⟨j,1,none⟩=some (S 1):=(f.cell 1).trans am;have bC:w.cell? ⟨j,2,none⟩=some (S 2):=(f.cell 2).trans an;have bD:w.cell? ⟨j,3,none⟩=some (S 3):=(f.cell 3).trans ao;have bE:w.cell? ⟨j,4,none⟩=some (S 4):=(f.cell 4).trans ap;have bG:w.cell? ⟨j,5,none⟩=some (S 5):=(f.cell 5).trans aq;have bH:w.cell? ⟨j,6,none⟩=some (S 6):=(f.cell 6).trans ar;have bJ:w.cell? ⟨j,7,none⟩=some (S 7):=(f.cell 7).trans au;have bK:w.cell? ⟨j,8,none⟩=some (S 8):=(f.cell 8).trans av;have b2:=lhd aI;clear aI f u W am an ao ap aq ar au av ba b9;unfold nC;go_enter func135,ntmps135;go_wp2_with fail;go_loopw [3,14] (fun ah i wr=>∃a:Nat,a<=9/\i=.int .i64 (a:Int)/\wr.ownsRow w.heap.size 80 4 ah (shA b a).length (cF (shA b a))/\Below w.heap.size w wr) (fun _ i _=>9 -(intOf i).toNat)
 case atStart=>exact ⟨0,by omega,rfl,kj _ _ _ _,kh _ _⟩
 case round=>
  obtain ⟨a,bQ,rfl,aa,f⟩:=hrel;by_cases aA:a < 9
  · have bi:=ix9 S a aA;obtain ⟨G,x,_,ag⟩:=b2.out a aA;obtain ⟨m,q⟩:=eqx (2 ^ a);have bS:m<=512:=(by rw [<-q];exact zAk (zBp dC (by omega:a<=9)) dC);have bk:0 < m:=(by rw [<-q];exact Nat.pow_pos dC);rw [q] at x ag;obtain ⟨g,bL,aw,bT,bP⟩:=kk x bk;rw [aw] at bi x;have ad:=aKU b a;rw [q] at ad;obtain ⟨b0,aT,b5,b7,aY,b3⟩:=hqq6 aa f x ag q ad;clear aa f x ag aw q ad;go_wp2_with fail;have bg:decide ((a:Int) < 9)=true:=zBz oM;rw [bg];go_loopw [3,19] (fun ah i aP=>∃c:Nat,c<=m/\i=.int .i64 (c:Int)/\aP.ownsRow w.heap.size 80 4 ah (shA b a++shL b a c).length (cF (shA b a++shL b a c))/\Below w.heap.size w aP) (fun _ i _=>m -(intOf i).toNat)
    case atStart=>exact ⟨0,zAp _,rfl,by rw [show shA b a++shL b a 0=shA b a from List.append_nil _];exact b0.out,aT.out⟩
    case round=>
        obtain ⟨c,bU,rfl,K,o⟩:=hrel;have bm:=o.size;by_cases aH:c < m
        · have bV:(c:Int) < (m:Int):=oM;have L:=aQ b5.out o;obtain ⟨aM,aN,aO⟩:=fV G a m c aH;have b8:wr.cell? ⟨g,c*3,none⟩=_:=(ki L (c*3) oM).trans aM;have bx:wr.cell? ⟨g,c*3+1,none⟩=_:=(ki L (c*3+1) oM).trans aN;have bz:wr.cell? ⟨g,c*3+2,none⟩=_:=(ki L (c*3+2) oM).trans aO;obtain ⟨D,a5⟩:=eqx (G c);rw [a5] at b8;have ht:=b7.out c aH;rw [a5] at ht;obtain ⟨V,H⟩:=eqx (wr.alloc (.cells #[.pointer (some ⟨D,0,none⟩),(a:Int),(c:Int)] 183));obtain ⟨bc,a6⟩:=eqx wr.heap.size;have a2:Below wr.heap.size wr V:=(by rw [<-H];exact bR.alloc nL _);have J:Bk V bc 183 #[.pointer (some ⟨D,0,none⟩),(a:Int),(c:Int)]:=(by rw [<-H,<-a6];exact ke _ _ _);have Y:=o.trans (a2.mono bm);have M:=ht.vis (kc Y);have aD:=aQ K a2;obtain ⟨l,a3⟩:=eqx (aL b a c);rw [a3] at M;have k:shL b a (c+1)=shL b a c++if l= [] then [] else [shO l]:=(by rw [<-a3];rfl);have a7:=eZ D l V M.at
          have W:=J.cell 0;have bf:=J.lt;obtain ⟨n,a8⟩:=eqx l.length;rw [a8] at a7;obtain ⟨aX,b6,b1,ai,aS,aW,aj,y,aV⟩:=hqq9 a7 M aD Y H a6 k a8 J;clear a7 M ht K aD o Y a2 H a6 k a8 L aM aN aO J a5 a3;go_wp2_with fail;rw [aS.out]
          try rw [aW.out]
          refine aX.out.mono ?_;rintro e bu ⟨rfl,p⟩;have I:=ai.out.trans (p.mono ai.out.size);have af:=b6.out.vis (kc p);have v:=aQ b1.out p;have a4:=aV.out.below p bf;have bb:=a4.cell 0;by_cases a9:n=0
          · subst a9;have be:l= []:=zCx.1 y.out;have k:=aj.out;rw [zBx be,List.append_nil] at k;obtain ⟨C,s,z⟩:=hqq3 v I k;clear v I k af a4 bb p;go_wp2_with fail;go_roundw
            case rel=>exact ⟨c+1,by omega,by go_num,by rw [z.out];exact C.out,s.out⟩
            case measure=>first |(simp [intOf];omega)| simp [intOf]
          · have aC:l≠ []:=fun e=>a9 (by rw [<-y.out,e];rfl);have k:=aj.out;rw [zBw aC] at k;have bM:decide ((n:Int) > 0)=true:=zBz oM;have bN:decide (0 < n)=true:=zBz oM;have ae:=zU _ D l bu af aC;have aK:(shO l).val=.agg #[(n:Int),o0,(1:Int),(1:Int)]:=(by rw [<-y.out];rfl);have aJ:(shO l).cells= [.int .i64 (n:Int),.int .i64 0,.int .i64 1,.int .i64 1]:=(by rw [<-y.out];rfl);rw [aK] at ae;obtain ⟨U,E⟩:=eqx ((shA b a++shL b a c).length);have bO:U<=1024:=(by have:=aA1 b a c;have:=b3.out;rw [<-E,zAi];omega);rw [E] at v;obtain ⟨C,s,z,al,b4,aR⟩:=hqq6 v I k ae aJ E;clear v I k af a4 p ae aK aJ E a9;go_wp2_with fail;refine al.out.mono ?_;rintro e O ⟨rfl,Z⟩;have a0:=s.out.trans (Z.mono s.out.size);have aE:=aQ C.out Z;have X:Below O.heap.size O (O.alloc (.cells #[(n:Int),o0,(1:Int),(1:Int)] 80)):=bR.alloc nL _;have a1:=a0.trans (X.mono a0.size);have aF:=aQ aE X;have ac:=a1.size;obtain ⟨ak,aU⟩:=hqq2 aF a1;clear Z a0 a1 aE aF X al C s;go_wp2_with (at_builtin;refine bF _ rfl (.tmp 27) (.tmp 31) _ rfl w.heap.size 80 br bw 4 32 underlying76 bh bn bo bp bq dC u3 U _ rfl ak.out _ _ 1 1 _ rfl (xF (ke O 80 #[(n:Int),o0,(1:Int),(1:Int)]) rfl) (by simp [Value.oneCell']) (by unfold maxLen;omega) oM ac ?_;intro bt bv aG az bd);have ax:=aZ aU.out ak.out az ac;have aB:(shA b a++shL b a (c+1)).length=U+1:=(by rw [z.out,<-zCo,zAi,aR.out];rfl);have ay:cF (shA b a++shL b a (c+1))=cF (shA b a++shL b a c)++ [.int .i64 (n:Int),.int .i64 0,.int .i64 1,.int .i64 1]:=(by rw [z.out,<-zCo,aAZ];rw [<-b4.out];simp [cF]);have R:=lhd ax;have T:=lhd (show bv.ownsRow w.heap.size 80 4 bt (shA b a++shL b a (c+1)).length (cF (shA b a++shL b a (c+1))) by rw [aB,ay];exact aG);clear ax aG az bd aB ay ac;go_roundw
            case rel=>exact ⟨c+1,by omega,by go_num,T.out,R.out⟩
            case measure=>first |(simp [intOf];omega)| simp [intOf]
        · have bl:c=m:=oM;subst bl;have ab:=K;rw [show shA b a++shL b a c=shA b (a+1) by rw [<-aY.out];rfl] at ab;obtain ⟨T,R⟩:=hqq2 ab o;clear K ab o;go_wp2_with fail;go_roundw
          case rel=>exact ⟨a+1,by omega,by go_num,T.out,R.out⟩
          case measure=>first |(simp [intOf];omega)| simp [intOf]
  · have bj:a=9:=oM;subst bj;go_wp2_with fail;go_ret;exact ⟨_,rfl,aa,f⟩
def aCK (w):Calls prog 136 #[o0] w fun e w'=>e=.returned (.int .i64 1)/\w=w':=by
 go_enter func136,ntmps136;go_wp2;go_loopw [3,5] (fun a i wr=>i=.int .i64 0/\a=.int .i64 1/\wr=w) (fun _ i _=>1 -(intOf i).toNat)
 case atStart=>exact ⟨rfl,rfl,rfl⟩
 case round=>obtain ⟨rfl,rfl,rfl⟩:=hrel;go_wp2;go_ret;exact ⟨rfl,rfl⟩
def aEm (n w) (a:0<=n) (b:n<=1099511627776):
 Calls prog 137 #[(n:Int)] w fun e w'=>e=.returned (.int .i64 (n / 128*4+n % 128*4 / 128))/\w=w':=by
 go_enter func137,ntmps137;go_wp2;go_ret;exact ⟨rfl,rfl⟩
def aGw (n w) (a:0 < n) (b:n<=1099511627776):
 Calls prog 73 #[.agg #[(n:Int),o0,(1:Int),(1:Int)]] w fun e w'=>e=.returned (.bool true)/\Below w.heap.size w w':=by
 have c:(n==0)=false:=by rw [zCb];omega
 have f:decide (n > 0)=true:=zBz a;have j:decide (0 < n)=true:=zBz a;have k:decide ((0:Int)<=n / 128*4+n % 128*4 / 128)=true:=zBz oM;go_enter func73,ntmps73;go_wp2_with fail
 go_quiet (first
  |(go_at_call 136;exact qK (aCK _))
  |(go_at_call 137;exact qK (aEm _ _ oM oM)))
 go_wp2;go_ret;exact ⟨rfl,kn (bR.alloc nL _) _⟩
def aG3 (A m X c N W B w) (C:Rd w B 4 A m (cF c)) (Z:B<=w.heap.size) (a8:m<=65536) (y:c=⟨N,0,1,1⟩::W) (hs:∀b∈c,∃n:Int,0 < n/\n<=1099511627776/\b=⟨n,0,1,1⟩):
 Calls prog 39 #[.slice A m X,(N:Int)] w fun e w'=>e=.returned (.bool true)/\Below w.heap.size w w':=by
 have z:c.length=m:=by have:=C.1;rw [rI] at this;omega
 have O:0 < m:=by rw [<-z,y];simp
 obtain ⟨f,q,rfl,l,o⟩:=(C.mono Z).2 O;have M:∀a b,c[a]?=some b->∀w',Below w.heap.size w w'->w'.cell? ⟨f,q+a*4,none⟩=some (.int .i64 b.len)/\w'.cell? ⟨f,q+a*4+1,none⟩=some (.int .i64 b.height)/\w'.cell? ⟨f,q+a*4+2,none⟩=some (.int .i64 b.leaves)/\w'.cell? ⟨f,q+a*4+3,none⟩=some (.int .i64 b.nodes):=fun a b p w' u=>
  ⟨(u.cell l).trans (o (a*4+0) _ ((eD c a 0 b p oM).trans rfl)),(u.cell l).trans (o (a*4+1) _ ((eD c a 1 b p oM).trans rfl)),(u.cell l).trans (o (a*4+2) _ ((eD c a 2 b p oM).trans rfl)),(u.cell l).trans (o (a*4+3) _ ((eD c a 3 b p oM).trans rfl))⟩
 obtain ⟨H,V,T,U⟩:=hqq4 M hs y z;clear C o M hs y z;go_enter func39,ntmps39;go_wp2_with fail;go_loopw [5] (fun i wr=>∃a:Nat,a<=m/\i=.int .i64 (a:Int)/\Below w.heap.size w wr) (fun i _=>m -(intOf i).toNat)
 case atStart=>exact ⟨0,zAp _,rfl,kh _ _⟩
 case round=>
  obtain ⟨a,p,rfl,j⟩:=hrel;have a5:=j.size;by_cases a2:a < m
  · obtain ⟨b,D⟩:∃b,c[a]?=some b:=⟨_,zAa (by rw [U.out];exact a2)⟩;obtain ⟨k,I,J,K⟩:=H.out a b D wr j;obtain ⟨n,a3,a4,rfl⟩:=V.out b (zAd D);simp only at k I J K;have Y:decide (n < 1)=false:=zBy oM;have L:∀v,Below wr.heap.size wr v->v.cell? ⟨f,q+a*4,none⟩=some (.int .i64 n):=fun v a0=>(a0.cell (by have:f < w.heap.size:=l;show f < wr.heap.size;omega)).trans k;obtain ⟨E,s⟩:=hqq2 L j;clear D L j;go_wp2_with fail;refine (aGw n wr a3 a4).mono ?_;rintro e w1 ⟨rfl,x⟩;have a6:=E.out w1 x;have R:=lhd (s.out.trans (x.mono a5));clear x E s k I J K;go_wp2_with fail;go_roundw
    case rel=>exact ⟨a+1,by omega,by go_num,R.out⟩
    case measure=>simp [intOf];omega
  · have a1:a=m:=oM;subst a1;have k:=(H.out 0 ⟨N,0,1,1⟩ (by rw [T.out];rfl) wr j).1;simp only [Nat.zero_mul,zBq] at k;have Y:decide ((a:Int) > 0)=true:=zBz oM;have a7:decide (0 < a)=true:=zBz O;have s:=lhd j;clear j;go_wp2_with fail;go_ret;exact ⟨by first | rfl | simp,s.out⟩
def aIs (A m D E B w) (ad:Rd w B 4 A m (cF E)) (av:B<=w.heap.size) (bm:m<=1000) (hs:∀u∈E,∃n:Int,0 < n/\n<=1000/\u=⟨n,0,1,1⟩):
 Calls prog 40 #[.slice A m D] w fun e w'=>(∃S:Int,e=.returned (.agg #[(S:Int),o0,(m:Int),(m:Int)]))/\Below w.heap.size w w':=by
 have aA:E.length=m:=by have:=ad.1;rw [rI] at this;omega
 obtain ⟨x,W⟩:=eqx w.heap.size;obtain ⟨j,ac⟩:=eqx (x+1);obtain ⟨aa,Y⟩:=eqx ((w.alloc (.cells #[o0,o0,o0,o0] 80)).alloc (.cells #[o0,o0,o0,o0] 80));have ax:Below x w aa:=by rw [<-Y,<-W];exact (bR.alloc nL _).alloc (by simp) _
 have s:Bk aa x 80 #[o0,o0,o0,o0]:=by rw [<-Y,<-W];exact (ke w _ _).alloc _
 have C:Bk aa j 80 #[o0,o0,o0,o0]:=by rw [<-Y,<-ac,<-W];have:=ke (w.alloc (.cells #[o0,o0,o0,o0] 80)) 80 #[o0,o0,o0,o0];rw [sZ0] at this;exact this
 have a6:x≠j:=oM;have az:x<=j:=oM;have a5:∃k l,0 < m->A=some ⟨k,l,none⟩/\∀(a:Nat) (u:Shp),E[a]?=some u->∀b,Below x w b->b.cell? ⟨k,l+a*4,none⟩=some (.int .i64 u.len)/\b.cell? ⟨k,l+a*4+1,none⟩=some (.int .i64 u.height)/\b.cell? ⟨k,l+a*4+2,none⟩=some (.int .i64 u.leaves)/\b.cell? ⟨k,l+a*4+3,none⟩=some (.int .i64 u.nodes):=by rcases zBa m with ar | ar;exact ⟨0,0,fun aq=>by omega⟩;obtain ⟨k,l,e,a0,I⟩:=(ad.mono av).2 ar;rw [W] at a0;exact ⟨k,l,fun _=>⟨e,fun a u a1 b a7=>⟨(a7.cell a0).trans (I (a*4+0) _ ((eD E a 0 u a1 oM).trans rfl)),(a7.cell a0).trans (I (a*4+1) _ ((eD E a 1 u a1 oM).trans rfl)),(a7.cell a0).trans (I (a*4+2) _ ((eD E a 2 u a1 oM).trans rfl)),(a7.cell a0).trans (I (a*4+3) _ ((eD E a 3 u a1 oM).trans rfl))⟩⟩⟩
 obtain ⟨k,l,a5⟩:=a5;obtain ⟨aM,aO,aP,aD,aG,aI,aL,ah,aN⟩:=hqq9 a5 aA hs Y ax s C W ac;have a3:=lhd az;clear a5 aA hs Y ax s C W ac ad av az;rw [ah.out];go_enter func40,ntmps40;go_wp2_with fail;rw [aD.out]
 try rw [ah.out]
 try rw [aN.out]
 go_loopw [4] (fun i wr=>∃(a:Nat) (S:Int),a<=m/\i=.int .i64 (a:Int)/\Bk wr j 80 #[(S:Int),o0,(a:Int),(a:Int)]/\Bk wr x 80 #[o0,o0,o0,o0]/\0<=S/\S<=1000*(a:Int)/\Below x w wr) (fun i _=>m -(intOf i).toNat)
 case atStart=>exact ⟨0,0,zAp _,rfl,aL.out,aI.out,by omega,by omega,aG.out⟩
 case round=>
  obtain ⟨a,S,a1,rfl,C,s,bj,aw,Z⟩:=hrel;by_cases aV:a < m
  · obtain ⟨u,ae⟩:∃u,E[a]?=some u:=⟨_,zAa (by rw [aO.out];exact aV)⟩;obtain ⟨z,bn,bo,rfl⟩:=aP.out u (zAd ae);obtain ⟨aR,I⟩:=aM.out oM;subst aR;have af:x<=wr.heap.size:=(by have:=s.lt;omega);have au:∀b,Keep (fun _=>False) wr b->b.cell? ⟨k,l+a*4,none⟩=some (.int .i64 z)/\b.cell? ⟨k,l+a*4+1,none⟩=some (.int .i64 0)/\b.cell? ⟨k,l+a*4+2,none⟩=some (.int .i64 1)/\b.cell? ⟨k,l+a*4+3,none⟩=some (.int .i64 1)/\b.cell? j=some (.int .i64 S)/\b.cell? ⟨j,1,none⟩=some (.int .i64 0)/\b.cell? ⟨j,2,none⟩=some (.int .i64 (a:Int))/\b.cell? ⟨j,3,none⟩=some (.int .i64 (a:Int)):=fun b c=>by obtain ⟨aY,aZ,b0,b1⟩:=I a _ ae b (Z.trans (c.to_below af fun _ _ v=>v.elim));have a4:=Keep.bk c C fun v=>v;exact ⟨aY,aZ,b0,b1,a4.cell 0,a4.cell 1,a4.cell 2,a4.cell 3⟩
    have bp:(a:Int) < (m:Int):=oM;have bl:S<=1000000:=oM;have bq:IntKind.i64.wrap (S+z)=S+z:=(by rw [wI0];omega);have br:IntKind.i64.wrap ((a:Int)+1)=(a:Int)+1:=(by rw [wI0];omega);obtain ⟨H,aK,aH,aE,aB,aQ⟩:=hqq6 au C s Z aw af;clear au C s Z I ae aw af;go_wp2_with fail;refine wp_region_any kR ?_;refine cK 33 [11,12,13,14,15,16,17,18,19,20,21,22,23,24,25,26,27,28,29,30,31,32,33,34,35,36,37,38,39,40,41,42,43] (fun _=>False) 0 [] (fun _=>True) (is j) [cJ,is (S:Int),is (.slice (some ⟨k,l,none⟩) m D),is (a:Int),is (.pointer (some ⟨k,l+a*4,none⟩)),is (.pointer (some ⟨k,l+a*4,none⟩)),is (z:Int),is (S+z:Int),is (.pointer (some ⟨j,1,none⟩)),is (0:Int),is (.slice (some ⟨k,l,none⟩) m D),is (a:Int),is (.pointer (some ⟨k,l+a*4,none⟩)),is (.pointer (some ⟨k,l+a*4+1,none⟩)),is (0:Int),is (0:Int),is (.pointer (some ⟨j,2,none⟩)),is (a:Int),is (.slice (some ⟨k,l,none⟩) m D),is (a:Int),is (.pointer (some ⟨k,l+a*4,none⟩)),is (.pointer (some ⟨k,l+a*4+2,none⟩)),is (1:Int),is (.int .i64 ((a:Int)+1)),is (.pointer (some ⟨j,3,none⟩)),is (a:Int),is (.slice (some ⟨k,l,none⟩) m D),is (a:Int),is (.pointer (some ⟨k,l+a*4,none⟩)),is (.pointer (some ⟨k,l+a*4+3,none⟩)),is (1:Int),is (.int .i64 ((a:Int)+1)),is (.agg #[(S+z:Int),o0,.int .i64 ((a:Int)+1),.int .i64 ((a:Int)+1)])] _ _ rfl dC kR kR kR (trivial) (fun _ _ _ _ _=>trivial) (fun _ _ _ aq _=>aq) tA0 ?_ ?_
    · refine bJ ?_;refine sC3 (fun U _ _ _ _ _ aW _ _ _ _ q=>?_) ?_
      · have bd:U (.tmp 3)=.pointer (some j):=aW 3 kR;go_simp;exact q _ _ (aT (kf _ _)) rfl
      refine sC3 (fun U b c _ _ _ _ o _ _ _ q=>?_) ?_
      · replace c:Keep (fun _=>False) wr b:=kD c;have aX:(is j) (U (.tmp 11)) b:=o 0 11 kR rfl;have b6:U (.tmp 11)=.pointer (some j):=aX;obtain ⟨k0,J,K,L,M,O,R,T⟩:=H.out b c;go_simp;exact kq q rfl
      refine pH3 0 (.slice (some ⟨k,l,none⟩) m D) ?_;refine pH3 4 (.int .i64 (a:Int)) ?_;refine pW3 2 13 3 14 ?_;refine pV3 4 15 ?_;refine sC3 (fun _ b c _ _ _ _ o _ _ _ q=>?_) ?_
      · replace c:Keep (fun _=>False) wr b:=kD c;have b7:_=_:=o 5 16 kR rfl;obtain ⟨k0,J,K,L,M,O,R,T⟩:=H.out b c;go_simp;exact kq q rfl
      refine pW3 1 12 6 17 ?_;refine pH3 3 (.pointer (some j)) ?_;refine sC3 (fun _ b c _ _ _ _ o _ _ _ q=>?_) ?_
      · replace c:Keep (fun _=>False) wr b:=kD c;have b9:_=_:=o 8 19 kR rfl;obtain ⟨k0,J,K,L,M,O,R,T⟩:=H.out b c;go_simp;exact kq q rfl
      refine pH3 0 (.slice (some ⟨k,l,none⟩) m D) ?_;refine pH3 4 (.int .i64 (a:Int)) ?_;refine pW3 10 21 11 22 ?_;refine pV3 12 23 ?_;refine sC3 (fun _ b c _ _ _ _ o _ _ _ q=>?_) ?_
      · replace c:Keep (fun _=>False) wr b:=kD c;have ba:_=_:=o 13 24 kR rfl;obtain ⟨k0,J,K,L,M,O,R,T⟩:=H.out b c;go_simp;exact kq q rfl
      refine pW3 9 20 14 25 ?_;refine pH3 3 (.pointer (some j)) ?_;refine sC3 (fun _ b c _ _ _ _ o _ _ _ q=>?_) ?_
      · replace c:Keep (fun _=>False) wr b:=kD c;have bc:_=_:=o 16 27 kR rfl;obtain ⟨k0,J,K,L,M,O,R,T⟩:=H.out b c;go_simp;exact kq q rfl
      refine pH3 0 (.slice (some ⟨k,l,none⟩) m D) ?_;refine pH3 4 (.int .i64 (a:Int)) ?_;refine pW3 18 29 19 30 ?_;refine pV3 20 31 ?_;refine sC3 (fun _ b c _ _ _ _ o _ _ _ q=>?_) ?_
      · replace c:Keep (fun _=>False) wr b:=kD c;have be:_=_:=o 21 32 kR rfl;obtain ⟨k0,J,K,L,M,O,R,T⟩:=H.out b c;go_simp;exact kq q rfl
      refine pW3 17 28 22 33 ?_;refine pH3 3 (.pointer (some j)) ?_;refine sC3 (fun _ b c _ _ _ _ o _ _ _ q=>?_) ?_
      · replace c:Keep (fun _=>False) wr b:=kD c;have bg:_=_:=o 24 35 kR rfl;obtain ⟨k0,J,K,L,M,O,R,T⟩:=H.out b c;go_simp;exact kq q rfl
      refine pH3 0 (.slice (some ⟨k,l,none⟩) m D) ?_;refine pH3 4 (.int .i64 (a:Int)) ?_;refine pW3 26 37 27 38 ?_;refine pV3 28 39 ?_;refine sC3 (fun _ b c _ _ _ _ o _ _ _ q=>?_) ?_
      · replace c:Keep (fun _=>False) wr b:=kD c;have bh:_=_:=o 29 40 kR rfl;obtain ⟨k0,J,K,L,M,O,R,T⟩:=H.out b c;go_simp;exact kq q rfl
      refine pW3 25 36 30 41 ?_;refine sC3 (fun _ _ _ _ _ _ _ o _ _ _ q=>?_) ?_
      · have b8:_=_:=o 7 18 kR rfl;have bb:_=_:=o 15 26 kR rfl;have bf:_=_:=o 23 34 kR rfl;have bi:_=_:=o 31 42 kR rfl;go_simp;exact kq q rfl
      exact aC
    · intro U a2 v c o;replace c:Keep (fun _=>False) wr a2:=kD c;have aS:U (.tmp 43)=.agg #[(S+z:Int),o0,.int .i64 ((a:Int)+1),.int .i64 ((a:Int)+1)]:=o 32 43 dC rfl;simp only [zqq];rw [aS];clear o;have y:Bk a2 j 80 #[(S:Int),o0,(a:Int),(a:Int)]:=Keep.bk c aK.out fun v=>v;have am:=y.frozen 0;have an:=y.frozen 1;have ao:=y.frozen 2;have ap:=y.frozen 3;have ai:=y.cell 0;have aj:=y.cell 1;have ak:=y.cell 2;have al:=y.cell 3;obtain ⟨aF,ag⟩:=hqq2 y c;clear y c;change wpAny prog Region.Mode.any _ _ (1+v) (bX 33 34) _ a2;rw [zCs 1 v];refine bQ (f:=v) (i:=33) kR ?_;refine bY rfl rfl ?_;generalize q:wpAny prog _ _ _ v _=K5;go_simp;subst q;refine bV kR ?_;have y:=aE.out.trans (ag.out.to_below aQ.out fun _ _ v=>v.elim);have V:=(((y.setCell (p:=j) a3.out (.int .i64 (S+z))).setCell (p:=⟨j,1,none⟩) a3.out (.int .i64 0)).setCell (p:=⟨j,2,none⟩) a3.out (.int .i64 ((a:Int)+1))).setCell (p:=⟨j,3,none⟩) a3.out (.int .i64 ((a:Int)+1));have X:=(((aF.out.set 0 (.int .i64 (S+z))).set 1 (.int .i64 0)).set 2 (.int .i64 ((a:Int)+1))).set 3 (.int .i64 ((a:Int)+1));have ay:Bk a2 x 80 #[o0,o0,o0,o0]:=Keep.bk ag.out aH.out fun v=>v;have ab:=(((ay.far (p:=j) a6 (.int .i64 (S+z))).far (p:=⟨j,1,none⟩) a6 (.int .i64 0)).far (p:=⟨j,2,none⟩) a6 (.int .i64 ((a:Int)+1))).far (p:=⟨j,3,none⟩) a6 (.int .i64 ((a:Int)+1));generalize (((a2.setCell j (.int .i64 (S+z))).setCell ⟨j,1,none⟩ (.int .i64 0)).setCell ⟨j,2,none⟩ (.int .i64 ((a:Int)+1))).setCell ⟨j,3,none⟩ (.int .i64 ((a:Int)+1))=w9 at V X ab⊢;obtain ⟨a8,a9,aJ⟩:=hqq3 V X ab;clear V X ay ab y am an ao ap ai aj ak al;go_wp2_with fail;go_roundw
      case rel=>exact ⟨a+1,S+z,by omega,by go_num,a9.out,aJ.out,by omega,by have:=aB.out;omega,a8.out⟩
      case measure=>simp [intOf];omega
  · have aU:a=m:=oM;subst aU;have ai:=C.cell 0;have aj:=C.cell 1;have ak:=C.cell 2;have al:=C.cell 3;have b2:=s.cell 0;have b3:=s.cell 1;have b4:=s.cell 2;have b5:=s.cell 3;have am:=s.frozen 0;have an:=s.frozen 1;have ao:=s.frozen 2;have ap:=s.frozen 3;have X:=(((s.set 0 (.int .i64 S)).set 1 (.int .i64 0)).set 2 (.int .i64 (a:Int))).set 3 (.int .i64 (a:Int));have V:=(((Z.setCell (p:=x) nL (.int .i64 S)).setCell (p:=⟨x,1,none⟩) nL (.int .i64 0)).setCell (p:=⟨x,2,none⟩) nL (.int .i64 (a:Int))).setCell (p:=⟨x,3,none⟩) nL (.int .i64 (a:Int));obtain ⟨a9,a8⟩:=hqq2 X V;clear X V C s Z;go_wp2_with fail;exact bodyPost_ret (results_cell_row (P:=prog) (fn:=f40) (p:=2) (ty:=80) rfl _ _ x 80 #[(S:Int),o0,(a:Int),(a:Int)] (0,0) _ rfl a9.out underlying80 rfl kR) rfl ⟨⟨S,rfl⟩,a8.out⟩
def aCC (n:Nat) (w) (a:n<=1000000):Calls prog 74 #[(n:Int)] w fun e w'=>e=.returned (.int .i64 (n:Int))/\w=w':=by
 go_enter func74,ntmps74;go_wp2;go_ret;exact ⟨by first | rfl |(congr 3;omega)|(simp;omega),rfl⟩
def aEq (n:Nat) (w) (b:n<=1000000):Calls prog 41 #[(n:Int)] w fun e w'=>(∃a:Int,e=.returned (.int .i64 a)/\9216<=a)/\w=w':=by
 go_enter func41,ntmps41;go_wp2_with fail;refine (aCC n w b).mono ?_;rintro e w1 ⟨rfl,rfl⟩;go_wp2_with fail;go_ret;exact ⟨⟨_,rfl,by omega⟩,rfl⟩
def aAR (S:Nat->Prop) (i g:Nat):Prop:=(i=0/\g=0)∨∃a,S a/\a < i/\g+a+1=i/\∀b,a < b->b < i->¬S b
section
variable {S : Nat -> Prop} {r N i g : Nat}
def aKk (a:S i):aAR S (i+1) 0:=.inr ⟨i,a,by omega,by omega,fun f b c=>by omega⟩
def aLi (f:S 0) (a:¬S i) (l:aAR S i g):aAR S (i+1) (g+1):=by
 rcases l with ⟨rfl,rfl⟩|⟨p,j,q,s,k⟩;exact absurd f a;refine .inr ⟨p,j,by omega,by omega,fun b o u=>?_⟩;by_cases c:b=i;rw [c];exact a;exact k b o oM
def aLj (j:qD S r N) (v:1<=r) (a:aAR S (i+1) g) (u:i<=N):g < r:=by
 rcases a with ⟨a,_⟩|⟨o,c,q,s,f⟩;omega;by_cases b:g < r;exact b;obtain ⟨p,k,l,x⟩:=j o c oM;exact absurd k (f p l oM)
end
def mkB (b:List (Nat×Nat)) (a i:Nat):Bool:=decide (∃c∈b.take a,c.2=i)
def mkV (b:List (Nat×Nat)) (n a:Nat):Array Value:=((List.range n).map fun i=>Value.bool (mkB b a i)).toArray
def aIN (b n):mkV b n 0=Array.replicate n (.bool false):=by
 apply Array.ext';unfold mkV;rw [Array.toList_replicate];refine List.ext_getElem? fun i=>?_;rw [zAf,List.getElem?_replicate];by_cases a:i < n
 · rw [zBx a,zCk a];simp [mkB]
 rw [zBw a,List.getElem?_eq_none_iff.2 (by rw [zCi];omega)];rfl
def rW (b n a):(mkV b n a).size=n:=by simp [mkV]
def mR (b a) {n i} (c:i < n):(mkV b n a)[i]?=some (.bool (mkB b a i)):=by
 unfold mkV;rw [zCw,zAf,zCk c];rfl
def aFL {b n a j} (o:b[a]?=some j):(mkV b n a).setIfInBounds j.2 (.bool true)=mkV b n (a+1):=by
 apply Array.ext_getElem?;intro i;rw [zCd];by_cases l:i < n
 · rw [mR b (a+1) l,mR b a l,rW];have e:mkB b (a+1) i=(mkB b a i||decide (j.2=i)):=(by unfold mkB;rw [Bool.eq_iff_iff,Bool.or_eq_true,zCa,zCa,zCa,zAv,o];constructor;rintro ⟨k,f,e⟩;rcases zCp.1 f with f | f;exact .inl ⟨k,f,e⟩;have:k=j:=(by simpa using f);subst this;exact .inr e;rintro (⟨k,f,e⟩| e);exact ⟨k,zCp.2 (.inl f),e⟩;exact ⟨j,zCp.2 (.inr (by simp)),e⟩);rw [e];by_cases c:j.2=i
   · rw [zBx c,zBx oM];simp [c]
   · rw [zBw c];simp [c]
 · have p:(mkV b n a)[i]?=none:=Array.getElem?_eq_none (by rw [rW];omega);have q:(mkV b n (a+1))[i]?=none:=Array.getElem?_eq_none (by rw [rW];omega);rw [p,q,rW];by_cases c:j.2=i
   · rw [zBx c,zBw oM]
   · rw [zBw c]
def aKd (a i):mkB a a.length i=true↔Smp a i:=by
 unfold mkB Smp;rw [List.take_length,zCa]
def aGs (n:Nat) (k:n<=1000000) (w):(Instr.makeSlice 112 (.int .i64 (n:Int)) (.int .i64 (n:Int))).run prog w=.ok (.slice (some w.heap.size) n n) (w.alloc (.cells (Array.replicate n (.bool false)) 4)):=by
 obtain ⟨j,a,b,c,f⟩:=info_parts pI;have:=run_make (P:=prog) w 112 4 j (.bool false) underlying112 a b .i64 .i64 n n oM (Int.le_refl _) (by rw [f];omega) oM;rw [this,c];have e:madeCells #[false] n=Array.replicate n (.bool false):=by apply Array.ext';rw [toList_madeCells_one];simp
 simp only [Value.cells,zBr,zBl];rw [e]
structure SampOk (C:List (Nat×Nat)) (rs:List Nat) (r N:Nat):Prop where
 right:∀k,k < C.length->aD C k < N+1/\aI C k < N+1/\rs[aD C k]?=some (aI C k)
 rise:∀k,k+1 < C.length->aD C k < aD C (k+1)
 zero:Smp C 0
 gap:qD (Smp C) r N
 len:rs.length=N+1
 rate:1<=r
def aDu (au aU m v n R aV aW l bm r N w) (b7:Rd w aV 2 au m (bU l)) (b8:Rd w aW 1 aU n (bm.map sv)) (b1:aV<=w.heap.size) (b2:aW<=w.heap.size) (b9:l.length=m) (bf:N+1=n) (bQ:m<=1000) (bO:N<=1000) (bT:r<=64) (aN:SampOk l bm r N):
 Calls prog 35 #[.slice au m v,.slice aU n R,(r:Int)] w fun e w'=>e=.returned (.bool true)/\Below w.heap.size w w':=by
 obtain ⟨D,a4⟩:=eqx w.heap.size;obtain ⟨b3,am⟩:=eqx (w.alloc (.cells (Array.replicate n (.bool false)) 4));have bb:Bk b3 D 4 (mkV l n 0):=by rw [aIN,<-am,<-a4];exact ke _ _ _
 have ba:Below D w b3:=by rw [<-am,<-a4];exact bR.alloc nL _
 have bg:0 < n:=oM;obtain ⟨H,K,rfl,aM,bi⟩:=(b8.mono b2).2 bg;have bj:∀a,a < m->∀wr,Below D w wr->wr.cell? ⟨H,K+aD l a,none⟩=some (.int .i64 ((aI l a:Nat):Int)):=fun a ao wr ar=>by rw [a4] at aM;refine (ar.cell aM).trans (bi _ _ ?_);rw [zAf,(aN.right a oM).2.2];rfl
 have ap:∃j k,0 < m->au=some ⟨j,k,none⟩/\∀a,a < m->∀wr,Below D w wr->wr.cell? ⟨j,k+a*2,none⟩=some (.int .i64 ((aD l a:Nat):Int))/\wr.cell? ⟨j,k+a*2+1,none⟩=some (.int .i64 ((aI l a:Nat):Int)):=by rcases zBa m with b6 | b6;exact ⟨0,0,fun s=>by omega⟩;obtain ⟨j,k,e,aL,O⟩:=(b7.mono b1).2 b6;rw [a4] at aL;refine ⟨j,k,fun _=>⟨e,fun a ao wr ar=>?_⟩⟩;obtain ⟨ae,aR⟩:=cH l a oM;exact ⟨(ar.cell aL).trans (O _ _ ae),(ar.cell aL).trans (O _ _ aR)⟩
 obtain ⟨j,k,ap⟩:=ap;have bG:=aGs n oM;have bS:n<=1001:=oM;obtain ⟨ax,bt,Y,bo,aw,bq,bp,ah,b0⟩:=hqq9 bj ap aN am a4 bb ba b9 bf;clear bj ap aN am a4 bb ba b9 bf b7 b8 aM bi b1 b2;go_enter func35,ntmps35;rw [aw.out];go_wp2_with fail;rw [bo.out]
 try rw [aw.out]
 clear bG;go_loopw [8] (fun i wr=>∃a:Nat,a<=m/\i=.int .i64 (a:Int)/\Bk wr D 4 (mkV l n a)/\Below D w wr) (fun i _=>m -(intOf i).toNat)
 case atStart=>exact ⟨0,zAp _,rfl,bq.out,bp.out⟩
 case round=>
  obtain ⟨a,ao,rfl,T,y⟩:=hrel;by_cases V:a < m
  · obtain ⟨aE,O⟩:=bt.out oM;subst aE;obtain ⟨az,aA⟩:=O a V wr y;have ak:=ax.out a V wr y;have a9:=b0.out;obtain ⟨aS,aT,bl⟩:=Y.out.right a (by rw [ah.out];exact V);obtain ⟨L,ac⟩:∃L,l[a]?=some L:=⟨_,zAa (by rw [ah.out];exact V)⟩;obtain ⟨x,a2⟩:=eqx (aD l a);obtain ⟨o,a3⟩:=eqx (aI l a);have ad:L.2=o:=(by rw [<-a3];unfold aI;rw [zAb,ac];rfl);have M:=T.set o (.bool true);rw [<-ad,aFL ac,ad] at M;rw [a2] at az ak aS;rw [a3] at aA ak aT;have al:=T.frozen o;have aj:wr.cell? ⟨D,o,none⟩=some (.bool (mkB l a o)):=(T.cell o).trans (mR l a oM);have X:=y.setCell (p:=⟨D,o,none⟩) nL (.bool true);have b4:decide ((x:Int)>=(n:Int))=false:=zBy oM;have b5:decide (n<=x)=false:=zBy oM;have bk:(x:Int) < (n:Int):=oM;have bW:(o:Int) < (n:Int):=oM;have bX:(a:Int) < (m:Int):=oM;have be:(mkV l n a).setIfInBounds o (.bool true)=mkV l n (a+1):=(by rw [<-ad];exact aFL ac);obtain ⟨aZ,aY⟩:=hqq2 be (show o < n by omega);have aq:D<=wr.heap.size:=(by rw [<-aw.out];exact y.size);clear be;by_cases bd:a=0
    · have bC:decide ((a:Int) > 0)=false:=zBy oM;have bD:decide (0 < a)=false:=zBy oM;have a8:∀f,Grow wr f->f.cell? ⟨j,k+a*2,none⟩=some (.int .i64 (x:Int))/\f.cell? ⟨j,k+a*2+1,none⟩=some (.int .i64 (o:Int))/\f.cell? ⟨H,K+x,none⟩=some (.int .i64 (o:Int)):=fun f c=>by have a5:=y.trans (c.mono aq);obtain ⟨af,ag⟩:=O a V f a5;have a1:=ax.out a V f a5;rw [a2] at af a1;rw [a3] at ag a1;exact ⟨af,ag,a1⟩
      obtain ⟨C,a7,W⟩:=hqq3 a8 y T;clear a8 a9 O aS aT bl ac ad a2 a3 T y M X ao bd az aA ak al aj;go_wp2_with fail;refine wp_region_any kR ?_;refine aO [20,21,22,23,24,25,26,27,28,29,30,31,32,33,34,35,36,37,38,39,40,41,42,43,44,45,46,47,48,49,50,51,52,53,54,55,56,57,58,59,60,61,62,63,64,65,66,67,68,69] Grow (Vs [is (.slice (some ⟨j,k,none⟩) m v),is (a:Int),is (.pointer (some ⟨j,k+a*2,none⟩)),is (.pointer (some ⟨j,k+a*2,none⟩)),is (x:Int),is (.bool false),is (.bool false),is (.slice (some ⟨j,k,none⟩) m v),is (a:Int),is (.pointer (some ⟨j,k+a*2,none⟩)),is (.pointer (some ⟨j,k+a*2,none⟩)),is (x:Int),is (.slice (some ⟨H,K,none⟩) n R),is (n:Int),is (.bool false),is (.bool false),is (.bool false),is (.slice (some ⟨H,K,none⟩) n R),is (.slice (some ⟨j,k,none⟩) m v),is (a:Int),is (.pointer (some ⟨j,k+a*2,none⟩)),is (.pointer (some ⟨j,k+a*2,none⟩)),is (x:Int),is (.pointer (some ⟨H,K+x,none⟩)),is (o:Int),is (.slice (some ⟨j,k,none⟩) m v),is (a:Int),is (.pointer (some ⟨j,k+a*2,none⟩)),is (.pointer (some ⟨j,k+a*2+1,none⟩)),is (o:Int),is (.bool false),is (.bool false),is (.bool false),is (a:Int),is (.bool false),is (.bool false),is undef,is undef,is undef,is undef,is undef,is undef,is undef,is undef,is undef,is undef,is undef,is undef,is (.bool false),is (.bool false)]) _ _ rfl kR bR (fun _ _=>Grow.trans) (eM tA2) ?_ ?_
      · refine aK ?_;refine pH 0 (.slice (some ⟨j,k,none⟩) m v) ?_;refine pH 8 (.int .i64 (a:Int)) ?_;refine pW 0 20 1 21 ?_;refine pV 2 22 ?_;refine sC (fun _ f c _ _ _ q _ _ _ u=>?_) ?_
        · have bv:_=_:=q 3 23 kR rfl;replace c:Grow wr f:=gD c;obtain ⟨k0,I,J⟩:=C.out f c;go_simp;exact u _ _ bR rfl
        refine pV 4 24 ?_;refine pV 5 25 ?_;refine gH 26 false 0 (.slice (some ⟨j,k,none⟩) m v) ?_;refine gH 26 false 8 (.int .i64 (a:Int)) ?_;refine gW 26 false 7 27 8 28 ?_;refine gV 26 false 9 29 ?_;refine sG 26 false (fun _ f c _ _ _ q _ _ _ u=>?_) ?_
        · have bw:_=_:=q 10 30 kR rfl;replace c:Grow wr f:=gD c;obtain ⟨k0,I,J⟩:=C.out f c;go_simp;exact u _ _ bR rfl
        refine gH 26 false 1 (.slice (some ⟨H,K,none⟩) n R) ?_;refine gV 26 false 12 32 ?_;refine gW 26 false 11 31 13 33 ?_;refine pW 6 26 14 34 ?_;refine pV 15 35 ?_;refine gH 36 false 1 (.slice (some ⟨H,K,none⟩) n R) ?_;refine gH 36 false 0 (.slice (some ⟨j,k,none⟩) m v) ?_;refine gH 36 false 8 (.int .i64 (a:Int)) ?_;refine gW 36 false 18 38 19 39 ?_;refine gV 36 false 20 40 ?_;refine sG 36 false (fun _ f c _ _ _ q _ _ _ u=>?_) ?_
        · have bx:_=_:=q 21 41 kR rfl;replace c:Grow wr f:=gD c;obtain ⟨k0,I,J⟩:=C.out f c;go_simp;exact u _ _ bR rfl
        refine gW 36 false 17 37 22 42 ?_;refine sG 36 false (fun _ f c _ _ _ q _ _ _ u=>?_) ?_
        · have bz:_=_:=q 23 43 kR rfl;replace c:Grow wr f:=gD c;obtain ⟨k0,I,J⟩:=C.out f c;go_simp;exact u _ _ bR rfl
        refine gH 36 false 0 (.slice (some ⟨j,k,none⟩) m v) ?_;refine gH 36 false 8 (.int .i64 (a:Int)) ?_;refine gW 36 false 25 45 26 46 ?_;refine gV 36 false 27 47 ?_;refine sG 36 false (fun _ f c _ _ _ q _ _ _ u=>?_) ?_
        · have bA:_=_:=q 28 48 kR rfl;replace c:Grow wr f:=gD c;obtain ⟨k0,I,J⟩:=C.out f c;go_simp;exact u _ _ bR rfl
        refine gW 36 false 24 44 29 49 ?_;refine pW 16 36 30 50 ?_;refine pV 31 51 ?_;refine gH 52 false 8 (.int .i64 (a:Int)) ?_;refine gV 52 false 33 53 ?_;refine gV 52 false 34 54 ?_;refine aB ?_ ?_;exact dO (d:=55) (b:=false) rfl rfl rfl kR (fun _ _ _ s=>s) (fun _=>kh _ _) (fun _=>rfl);refine aB ?_ ?_;exact dO (d:=55) (b:=false) rfl rfl rfl kR (fun _ _ _ s=>s) (fun _=>kh _ _) (fun _=>rfl);refine aB ?_ ?_;exact dO (d:=55) (b:=false) rfl rfl rfl kR (fun _ _ _ s=>s) (fun _=>kh _ _) (fun _=>rfl);refine aB ?_ ?_;exact dO (d:=55) (b:=false) rfl rfl rfl kR (fun _ _ _ s=>s) (fun _=>kh _ _) (fun _=>rfl);refine aB ?_ ?_;exact dO (d:=55) (b:=false) rfl rfl rfl kR (fun _ _ _ s=>s) (fun _=>kh _ _) (fun _=>rfl);refine aB ?_ ?_;exact dO (d:=55) (b:=false) rfl rfl rfl kR (fun _ _ _ s=>s) (fun _=>kh _ _) (fun _=>rfl);refine aB ?_ ?_;exact dO (d:=55) (b:=false) rfl rfl rfl kR (fun _ _ _ s=>s) (fun _=>kh _ _) (fun _=>rfl);refine aB ?_ ?_;exact dO (d:=55) (b:=false) rfl rfl rfl kR (fun _ _ _ s=>s) (fun _=>kh _ _) (fun _=>rfl);refine aB ?_ ?_;exact dO (d:=55) (b:=false) rfl rfl rfl kR (fun _ _ _ s=>s) (fun _=>kh _ _) (fun _=>rfl);refine aB ?_ ?_;exact dO (d:=55) (b:=false) rfl rfl rfl kR (fun _ _ _ s=>s) (fun _=>kh _ _) (fun _=>rfl);refine aB ?_ ?_;exact dO (d:=55) (b:=false) rfl rfl rfl kR (fun _ _ _ s=>s) (fun _=>kh _ _) (fun _=>rfl);refine aB ?_ ?_;exact dO (d:=55) (b:=false) rfl rfl rfl kR (fun _ _ _ s=>s) (fun _=>kh _ _) (fun _=>rfl);refine gW 52 false 35 55 47 67 ?_;refine pW 32 52 48 68 ?_;exact aC
      · intro aG a0 c q;replace c:Grow wr a0:=gD c;have aF:aG (.tmp 69)=.bool false:=q 49 69 rfl;simp only [zqq];rw [aF];clear q;have ab:=a7.out.trans (c.mono aq);have U:=W.out.below c W.out.lt;obtain ⟨k0,I,J⟩:=C.out a0 c;have al:=U.frozen o;have aj:a0.cell? ⟨D,o,none⟩=some (.bool (mkB l a o)):=(U.cell o).trans (mR l a aY.out);have M:=U.set o (.bool true);rw [aZ.out] at M;have X:=ab.setCell (p:=⟨D,o,none⟩) nL (.bool true);obtain ⟨ay,av⟩:=hqq2 M X;clear c ab U M X;go_wp2_with fail;go_roundw
        case rel=>exact ⟨a+1,by omega,by go_num,ay.out,av.out⟩
        case measure=>simp [intOf];omega
    · have aQ:=Y.out.rise (a - 1) (by rw [ah.out];omega);rw [show a - 1+1=a by omega,a2] at aQ;obtain ⟨ae,aR⟩:=O (a - 1) oM wr y;obtain ⟨ai,aH⟩:=eqx (aD l (a - 1));rw [aH] at ae aQ;have bC:decide ((a:Int) > 0)=true:=zBz oM;have bD:decide (0 < a)=true:=zBz oM;obtain ⟨a6,aP⟩:=eqx (a - 1);rw [aP] at ae;have aE:IntKind.i64.wrap ((a:Int) - 1)=(a6:Int):=(by rw [wI0];omega);have bL:decide ((x:Int)<=(ai:Int))=false:=zBy oM;have bM:decide (x<=ai)=false:=zBy oM;have bY:(a6:Int) < (m:Int):=oM;have a8:∀f,Grow wr f->f.cell? ⟨j,k+a*2,none⟩=some (.int .i64 (x:Int))/\f.cell? ⟨j,k+a*2+1,none⟩=some (.int .i64 (o:Int))/\f.cell? ⟨H,K+x,none⟩=some (.int .i64 (o:Int))/\f.cell? ⟨j,k+a6*2,none⟩=some (.int .i64 (ai:Int)):=fun f c=>by have a5:=y.trans (c.mono aq);obtain ⟨af,ag⟩:=O a V f a5;have a1:=ax.out a V f a5;have bn:=(O (a - 1) oM f a5).1;rw [a2] at af a1;rw [a3] at ag a1;rw [aH,aP] at bn;exact ⟨af,ag,a1,bn⟩
      obtain ⟨C,a7,W⟩:=hqq3 a8 y T;clear a8 a9 O aS aT bl ac ad a2 a3 T y M X ao bd aQ aH aP ae aR az aA ak al aj;go_wp2_with fail;refine wp_region_any kR ?_;refine aO [20,21,22,23,24,25,26,27,28,29,30,31,32,33,34,35,36,37,38,39,40,41,42,43,44,45,46,47,48,49,50,51,52,53,54,55,56,57,58,59,60,61,62,63,64,65,66,67,68,69] Grow (Vs [is (.slice (some ⟨j,k,none⟩) m v),is (a:Int),is (.pointer (some ⟨j,k+a*2,none⟩)),is (.pointer (some ⟨j,k+a*2,none⟩)),is (x:Int),is (.bool false),is (.bool false),is (.slice (some ⟨j,k,none⟩) m v),is (a:Int),is (.pointer (some ⟨j,k+a*2,none⟩)),is (.pointer (some ⟨j,k+a*2,none⟩)),is (x:Int),is (.slice (some ⟨H,K,none⟩) n R),is (n:Int),is (.bool false),is (.bool false),is (.bool false),is (.slice (some ⟨H,K,none⟩) n R),is (.slice (some ⟨j,k,none⟩) m v),is (a:Int),is (.pointer (some ⟨j,k+a*2,none⟩)),is (.pointer (some ⟨j,k+a*2,none⟩)),is (x:Int),is (.pointer (some ⟨H,K+x,none⟩)),is (o:Int),is (.slice (some ⟨j,k,none⟩) m v),is (a:Int),is (.pointer (some ⟨j,k+a*2,none⟩)),is (.pointer (some ⟨j,k+a*2+1,none⟩)),is (o:Int),is (.bool false),is (.bool false),is (.bool false),is (a:Int),is (.bool true),is (.bool true),is (.slice (some ⟨j,k,none⟩) m v),is (a:Int),is (.pointer (some ⟨j,k+a*2,none⟩)),is (.pointer (some ⟨j,k+a*2,none⟩)),is (x:Int),is (.slice (some ⟨j,k,none⟩) m v),is (a:Int),is (a6:Int),is (.pointer (some ⟨j,k+a6*2,none⟩)),is (.pointer (some ⟨j,k+a6*2,none⟩)),is (ai:Int),is (.bool false),is (.bool false),is (.bool false)]) _ _ rfl kR bR (fun _ _=>Grow.trans) (eM tA2) ?_ ?_
      · refine aK ?_;refine pH 0 (.slice (some ⟨j,k,none⟩) m v) ?_;refine pH 8 (.int .i64 (a:Int)) ?_;refine pW 0 20 1 21 ?_;refine pV 2 22 ?_;refine sC (fun _ f c _ _ _ q _ _ _ u=>?_) ?_
        · have bv:_=_:=q 3 23 kR rfl;replace c:Grow wr f:=gD c;obtain ⟨k0,I,J,Z⟩:=C.out f c;go_simp;exact u _ _ bR rfl
        refine pV 4 24 ?_;refine pV 5 25 ?_;refine gH 26 false 0 (.slice (some ⟨j,k,none⟩) m v) ?_;refine gH 26 false 8 (.int .i64 (a:Int)) ?_;refine gW 26 false 7 27 8 28 ?_;refine gV 26 false 9 29 ?_;refine sG 26 false (fun _ f c _ _ _ q _ _ _ u=>?_) ?_
        · have bw:_=_:=q 10 30 kR rfl;replace c:Grow wr f:=gD c;obtain ⟨k0,I,J,Z⟩:=C.out f c;go_simp;exact u _ _ bR rfl
        refine gH 26 false 1 (.slice (some ⟨H,K,none⟩) n R) ?_;refine gV 26 false 12 32 ?_;refine gW 26 false 11 31 13 33 ?_;refine pW 6 26 14 34 ?_;refine pV 15 35 ?_;refine gH 36 false 1 (.slice (some ⟨H,K,none⟩) n R) ?_;refine gH 36 false 0 (.slice (some ⟨j,k,none⟩) m v) ?_;refine gH 36 false 8 (.int .i64 (a:Int)) ?_;refine gW 36 false 18 38 19 39 ?_;refine gV 36 false 20 40 ?_;refine sG 36 false (fun _ f c _ _ _ q _ _ _ u=>?_) ?_
        · have bx:_=_:=q 21 41 kR rfl;replace c:Grow wr f:=gD c;obtain ⟨k0,I,J,Z⟩:=C.out f c;go_simp;exact u _ _ bR rfl
        refine gW 36 false 17 37 22 42 ?_;refine sG 36 false (fun _ f c _ _ _ q _ _ _ u=>?_) ?_
        · have bz:_=_:=q 23 43 kR rfl;replace c:Grow wr f:=gD c;obtain ⟨k0,I,J,Z⟩:=C.out f c;go_simp;exact u _ _ bR rfl
        refine gH 36 false 0 (.slice (some ⟨j,k,none⟩) m v) ?_;refine gH 36 false 8 (.int .i64 (a:Int)) ?_;refine gW 36 false 25 45 26 46 ?_;refine gV 36 false 27 47 ?_;refine sG 36 false (fun _ f c _ _ _ q _ _ _ u=>?_) ?_
        · have bA:_=_:=q 28 48 kR rfl;replace c:Grow wr f:=gD c;obtain ⟨k0,I,J,Z⟩:=C.out f c;go_simp;exact u _ _ bR rfl
        refine gW 36 false 24 44 29 49 ?_;refine pW 16 36 30 50 ?_;refine pV 31 51 ?_;refine gH 52 false 8 (.int .i64 (a:Int)) ?_;refine gV 52 false 33 53 ?_;refine gV 52 false 34 54 ?_;refine gH 55 true 0 (.slice (some ⟨j,k,none⟩) m v) ?_;refine gH 55 true 8 (.int .i64 (a:Int)) ?_;refine gW 55 true 36 56 37 57 ?_;refine gV 55 true 38 58 ?_;refine sG 55 true (fun _ f c _ _ _ q _ _ _ u=>?_) ?_
        · have bJ:_=_:=q 39 59 kR rfl;replace c:Grow wr f:=gD c;obtain ⟨k0,I,J,Z⟩:=C.out f c;go_simp;exact u _ _ bR rfl
        refine gH 55 true 0 (.slice (some ⟨j,k,none⟩) m v) ?_;refine gH 55 true 8 (.int .i64 (a:Int)) ?_;refine gV 55 true 42 62 ?_;refine gW 55 true 41 61 43 63 ?_;refine gV 55 true 44 64 ?_;refine sG 55 true (fun _ f c _ _ _ q _ _ _ u=>?_) ?_
        · have bK:_=_:=q 45 65 kR rfl;replace c:Grow wr f:=gD c;obtain ⟨k0,I,J,Z⟩:=C.out f c;go_simp;exact u _ _ bR rfl
        refine gW 55 true 40 60 46 66 ?_;refine gW 52 false 35 55 47 67 ?_;refine pW 32 52 48 68 ?_;exact aC
      · intro aG a0 c q;replace c:Grow wr a0:=gD c;have aF:aG (.tmp 69)=.bool false:=q 49 69 rfl;simp only [zqq];rw [aF];clear q;have ab:=a7.out.trans (c.mono aq);have U:=W.out.below c W.out.lt;obtain ⟨k0,I,J,Z⟩:=C.out a0 c;have al:=U.frozen o;have aj:a0.cell? ⟨D,o,none⟩=some (.bool (mkB l a o)):=(U.cell o).trans (mR l a aY.out);have M:=U.set o (.bool true);rw [aZ.out] at M;have X:=ab.setCell (p:=⟨D,o,none⟩) nL (.bool true);obtain ⟨ay,av⟩:=hqq2 M X;clear c ab U M X;go_wp2_with fail;go_roundw
        case rel=>exact ⟨a+1,by omega,by go_num,ay.out,av.out⟩
        case measure=>simp [intOf];omega
  · have bF:a=m:=oM;subst bF;have c:∀i,mkB l a i=true↔Smp l i:=fun i=>by rw [<-ah.out];exact aKd l i
    obtain ⟨W,a7,aX⟩:=hqq3 T y c;clear T y c;go_wp2_with fail;go_loopw [9,10] (fun g i bH=>∃z L:Nat,z<=n/\i=.int .i64 (z:Int)/\g=.int .i64 (L:Int)/\aAR (Smp l) z L/\L<=z/\bH=wr) (fun _ i _=>n -(intOf i).toNat)
    case atStart=>exact ⟨0,0,zAp _,rfl,rfl,.inl ⟨rfl,rfl⟩,zAs _,rfl⟩
    case round=>
        obtain ⟨z,L,bP,rfl,rfl,an,bV,rfl⟩:=hrel;by_cases bE:z < n
        · have bu:wr.cell? ⟨D,z,none⟩=some (.bool (mkB l a z)):=(W.out.cell z).trans (mR l a bE);have bk:(z:Int) < (n:Int):=oM;have a9:=b0.out;obtain ⟨E,y⟩:=eqx (mkB l a z);rw [y] at bu;have aa:=aX.out z;rw [y] at aa;cases E with
          | true=>
            have bc:aAR (Smp l) (z+1) 0:=aKk (aa.1 rfl);have bN:=Y.out.rate;have b4:decide ((0:Int)>=(r:Int))=false:=zBy oM;have b5:decide (r=0)=false:=zBy oM;have bs:=lhd bc;clear a9 y aa bc an;go_wp2_with fail;go_roundw
            case rel=>exact ⟨z+1,0,by omega,by go_num,by first | rfl | trivial,bs.out,zAp _,by first | rfl | trivial⟩
            case measure=>simp [intOf];omega
          | false=>
            have bh:¬Smp l z:=fun bB=>by have:=aa.2 bB;cases this
            have aJ:=aLi Y.out.zero bh an;have V:=aLj Y.out.gap Y.out.rate aJ oM;have aE:((L+1:Nat):Int)=(L:Int)+1:=oM;have b4:decide ((L:Int)+1>=(r:Int))=false:=zBy oM;have b5:decide (r<=L+1)=false:=zBy oM;have br:=lhd aJ;clear a9 y aa aJ an bh;go_wp2_with fail;go_roundw
            case rel=>exact ⟨z+1,L+1,by omega,by go_num,by go_num,br.out,by omega,by first | rfl | trivial⟩
            case measure=>simp [intOf];omega
        · have bI:wr.cell? ⟨D,0,none⟩=some (.bool true):=(by rw [W.out.cell 0];have:mkB l a 0=true:=(aX.out 0).2 Y.out.zero;rw [<-this];exact mR l a bg);have bk:(0:Int) < (n:Int):=oM;clear an;go_wp2_with fail;go_ret;exact ⟨rfl,a7.out⟩
def aIF {a b:Nat} (c:a≠b):((a:Int)==(b:Int))=false:=by rw [zCb];omega
def aHS {a b:List Nat} {c n:Nat} (j:a.length=n) (k:b.length=n) (f:a.take c=b.take c) (l:n<=c):a=b:=by
 rw [zAg oM,zAg oM] at f;exact f
def aCH (K L:Option Addr) (b a0 k a1 V W:Nat) (c f:List Nat) (w:World) (v:Rd w V 1 K b (c.map sv)) (x:Rd w W 1 L k (f.map sv)) (a8:b<=1099511627776) (a9:k<=1099511627776):
 Calls prog 24 #[.slice K b a0,.slice L k a1] w fun e w'=>e=.returned (.bool (decide (c=f)))/\Below w.heap.size w w':=by
 have T:c.length=b:=by simpa using v.1
 have U:f.length=k:=by simpa using x.1
 obtain ⟨X,Y,l,o⟩:=hqq4 v x T U;clear v x T U;by_cases y:b=k
 · subst y;go_enter func24,ntmps24;go_wp2;go_loopw [5] (fun i wr=>∃a:Nat,a<=b/\i=.int .i64 a/\c.take a=f.take a/\∃m,wr=w.drewN m) (fun i _=>b -(intOf i).toNat)
   case atStart=>exact ⟨0,zAp _,rfl,rfl,0,rfl⟩
   case round=>
    obtain ⟨a,a7,rfl,q,aa,rfl⟩:=hrel;by_cases R:a < b
    · obtain ⟨I,D⟩:∃I,c[a]?=some I:=⟨c[a]'(by have:=l.out;omega),zAa (by have:=l.out;omega)⟩;obtain ⟨J,H⟩:∃J,f[a]?=some J:=⟨f[a]'(by have:=o.out;omega),zAa (by have:=o.out;omega)⟩;obtain ⟨b1,ab,ad,rfl,a5,z,a2⟩:=X.out.get R;obtain ⟨b2,ac,ae,rfl,a6,C,a3⟩:=Y.out.get R;rw [zAf,D] at z;rw [zAf,H] at C;simp only [Option.map_some,Option.some.injEq] at z C;subst z;subst C;unfold sv at a2 a3;obtain ⟨Z,M,O⟩:=hqq3 q D H;clear q D H;by_cases E:I=J
      · subst E;go_wp2;go_quiet (fail);go_wp2;go_roundw
        case rel=>refine ⟨a+1,by omega,by go_num,?_,_,rfl⟩;rw [zAv,zAv,Z.out,M.out,O.out]
        case measure=>simp [intOf];omega
      · have t:=aIF E
        have j:c≠f:=fun u=>E (by
         have p:=M.out;rw [u,O.out] at p;injection p with p;exact p.symm)
        have s:=lhd j;clear j;go_wp2;go_quiet (fail);go_wp2;go_ret;exact ⟨bH (by rw [zBy s.out]),kn (kn bR _) _⟩
    · have a4:b<=a:=oM;have j:=lhd (aHS l.out o.out q a4);clear q;go_wp2;go_ret;exact ⟨bH (by rw [zBz j.out]),kn bR _⟩
 · have j:c≠f:=fun u=>y (by rw [<-l.out,<-o.out,u]);have s:=lhd j;have t:=aIF y;clear j;go_enter func24,ntmps24;go_wp2;go_ret;exact ⟨bH (by rw [zBy s.out]),kh _ _⟩
end
end Go.Proofs.YtecdldbdednahaaGreatDoor
