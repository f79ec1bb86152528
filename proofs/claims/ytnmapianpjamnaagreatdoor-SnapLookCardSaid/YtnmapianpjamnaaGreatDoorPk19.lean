/- Lemmas of the walk. Conditions: each its own. -/
import Derived.Test.YtnmapianpjamnaaGreatDoorPk18
import Derived.Test.YtnmapianpjamnaaGreatDoorProg
import Derived.Test.YtnmapianpjamnaaGreatDoorShl
import Derived.Test.YtnmapianpjamnaaGreatDoorShi
import Derived.Test.YtnmapianpjamnaaGreatDoorSht
set_option linter.all false
set_option maxRecDepth 100000
set_option maxHeartbeats 4000000
open Go.Proofs.Tryz
namespace Go.Proofs.YtnmapianpjamnaaGreatDoor
section
open Go.RowKit
def WaveS.cells {w:World} {e:Nat} {own:Nat->Nat} {a:Nat} {S:Nat->Value} {f:Nat->List Nat} {b c:Int} (d:WaveS w e own a S f b c):(∀i,i < 9->w.cell? ⟨a,i,none⟩=some (S i))/\w.cell? ⟨a,9,none⟩=some (.int .i64 b)/\w.cell? ⟨a,10,none⟩=some (.int .i64 c):=by
 obtain ⟨l,m,n,o,p,q,r,s,t,j,g⟩:=aT S b c;exact ⟨fun i k=>(d.blk.cell i).trans (lS S b c i k),(d.blk.cell 9).trans j,(d.blk.cell 10).trans g⟩
end
section
abbrev ro (R:List Nat) (a:Nat):Nat:=R.idxOf a
def aCI {R:List Nat} (e:R.Nodup) {a b:Nat} (d:R[a]?=some b):ro R b=a:=by
 obtain ⟨f,c⟩:=zAc.1 d;subst c;exact e.idxOf_getElem a f
def aDx (S R:List Nat) (a b:Nat):Prop:=S.getD a 0 < S.getD b 0∨(S.getD a 0=S.getD b 0/\ro R (a+1) < ro R (b+1))
structure Near (S R:List Nat) (N i:Nat):Prop where
 endk:EndOk S N
 perm:R.Perm (List.range (N+1))
 first:∀p q,p<=N->q<=N->ro R p < ro R q->S.getD p 0<=S.getD q 0
 cons:∀p q,p<=N->q<=N->p≠q->p+1≠i->q+1≠i->(ro R p < ro R q↔aDx S R p q)
section
variable {S R : List Nat} {N i : Nat}
def Near.nodup (a:Near S R N i):R.Nodup:=a.perm.nodup_iff.2 List.nodup_range
def Near.mem (b:Near S R N i) {a:Nat}:a∈R↔a<=N:=by
 rw [b.perm.mem_iff,zCg];omega
def Near.len (a:Near S R N i):R.length=N+1:=by simpa using a.perm.length_eq
def aBh {S:List Nat} {a b:Nat} (k:a < S.length) (l:b < S.length) (j:S.getD a 0=S.getD b 0) (e:sufLt S (a+1) (b+1)):sufLt S a b:=by
 obtain ⟨w,d,m,f,g⟩:=e;refine ⟨w+1,d+1,by omega,fun c n=>?_,?_⟩
 · cases c with
   | zero=>
     rw [zBp,zBp,fS k,fS l,j]
   | succ c=>
     have:=f c oM;rw [show a+(c+1)=a+1+c by omega,show b+(c+1)=b+1+c by omega];exact this
 rw [show a+(d+1)=a+1+d by omega,show b+(d+1)=b+1+d by omega];exact g
def aCh {S:List Nat} {a b:Nat} (c:a < S.length) (d:b < S.length) (e:S.getD a 0 < S.getD b 0):sufLt S a b:=by
 refine ⟨1,0,by omega,fun g f=>by omega,?_⟩;rw [zBp,zBp,fS c,fS d];omega
def Near.sorted (c:Near S R N 0):IsSuf S R:=by
 obtain ⟨r,E,k⟩:=c.endk;have D:∀e a b,N < a+e->a<=N->b<=N->a≠b->ro R a < ro R b->sufLt S a b:=by
  intro e
  induction e with
  | zero=>intro a b u o;omega
  | succ e B=>
    intro a b u o A z v;rcases (c.cons a b o A z oM oM).1 v with j |⟨j,s⟩;exact aCh oM oM j
    · have G:a≠N:=fun d=>by subst d;have:=k b oM;omega
      have H:b≠N:=fun d=>by subst d;have:=k a oM;omega
      exact aBh oM oM j (B (a+1) (b+1) oM oM oM oM s)
 refine ⟨by rw [r];exact c.perm,?_⟩;rw [zAr];intro f g l m t;have n:=c.nodup;have x:R[f]<=N:=c.mem.1 (zBj l);have y:R[g]<=N:=c.mem.1 (zBj m);have p:ro R R[f]=f:=aCI n (zAa l);have q:ro R R[g]=g:=aCI n (zAa m);exact D (N+1) _ _ oM x y (fun d=>by rw [d,q] at p;omega) (by rw [p,q];exact t)
end
end
section
open Go.RowKit Go.Shelf
def Bk.shape {w:World} {b:Nat} {d:TypeId} {a:Array Value} (c:Bk w b d a):w.shape? b=some (d,a.size):=by
 unfold Bk at c;unfold World.shape?;rw [c]
end
section
open Go.RowKit Go.Shelf
open Go.Sort (Holds)
def PermX.drewN {w:World} {F:Nat->Prop} {gp ga:Nat} {vl vo vt vf:Value} {R P:Nat} {ks:List Nat} {C:List (Nat×Nat)} {tk:List Bool} {fr:List Nat} (a:PermX w F gp ga vl vo vt vf R P ks C tk fr) (b:Nat):PermX (w.drewN b) F gp ga vl vo vt vf R P ks C tk fr:=
 { a with at_:=a.at_.below (below_drewN bR _)}
def PermX.sorted {w o:World} {F:Nat->Prop} {gp ga:Nat} {vl vo vt vf:Value} {R P:Nat} {ks m:List Nat} {C:List (Nat×Nat)} {tk:List Bool} {fr:List Nat} (g:PermX w F gp ga vl vo vt vf R P ks C tk fr) (k:m.Perm ks) (f:Keep (fun c=>vo.ownBlock=some c) w o) (s:o.ownsRow 0 3 1 vo ks.length (m.map sv)):PermX o F gp ga vl vo vt vf R P m C tk fr:=by
 have a:=g.at_;have j:∀c n d,Bk w c n d->n≠3->¬(vo.ownBlock=some c):=fun c n d b ht e=>by obtain ⟨u,q⟩:=lZ a.orow e;exact ht (aU b q).1
 refine { g with at_:=⟨f.bk a.blk (j _ _ _ a.blk dC),aA a.lrow fun c d _ b=>f.bk b (j _ _ _ b dC),by rw [k.length_eq];exact s,f.bk a.ar (j _ _ _ a.ar dC),aA a.trow fun c d _ b=>f.bk b (j _ _ _ b dC),aA a.frow fun c d b r=>f.bk r fun e=>?_,a.apart,fun p t=>a.lt p (k.subset t),a.lo⟩,nd:=k.nodup_iff.2 g.nd,tkk:=fun p=>(g.tkk p).trans k.mem_iff.symm };rcases a.apart with l | l
 · rw [l] at e;cases e
 exact l (e.trans b.symm)
end
section
open Go.RowKit Go.Shelf
def AF (ga:Nat) (vt vf:Value) (a:Nat):Prop:=a=ga∨vt.ownBlock=some a∨vf.ownBlock=some a
section
variable {w : World} {F : Nat -> Prop} {gp ga : Nat} {vl vo vt vf : Value} {R P : Nat} {ks : List Nat} {C : List (Nat × Nat)} {tk : List Bool} {fr : List Nat}
def PermX.arena (l:PermX w F gp ga vl vo vt vf R P ks C tk fr):ArenaE w (AF ga vt vf) ga tk fr:=by
 have a:=l.at_;obtain ⟨d,g,j,_⟩:=aJ a.trow;obtain ⟨c,f,k,_⟩:=aJ a.frow;subst j k;exact ⟨.inl rfl,d,g,c,f,a.ar,cU a.trow (zAp _),cU a.frow (zAp _),fun e b=>.inr (.inl b),fun e b=>.inr (.inr b)⟩
end
def PermE.inj {w:World} {F:Nat->Prop} {gp R P:Nat} {c:List (Nat×Nat)} (f:PermE w F gp R P c) {d e:Nat×Nat} (k:d∈c) (l:e∈c) (m:d.1=e.1):d=e:=by
 obtain ⟨i,g,rfl⟩:=List.getElem_of_mem k;obtain ⟨b,j,rfl⟩:=List.getElem_of_mem l;rcases Nat.lt_trichotomy i b with a | a | a;have:=zAr.1 f.2.1 i b g j a;omega;subst a;rfl;have:=zAr.1 f.2.1 b i j g a;omega
end
section
open Go.RowKit
def lJ (d:Option Addr) (a j v:Nat) (b:List UInt8) (w:World) (q:Rd w v 1 d a (b.map bv)) (a5:v<=w.heap.size) (ab:a<=1000000):
 Calls prog 79 #[.slice d a j] w fun e V=>∃s D,e=.returned (.slice s (bL b).length D)/\Made V w.heap.size 5 1 s (bL b).length D ((bL b).map bv)/\Below w.heap.size w V:=by
 have p:b.length=a:=by have:=q.1;simpa using this
 obtain ⟨k0,m⟩:=eqx ((aH a).length);have aa:k0<=11:=by rw [<-m];exact bP a
 obtain ⟨N,k⟩:=eqx ((bL b).length);have a8:N<=2000000:=by rw [<-k,dY,p,m];omega
 obtain ⟨W,a2,Y,a0⟩:=hqq4 (q.mono a5) m k p;have a9:=rL b;rw [k];clear q m k p;go_enter func79,ntmps79;go_wp2_with fail;refine (pA _ _ _ _ [a] _ (aH a) k0 (jY a) a2.out (Rd.made _ _ 1 1 _ rfl) nL (by simp;omega) oM).mono ?_;rintro e w1 ⟨t,E,rfl,L,H⟩;have l:=((Below.refl w.heap.size w).alloc nL _).trans (H.mono (by simp));have Q:=L.rd;obtain ⟨n,A,y⟩:=hqq3 (W.out.below l) Q l;have r:=l.size;clear L H l Q;go_wp2_with fail;refine (jJ d _ a j _ b _ (((n.out.alloc r _).mono (by simp;omega))) oM (Rd.made _ _ 1 1 _ rfl)).mono ?_;rintro e af ⟨rfl,I⟩;have f:=((Below.refl w1.heap.size w1).alloc nL _).trans (I.mono (by simp));obtain ⟨x,B,z⟩:=hqq3 (n.out.below (f.mono r)) (A.out.below f) (y.out.trans (f.mono r));have ac:=f.size;clear f I n A y;go_wp2_with fail;refine (qP (dQ b) _).mono ?_;rintro e c ⟨u,G,rfl,M,g⟩;have T:=M.rd;obtain ⟨X,a4,a1,o⟩:=hqq4 (x.out.below (g.mono oM)) (B.out.below (g.mono oM)) T (z.out.trans (g.mono oM));have ad:=g.size;clear g M T x B z;go_wp2_with fail
 have K:=kE (some ⟨c.heap.size,0,none⟩) 3 3 (c.heap.size+1) [⟨t,k0,E,aH a⟩,⟨d,a,j,b⟩,⟨u,4,G,iG (dQ b)⟩] (bL b) N (by unfold bL;rw [a0.out];simp [eW]) Y.out (c.alloc (.cells #[.slice t k0 E,.slice d a j,.slice u 4 G] 22)) ((Rd.made c _ 1 3 _ rfl).mono (by simp)) (by
  intro ae U;simp at U;rcases U with rfl | rfl | rfl;exact (a4.out.mono oM).alloc oM _ |>.mono oM;exact (X.out.mono oM).alloc oM _ |>.mono oM
  · exact (a1.out.alloc oM _).mono oM) (by simp) oM oM
 refine K.mono ?_;clear K;rintro e ag ⟨a6,a7,rfl,O,J⟩;have a3:=lhd (O.mono (B':=w.heap.size) (by simp;have:=o.out.size;omega));have Z:=lhd (o.out.trans ((((Below.refl c.heap.size c).alloc nL _).trans (J.mono (by simp))).mono o.out.size));clear O J;go_wp2_with fail;go_ret;exact ⟨_,_,rfl,a3.out,Z.out⟩
def aA1 (a:Option Addr) (d c b:Nat):Array Value:=#[.slice a d c,.int .i64 (b:Int),.bool false]
def gU (c:Nat) (f:Option Addr) (e d n j m a b:Nat) (l:List UInt8) (w:World) (g:Bk w c 122 (aA1 f e d j)) (r:Rd w n 1 f e (l.map bv)) (z:e<=d) (o:d<=maxLen) (q:aW l (j:Int)=(a,(m:Int),0)) (I:a<=b) (H:b<=4611686018427387904):
 Calls prog 83 #[c,(b:Int)] w fun y s=>y=.returned (.int .i64 (a:Int))/\Bk s c 122 (aA1 f e d m)/\Keep (fun k=>k=c) w s:=by
 have D:w.cell? c=some (.slice f e d):=g.cell 0;have E:w.cell? ⟨c,1,none⟩=some (.int .i64 (j:Int)):=g.cell 1;have G:=g.frozen 1;obtain ⟨t,x,v,u⟩:=hqq4 g r q o;have A:¬((a:Int) > (b:Int)):=oM;have J:decide ((a:Int) > (b:Int))=false:=zBx A;have B:¬b < a:=oM;have K:decide (b < a)=false:=zBx B;have L:IntKind.u64.wrap (b:Int)=(b:Int):=by rw [IntKind.wrap_u64];omega
 have M:IntKind.i64.wrap (a:Int)=(a:Int):=by rw [IntKind.wrap_i64];omega
 clear g r q o;go_enter func83,ntmps83;go_wp2_with fail;go_quiet (exact wF (cQ f e d l (j:Int) n _ a (m:Int) 0 v.out (x.out.drewN _) z u.out));go_wp2_with fail;go_ret;exact ⟨rfl,(t.out.drewN nq).set 1 _,((Keep.refl (fun k=>k=c) w).drewN nq).setCell (p:=⟨c,1,none⟩) (.inl rfl) _⟩
def lL (c:Nat) (g:Option Addr) (b f s n a d e:Nat) (q:List UInt8) (w:World) (o:Bk w c 122 (aA1 g b f n)) (B:Rd w s 1 g b (q.map bv)) (W:b<=f) (U:f<=maxLen) (a4:b<=1099511627776) (y:aW q (n:Int)=(d,(a:Int),0)) (a5:a+(d+4)=e) (ht:e<=b):
 Calls prog 84 #[c] w fun v G=>v=.returned (.slice (cS g f a 1) d (f - a))/\Bk G c 122 (aA1 g b f e)/\Keep (fun J=>J=c) w G:=by
 have A:=gU c g b f s n a d b q w o B W U y oM oM;have K:w.cell? c=some (.slice g b f):=o.cell 0;clear o B y;go_enter func84,ntmps84;go_wp2_with fail;refine A.mono ?_;clear A;rintro v w1 ⟨rfl,k,z⟩;have L:w1.cell? c=some (.slice g b f):=k.cell 0;have M:w1.cell? ⟨c,1,none⟩=some (.int .i64 (a:Int)):=k.cell 1;have O:w1.cell? ⟨c,2,none⟩=some (.bool false):=k.cell 2;have T:=k.frozen 1;obtain ⟨t,u⟩:=hqq2 k z;obtain ⟨j,V⟩:∃j,b - a=j+4:=⟨b - a - 4,by omega⟩;have Y:IntKind.i64.wrap ((b:Int) -(a:Int))=((j+4:Nat):Int):=by rw [IntKind.wrap_i64];omega
 have Z:IntKind.i64.wrap (((j+4:Nat):Int) - 4)=(j:Int):=by rw [IntKind.wrap_i64];omega
 have D:¬((d:Int) > (j:Int)):=oM;have a0:decide ((d:Int) > (j:Int))=false:=zBx D;have E:¬j < d:=oM;have a1:decide (j < d)=false:=zBx E;clear k z K;go_wp2_with fail;go_quiet (fail);go_wp2_with fail;have Q:((a:Int)+((d:Int)+4))=(e:Int):=oM;rw [Q];have l:=(t.out.drewN nq).set 1 (.int .i64 (e:Int));have m:=(u.out.drewN nq).setCell (p:=⟨c,1,none⟩) (.inl rfl) (.int .i64 (e:Int));generalize (w1.drewN nq).setCell ⟨c,1,none⟩ (.int .i64 (e:Int))=w2 at l m⊢;have a2:w2.cell? c=some (.slice g b f):=l.cell 0;have a3:w2.cell? ⟨c,1,none⟩=some (.int .i64 (e:Int)):=l.cell 1;obtain ⟨H,I⟩:=hqq2 l m;obtain ⟨r,a7⟩:=eqx (a+d);have aa:IntKind.i64.wrap ((e:Int) -(d:Int))=((a+4:Nat):Int):=by rw [IntKind.wrap_i64];omega
 have ab:IntKind.i64.wrap (((a+4:Nat):Int) - 4)=(a:Int):=by rw [IntKind.wrap_i64];omega
 have ac:IntKind.i64.wrap ((e:Int) - 4)=(r:Int):=by rw [IntKind.wrap_i64];omega
 have X:=fun w=>kO (P:=prog) 22 5 1 underlying22 (fun w=>by kernel_rfl) g b f a r oM oM w;have x:r - a=d:=oM;rw [x] at X;have a6:a<=1099511627776:=oM;have a8:e<=1099511627776:=oM;have a9:a+d+4=e:=oM;clear l m t u L M O T V Y Z D a0 E a1 x;go_quiet (fail);go_wp2_with fail;go_ret;exact ⟨rfl,H.out.drewN _,I.out.drewN _⟩
end
section
def zX {a:List UInt8} {b:List Nat} (j:IsSuf (aE a) b) {c:Nat} (f:b[c]?=some 0):(aL (aE a) b)[c]?=some 0:=by
 unfold aL;rw [zAf,f];obtain ⟨d,e,g⟩:=fV a;show some (dK (aE a) 0)=some 0;rw [gK oM,d];have:a.length+1 - 1=a.length:=oM;rw [this,e]
def xF {a:List UInt8} {e:List Nat} (j:IsSuf (aE a) e):(aL (aE a) e).count 0=1:=by
 obtain ⟨c,f,g⟩:=fV a;unfold aL;rw [List.count_eq_countP,List.countP_map,j.count,c,kB (m:=a.length) _ (fun b=>(aE a).getD b 0==0)]
 · rw [List.range_succ,List.countP_append];have k:(List.range a.length).countP (fun b=>(aE a).getD b 0==0)=0:=List.countP_eq_zero.2 fun b d l=>by have:=g b (zCg.1 d);rw [zCn] at l;omega
   rw [k];simp only [List.countP_singleton,f];rfl
 · simp only [Function.comp];rw [gK oM,c];congr 2
 · intro b d;simp only [Function.comp];rw [gL oM]
def zV {b:List Nat} {c d:Nat} (g:b[c]?=some d) (a:Nat):dZ b a (c+1)=if a=d then dZ b a c+1 else dZ b a c:=by
 unfold dZ;rw [zAv,g,zCb];by_cases e:a=d;subst e;rw [zBw rfl];simp;omega
 · rw [zBv e];have:([d]:List Nat).count a=0:=(by rw [List.count_eq_zero];intro f;simp at f;exact e f);show _+((b.take c).count a+ [d].count a)=_;rw [this,zBp]
end
section
open Go.RowKit
def xU (k l:Option Addr) (a s t g:Nat) (d:List Nat) (w:World) (j:Rd w g 1 k a (d.map sv)) (o:Rd w g 1 l a (d.map sv)) (m:g<=w.heap.size) (H:a<=1099511627776):
 Calls prog 124 #[.slice k a s,.slice l a t] w fun u A=>u=.returned (.bool true)/\Below w.heap.size w A:=by
 have E:d.length=a:=by have:=j.1;simpa using this
 obtain ⟨q,r⟩:=hqq2 j o;clear j o;go_enter func124,ntmps124;go_wp2_with fail;go_loopw [13] (fun i wr=>∃c:Nat,c<=a/\i=.int .i64 (c:Int)/\Below w.heap.size w wr) (fun i _=>a -(intOf i).toNat)
 case atStart=>exact ⟨0,by omega,rfl,Below.refl _ _⟩
 case round=>
  obtain ⟨c,G,rfl,b⟩:=hrel;by_cases n:c < a
  · obtain ⟨b1,I,K,rfl,B,e,v⟩:=(q.out.below (b.mono m)).get n;obtain ⟨b2,J,L,rfl,D,f,x⟩:=(r.out.below (b.mono m)).get n;obtain ⟨p,z⟩:∃p,d[c]?=some p:=⟨_,zAa oM⟩;rw [zAf,z] at e f;injection e with e;injection f with f;subst e f;unfold sv at v x;go_wp2_with fail;go_quiet (fail);go_wp2_with fail;go_roundw
    case rel=>exact ⟨c+1,by omega,by go_num,⟨b.os,b.tape,b.output,b.size,b.block⟩⟩
    case measure=>simp [intOf];omega
  · have y:c=a:=oM;subst y;go_wp2_with fail;go_ret;exact ⟨rfl,b⟩
def oY (c d:Option Addr) (a f g b:Nat) (e:List Nat) (w:World) (k:Rd w b 1 c a (e.map sv)) (l:Rd w b 1 d a (e.map sv)) (m:b<=w.heap.size) (p:a<=1099511627776):
 Calls prog 169 #[.slice c a f,.slice d a g] w fun j q=>j=.returned (.bool true)/\Below w.heap.size w q:=by
 have o:=xU c d a f g b e w k l m p;clear k l;go_enter func169,ntmps169;go_wp2_with fail;refine o.mono ?_;rintro j w1 ⟨rfl,n⟩;go_wp2_with fail;go_ret;exact ⟨rfl,n⟩
def pB (c d:Option Addr) (g j m n l:Nat) (a b:List UInt8) (w:World) (o:Rd w l 1 c g (a.map bv)) (p:Rd w l 1 d j (b.map bv)):
 Calls prog 87 #[.slice c g m,.slice d j n] w fun q v=>q=.returned (.bool (a==b))/\Below w.heap.size w v:=by
 have t:(convert 22 9 (.slice c g m)).run prog w=.ok (.string ⟨a.toArray⟩) w:=jR (P:=prog) 22 9 5 underlying22 underlying5 underlying9 o;have u:(convert 22 9 (.slice d j n)).run prog w=.ok (.string ⟨b.toArray⟩) w:=jR (P:=prog) 22 9 5 underlying22 underlying5 underlying9 p;obtain ⟨x,e⟩:∃k:ByteArray,⟨a.toArray⟩=k:=⟨_,rfl⟩;obtain ⟨y,f⟩:∃k:ByteArray,⟨b.toArray⟩=k:=⟨_,rfl⟩;rw [e] at t;rw [f] at u;have r:x.toList=a:=by rw [<-e,ByteArray.toList_eq]
 have s:y.toList=b:=by rw [<-f,ByteArray.toList_eq]
 clear e f o p;go_enter func87,ntmps87;go_wp2_with fail;go_ret;refine ⟨?_,Below.refl _ _⟩;rw [<-r,<-s];rfl
def nG (a:UInt8) (b:Nat):aE (List.replicate b a)=List.replicate b (a.toNat+1)++ [0]:=by
 unfold aE nS;rw [List.map_replicate]
def wM (a:UInt8) {c d:Nat} (b:d < c):aN (aE (List.replicate c a)) d=((a.toNat+1:Nat):Int):=by
 unfold aN;rw [nG,zAn (by simpa using b),List.getElem?_replicate,zBw b]
def aCc (b:UInt8) (a:Nat):aN (aE (List.replicate a b)) a=0:=by
 unfold aN;rw [nG,zAo (by simp)];simp
def aCa (c:UInt8) (a:Nat):IsSuf (aE (List.replicate a c)) (List.range (a+1)).reverse:=by
 refine ⟨?_,?_⟩;rw [aK,zCj];exact List.reverse_perm _
 · rw [List.pairwise_reverse];refine List.pairwise_lt_range.imp_of_mem ?_;intro e b f d g;have j:=zCg.1 d;refine ⟨a - b+1,a - b,by omega,fun l k=>?_,?_⟩
   · rw [wM c oM,wM c oM]
   rw [show b+(a - b)=a by omega,aCc,wM c oM];omega
def aBc (b:UInt8) (a:Nat):aL (aE (List.replicate a b)) (List.range (a+1)).reverse=List.replicate a (b.toNat+1)++ [0]:=by
 have d:(aE (List.replicate a b)).length=a+1:=by rw [aK,zCj]
 unfold aL;rw [List.range_succ_eq_map,List.reverse_cons,zAz];have g:List.map (dK (aE (List.replicate a b))) [0]= [0]:=by show [dK (aE (List.replicate a b)) 0]= [0];unfold dK;rw [d,show (0+(a+1) - 1)%(a+1)=a by rw [zBi,zBb];exact zBt oM,nG,zAb,zAo (by simp)];simp
 rw [g];congr 1;rw [List.eq_replicate_iff];refine ⟨by simp,fun l j=>?_⟩;obtain ⟨m,e,rfl⟩:=zAy.1 j;rw [List.mem_reverse,zAy] at e;obtain ⟨c,k,rfl⟩:=e;have f:=zCg.1 k;unfold dK;rw [d,show (c.succ+(a+1) - 1)%(a+1)=c by
  rw [show c.succ+(a+1) - 1=c+(a+1) by omega,Nat.add_mod_right];exact zBt oM,nG,zAb,zAn (by simpa using f),List.getElem?_replicate,zBw f]
 rfl
def zT (b:UInt8) {a:Nat} (s:a<=200):(cF (List.replicate a (b.toNat+1)++ [0])).length<=10:=by
 have r:=b.toNat_lt;have m:=cW 1 oM;have n:=cW 2 oM;have l:=cW 0 oM;have p:=cW a oM;have o:=cW (b.toNat+1) oM;unfold cF eG;rw [zAz,List.map_replicate];rcases zBa a with rfl | q;have c:aG ([]++List.map (fun e:Nat=>(e:Int)) [0])= [(0,1)]:=rfl;rw [List.replicate_zero,c];show (aH 1++((aH 0++aH 1)++ [])).length<=_;simp only [zAi,List.length_nil];omega
 · have c:=tC [(((b.toNat+1:Nat):Int),a),(0,1)] ⟨by simp;omega,List.pairwise_of_forall (by intros;trivial),by
    intro i j k f d;rcases i with _ | i;simp at f d;subst f d;simp;omega
    · simp at d⟩
   have g:bH [(((b.toNat+1:Nat):Int),a),(0,1)]=List.replicate a ((b.toNat+1:Nat):Int)++List.map (fun e:Nat=>(e:Int)) [0]:=(by simp [bH]);rw [g] at c;rw [c];show (aH 2++((aH (b.toNat+1)++aH a)++((aH 0++aH 1)++ []))).length<=_;simp only [zAi,List.length_nil];omega
def uA {α:Type} (b:α->List UInt8):∀a:List α,(∀c∈a,(b c).length<=2)->(a.flatMap b).length<=2*a.length
 | [],_=>by simp
 | c::a,h=>by have f:=h c List.mem_cons_self;have g:=uA b a fun e d=>h e (List.mem_cons_of_mem _ d);rw [List.flatMap_cons,zAi,zCe];omega
def aCb (a:UInt8) {k r:Nat} (b:k<=200) (c:8<=r) (s:r<=64):(bT (aL (aE (List.replicate k a)) (List.range (k+1)).reverse) (List.range (k+1)).reverse 1000 r k).length<=40+2*(k / r+1):=by
 rw [aBc];have o:=zT a b;have p:(jK (List.range (k+1)).reverse r k).length<=2*(k / r+1):=by
  have:=uA (fun d=>aH ((List.range (k+1)).reverse.idxOf (d*r))) (List.range (k / r+1)) fun e _=>cW _ (by
   have:(List.range (k+1)).reverse.idxOf (e*r)<=(List.range (k+1)).reverse.length:=List.idxOf_le_length;simp at this;omega)
  rw [zCf] at this;exact this
 have q:k / r<=25:=by have:k / r<=k / 8:=Nat.div_le_div_left c oM;omega
 have f:=cW 1000 oM;have g:=cW r oM;have j:=cW k oM;have l:=cW (cF (List.replicate k (a.toNat+1)++ [0])).length oM;have m:=cW (jK (List.range (k+1)).reverse r k).length oM;unfold bT;rw [zAi,gA,gC];simp only [zAi,dY];have n:cM.length=4:=rfl;omega
def zF (b c:List Nat) {most rate N:Nat} (j:most < 18446744073709551616) (k:rate < 18446744073709551616) (l:N < 18446744073709551616):∃f g m:Nat,aW (bT b c most rate N) 4=(most,(f:Int),0)/\aW (bT b c most rate N) (f:Int)=(rate,(g:Int),0)/\aW (bT b c most rate N) (g:Int)=(N,(m:Int),0):=by
 have d:bT b c most rate N=cM++(aH most++(aH rate++(aH N++((bL (cF b)++bL (jK c rate N))++iG (dQ (eR b c most rate N)))))):=by
  unfold bT
  conv=>lhs;rw [gC]
  simp only [zCk];rw [<-gC]
 have e:cM.length=4:=rfl;refine ⟨4+(aH most).length,4+(aH most).length+(aH rate).length,_,iE d e rfl j,iE (a:=cM++aH most) (r:=aH N++((bL (cF b)++bL (jK c rate N))++iG (dQ (eR b c most rate N)))) (by rw [d];simp only [zCk]) (by rw [zAi,e]) rfl k,iE (a:=cM++(aH most++aH rate)) (r:=(bL (cF b)++bL (jK c rate N))++iG (dQ (eR b c most rate N))) (by rw [d];simp only [zCk]) (by rw [zAi,zAi,e];omega) rfl l⟩
def aAR (a d:List Nat) (b c N:Nat):∃e,(bT a d b c N).length=e+4/\4<=e/\ofB (bT a d b c N) (e:Int)=(dQ ((bT a d b c N).take e),0):=by
 refine ⟨(eR a d b c N).length,by unfold bT;rw [zAi,gA],?_,?_⟩;have g:cM.length=4:=rfl;rw [gC,zAi,g];omega;have f:=yE (eR a d b c N) [] (dQ (eR a d b c N)) (rL _);rw [List.append_nil] at f;unfold bT;rw [f,List.take_left'];rfl
def aCp (S c a:Nat):bU (a+1) (S ^^^(c % 2 ^(a+1)))=bI (bU a (S ^^^(c % 2 ^ a))^^^(c / 2 ^ a % 2)):=by
 have e:c % 2 ^(a+1)=(c % 2 ^ a)^^^(2 ^ a*(c / 2 ^ a % 2)):=by
  apply Nat.eq_of_testBit_eq;intro b;rw [Nat.testBit_xor,Nat.testBit_mod_two_pow,Nat.testBit_mod_two_pow,Nat.testBit_two_pow_mul];rcases Nat.lt_trichotomy b a with d | d | d
  · rw [zBy (show b < a+1 by omega),zBy d,zBx (show ¬b>=a by omega)];simp
  · subst d;rw [zBy (show b < b+1 by omega),zBx (show ¬b < b by omega),zBy (show b>=b by omega),Nat.sub_self,Nat.testBit_zero];simp [Nat.testBit_eq_decide_div_mod_eq]
  · rw [zBx (show ¬b < a+1 by omega),zBx (show ¬b < a by omega),zBy (show b>=a by omega)]
    have:(c / 2 ^ a % 2).testBit (b - a)=false:=Nat.testBit_lt_two_pow (zAl (Nat.mod_lt _ oM) (by
        have:=zBo (show 0 < 2 by omega) (show 1<=b - a by omega);simpa using this))
    rw [this];simp
 rw [e,<-Nat.xor_assoc,zCo a 1,mC,mB,oJ];rfl
def tN (a:Nat) (j:Bool) (g:a < 4294967296) (w:World):
 Calls prog 142 #[.int .u32 (a:Int),.bool j] w fun q s=>q=.returned (.int .u32 ((bI (a ^^^(if j then 1 else 0)):Nat):Int))/\w=s:=by
 have e:∀c:Nat,c < 4294967296->(if c % 2=1 then bits .xor .u32 ((c:Int)/ 2) 3988292384 else (c:Int)/ 2)=((bI c:Nat):Int):=fun c f=>by
  have o:((c:Int)/ 2)=((c / 2:Nat):Int):=oM;have r:(3988292384:Int)=((3988292384:Nat):Int):=rfl;unfold bI;by_cases d:c % 2=1
  · rw [zBw d,zBw d,o,r,dR _ _ oM oM]
  · rw [zBv d,zBv d,o]
 have f:a ^^^ 1 < 4294967296:=Nat.xor_lt_two_pow (n:=32) g oM;have k:bits .xor .u32 (a:Int) 1=((a ^^^ 1:Nat):Int):=dR a 1 g oM;cases j
 · have m:=gR a g;have b:=e a g;rw [show (if false=true then 1 else 0)=0 from rfl,Nat.xor_zero];by_cases d:a % 2=1
   · have l:(((a % 2:Nat):Int)==1)=true:=zCn.2 oM;rw [zBw d] at b;rw [<-b];clear b e k f;go_enter func142,ntmps142;go_wp2_with fail;go_ret;exact ⟨rfl,rfl⟩
   · have l:(((a % 2:Nat):Int)==1)=false:=beq_false_of_ne oM;rw [zBv d] at b;rw [<-b];clear b e k f;go_enter func142,ntmps142;go_wp2_with fail;go_ret;exact ⟨rfl,rfl⟩
 · have m:=gR (a ^^^ 1) f;have b:=e (a ^^^ 1) f;rw [show (if true=true then 1 else 0)=1 from rfl];obtain ⟨c,p⟩:=eqx (a ^^^ 1);rw [p] at k m b f⊢;clear p;by_cases d:c % 2=1
   · have l:(((c % 2:Nat):Int)==1)=true:=zCn.2 oM;rw [zBw d] at b;rw [<-b];clear b e;go_enter func142,ntmps142;go_wp2_with fail;go_ret;exact ⟨rfl,rfl⟩
   · have l:(((c % 2:Nat):Int)==1)=false:=beq_false_of_ne oM;rw [zBv d] at b;rw [<-b];clear b e;go_enter func142,ntmps142;go_wp2_with fail;go_ret;exact ⟨rfl,rfl⟩
def aCk (a:List UInt8) (b:Nat) (c:UInt8) (e:a[b]?=some c) (f:b < (⟨a.toArray⟩:ByteArray).size):(⟨a.toArray⟩:ByteArray)[b]=c:=by
 obtain ⟨g,d⟩:=zAc.1 e;exact d
def aCj (a b:Nat):(if (a / 2 ^ b % 2==1)=true then 1 else 0)=a / 2 ^ b % 2:=by
 have:=Nat.mod_lt (a / 2 ^ b) (show 0 < 2 by omega);by_cases c:a / 2 ^ b % 2=1;rw [c];rfl;have d:a / 2 ^ b % 2=0:=oM;rw [d];rfl
def uM (a:Nat) (d:a < 256):bits .and .u8 (a:Int) 1=((a % 2:Nat):Int):=by
 have b:(BitVec.ofInt 8 (a:Int)).toNat=a:=by rw [BitVec.ofInt_natCast,BitVec.toNat_ofNat];exact zBt oM
 show IntKind.u8.wrap ((BitVec.ofInt 8 (a:Int)&&& BitVec.ofInt 8 (1:Int)).toNat:Int)=_;rw [BitVec.toNat_and,b];have c:(BitVec.ofInt 8 (1:Int)).toNat=1:=dC;rw [c,IntKind.wrap_u8,Nat.and_one_is_mod];omega
def tO (c:List UInt8) (e:Nat) (q:c.length=e) (U:e<=1000000) (w:World):
 Calls prog 60 #[.int .u32 0,.string ⟨c.toArray⟩] w fun t z=>t=.returned (.int .u32 ((dQ c:Nat):Int))/\w=z:=by
 have Z:(⟨c.toArray⟩:ByteArray).size=e:=by rw [<-q];rfl
 have Hn:=lhd q;have O:∀S,fR c 4294967295=S->dQ c=4294967295 - S:=fun S f=>by rw [<-f];rfl
 clear q;go_enter func60,ntmps60;go_wp2_with fail;go_loopw [0,5] (fun s i wr=>∃d,d<=e/\s=.int .u32 ((fR (c.take d) 4294967295:Nat):Int)/\i=.int .i64 (d:Int)/\w=wr) (fun _ i _=>e -(intOf i).toNat)
 case atStart=>exact ⟨0,zAp _,rfl,rfl,rfl⟩
 case round=>
  obtain ⟨d,W,rfl,rfl,rfl⟩:=hrel;have l:fR (c.take d) 4294967295 < 4294967296:=iJ _ _ oM;obtain ⟨S,j⟩:=eqx (fR (c.take d) 4294967295);rw [j] at l⊢;by_cases Q:d < e
  · obtain ⟨a,o⟩:∃a,c[d]?=some a:=⟨_,zAa (by rw [Hn.out];exact Q)⟩;have g:fR (c.take (d+1)) 4294967295=bU 8 (S ^^^ a.toNat):=(by rw [zAv,o];show fR (c.take d++ [a]) 4294967295=_;rw [kA,aBG,j]);obtain ⟨D,A⟩:=hqq2 g o;clear g o j;go_wp2_with fail;go_loopw [0,6] (fun s i wr=>∃b,b<=8/\s=.int .u32 ((bU b (S ^^^(a.toNat % 2 ^ b)):Nat):Int)/\i=.int .i64 (b:Int)/\w=wr) (fun _ i _=>8 -(intOf i).toNat)
    case atStart=>exact ⟨0,by omega,by simp [bU,Nat.mod_one],rfl,rfl⟩
    case round=>
        obtain ⟨b,X,rfl,rfl,rfl⟩:=hrel;by_cases Y:b < 8
        · have y:bU b (S ^^^(a.toNat % 2 ^ b)) < 4294967296:=lC (Nat.xor_lt_two_pow (n:=32) l (by have:=a.toNat_lt;have:=Nat.mod_le a.toNat (2 ^ b);omega)) b;have g:=aCp S a.toNat b;obtain ⟨E,u⟩:=eqx (bU b (S ^^^(a.toNat % 2 ^ b)));rw [u] at y g⊢;have M:=Nat.div_le_self a.toNat (2 ^ b);have L:=a.toNat_lt;have x:=uM (a.toNat / 2 ^ b) oM;have p:=aCj a.toNat b;obtain ⟨k,m⟩:∃k,(a.toNat / 2 ^ b % 2==1)=k:=⟨_,rfl⟩;rw [m] at p;rw [<-p] at g;have r:=tN E k y w;rw [<-g] at r;have K:(bits .and .u8 ((a.toNat:Int)/ 2 ^ b) 1==1)=k:=(by have G:((a.toNat:Int)/ 2 ^ b)=((a.toNat / 2 ^ b:Nat):Int):=(by push_cast;rfl);rw [G,x,<-m];by_cases f:a.toNat / 2 ^ b % 2=1;rw [f];rfl;have H:a.toNat / 2 ^ b % 2=0:=oM;rw [H];rfl);have V:∀f,(⟨c.toArray⟩:ByteArray)[d]'f=a:=fun f=>by have I:=aCk c d a A.out f;exact I
          clear x p m g u M L;go_wp2_with fail;refine r.mono ?_;rintro t z ⟨rfl,rfl⟩;clear K r;go_wp2_with fail;go_roundw
          case rel=>exact ⟨b+1,by omega,by first | rfl | trivial,by go_num,by first | rfl | trivial⟩
          case measure=>simp [intOf];omega
        · obtain rfl:b=8:=oM;have J:a.toNat % 2 ^ 8=a.toNat:=zBt a.toNat_lt;rw [J,<-D.out];go_wp2_with fail;go_roundw
          case rel=>exact ⟨d+1,by omega,by first | rfl | trivial,by go_num,by first | rfl | trivial⟩
          case measure=>simp [intOf];omega
  · obtain rfl:e=d:=oM;have T:=aAC S l;have v:dQ c=4294967295 - S:=(by rw [zAg (Nat.le_of_eq Hn.out)] at j;exact O S j);have B:=lhd v;clear v j;go_wp2_with fail;go_ret;refine ⟨?_,rfl⟩;rw [B.out,<-T];rfl
end
end Go.Proofs.YtnmapianpjamnaaGreatDoor
