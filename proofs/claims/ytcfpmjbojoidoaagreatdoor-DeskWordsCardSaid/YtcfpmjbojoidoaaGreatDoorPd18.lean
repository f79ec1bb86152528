/- Lemmas of the walk. Conditions: each its own. -/
import Derived.Test.YtcfpmjbojoidoaaGreatDoorPd15
import Derived.Test.YtcfpmjbojoidoaaGreatDoorPd17
import Derived.Test.YtcfpmjbojoidoaaGreatDoorProg
import Derived.Test.YtcfpmjbojoidoaaGreatDoorShl
import Derived.Test.YtcfpmjbojoidoaaGreatDoorShi
set_option linter.all false
set_option maxRecDepth 100000
set_option maxHeartbeats 4000000
open Go.Proofs.Tryz
namespace Go.Proofs.YtcfpmjbojoidoaaGreatDoor
section
open Go.RowKit Go.Shelf
open Go.Sort (Holds)
def xW (n t:Nat) (r:Option Addr) (D s:Nat) (a:List (Nat×Nat)) (f g:Nat) (b:World) (e:PRd b n t r D s a) (y:f < a.length) (z:g < a.length):
 Calls prog 214 #[(f:Int),(g:Int),n] b fun i k=>i=.returned (.int .i64 (Lib.compareInt ((aB a f:Nat):Int) ((aB a g:Nat):Int)))/\∃c,k=b.drewN c:=by
 obtain ⟨J,G,L,rfl,u,v⟩:=e.at y;obtain ⟨K,b1,M,d,w,x⟩:=e.at z;injection d with d;injection d with d e2;subst d e2;have H:=e.box;have I:=e.sl;obtain ⟨l,p⟩:=eqx (aB a f);obtain ⟨m,q⟩:=eqx (aB a g);rw [p] at u⊢;rw [q] at w⊢;obtain ⟨F,j⟩:=eqx (Lib.compareInt (l:Int) (m:Int));have C:∀c:Nat,Calls prog 103 #[(l:Int),(m:Int)] (b.drewN c) fun i k=>i=.returned (.int .i64 F)/\∃E,k=b.drewN E:=fun c=>by have o:=AnyG.cmp_Compare_int shCmp (l:Int) (m:Int) (b.drewN c);rw [j] at o;exact Calls.mono o fun _ _ ⟨A,B⟩=>⟨A,c,B⟩
 rw [j];clear e v x p q j;go_enter func214,ntmps214;go_wp2_with fail;go_quiet ((with_reducible exact C _));go_wp2_with fail;go_ret;exact ⟨rfl,_,rfl⟩
def aIf {b g f d:Nat} (a:mvR b g f=mvR b g d):f=d:=by
 unfold mvR inR aS at a;by_cases e:f=b
 · by_cases c:d=b;omega
   · rw [zBx e,zBw c] at a;split at a <;> split at a <;> omega
 · by_cases c:d=b
   · rw [zBw e,zBx c] at a;split at a <;> split at a <;> omega
   · rw [zBw e,zBw c] at a;split at a <;> split at a <;> split at a <;> split at a <;> omega
def aIZ {b d c a:Nat} (f:b < a) (e:d < a) (g:c < a):mvR b d c < a:=by
 unfold mvR inR aS;split;exact e
 · split <;> split <;> omega
def PermX.drewN {p:World} {b:Nat->Prop} {g f:Nat} {m n o l:Value} {d c:Nat} {j:List Nat} {a:List (Nat×Nat)} {k:List Bool} {e:List Nat} (i:PermX p b g f m n o l d c j a k e) (q:Nat):PermX (p.drewN q) b g f m n o l d c j a k e:=
 { i with at_:=i.at_.below (below_drewN bR _)}
def PermX.sorted {p q:World} {t:Nat->Prop} {y x:Nat} {B g C A:Value} {v u:Nat} {m n:List Nat} {s:List (Nat×Nat)} {z:List Bool} {w:List Nat} (i:PermX p t y x B g C A v u m s z w) (k:n.Perm m) (f:Keep (fun c=>g.ownBlock=some c) p q) (F:q.ownsRow 0 3 1 g m.length (n.map sv)):PermX q t y x B g C A v u n s z w:=by
 have a:=i.at_;have j:∀c o d,Bk p c o d->o≠3->¬(g.ownBlock=some c):=fun c o d b G e=>by obtain ⟨I,D⟩:=eF a.orow e;exact G (aK b D).1
 refine { i with at_:=⟨f.bk a.blk (j _ _ _ a.blk dC),aA a.lrow fun c d _ b=>f.bk b (j _ _ _ b dC),by rw [k.length_eq];exact F,f.bk a.ar (j _ _ _ a.ar dC),aA a.trow fun c d _ b=>f.bk b (j _ _ _ b dC),aA a.frow fun c d b E=>f.bk E fun e=>?_,a.apart,fun r H=>a.lt r (k.subset H),a.lo⟩,nd:=k.nodup_iff.2 i.nd,tkk:=fun r=>(i.tkk r).trans k.mem_iff.symm };rcases a.apart with l | l
 · rw [l] at e;cases e
 exact l (e.trans b.symm)
def aAT (y:Nat->Prop) (t V q R Q:Nat) (a5 N a6 a4:Value) (b:List Nat) (e:List (Nat×Nat)) (a3:List Bool) (U:List Nat) (d:World) (r:PermX d y t V a5 N a6 a4 R Q b e a3 U) (E:Bk d q 67 #[t]) (aj:b≠ []) (af:∀v∈b,∀x∈b,aB e v=aB e x->v=x):
 ∃O p,N=.slice O b.length p/\Calls prog 58 #[.slice O b.length p,.func (.func 214) #[] #[q]] d fun m z=>m=.returned (.tuple #[])/\∃K,K.Perm b/\K.Pairwise (fun g i=>aB e g < aB e i)/\PermX z y t V a5 N a6 a4 R Q K e a3 U/\Keep y d z:=by
 have J:0 < b.length:=List.length_pos_iff.2 aj;have g:=r.at_;obtain ⟨l,p,m,_,I⟩:=World.ownsRow.form g.orow J;refine ⟨_,p,m,?_⟩;have Y:=g.orow;rw [m] at Y;obtain ⟨ar,H,ac,ai,ah,av,aa⟩:=rS Y J;obtain ⟨k0,ag⟩:∃j,j∈b:=List.exists_mem_of_length_pos J;obtain ⟨a,G⟩:∃a,e.length=a+1:=⟨e.length - 1,by have:=g.lt k0 ag;omega⟩;have X:∀j∈b,j < a+1:=fun j n=>by rw [<-G];exact g.lt j n
 have u:(eX a b).size=b.length:=by simp [eX]
 have a8:=oG (c:=a) H X (fR (by simp) oM aa);obtain ⟨P,a2,S,D,ax⟩:=g.prd (E.cell 0) (Below.refl d.heap.size d);have ab:CmpReads prog 214 #[q] (eL a) (cfK a (aB e)) l 0 (eX a b).size d:=fun L o C aw v x=>by
  have j:=iQ (enc:=eL a) (w:=d) I 0 L C o;have F:∀i M A,Bk d i M A->M≠3->¬(i=l):=fun i M A a9 ao s=>by subst s;exact ao (aK a9 H).1
  have al:PRd (sortWorld (eL a) d l 0 L C o) q t P a2 S e:=by refine ⟨((j.bk E (F _ _ _ E dC)).cell 0).trans rfl,((j.bk g.blk (F _ _ _ g.blk dC)).cell 1).trans (by rw [D];rfl),?_⟩;have W:=aA (w':=sortWorld (eL a) d l 0 L C o) g.lrow fun i A _ n=>j.bk n (F _ _ _ n dC);rw [D] at W;have a7:=aP g.lrow;obtain ⟨ap,aq,T,_⟩:=a7;rw [D] at T;injection T with e81 e82 e83;subst e82;exact Rd.of_own W
  exact xW q t P a2 S e v.val x.val _ al (by rw [G];exact v.isLt) (by rw [G];exact x.isLt)
 have a1:=Any.slices_SortFunc shSort (eL a) (kW a) (cfK a (aB e)) (aHV a (aB e)) 214 #[q] l 0 p (eX a b) d (enters_of func214 kR rfl) ab.lays a8 I (by rw [u];have:=gA r.nd g.lt;have:=r.sz;omega);rw [u] at a1;refine a1.mono ?_;rintro au z ⟨rfl,B,nq,o,a0,an,rfl⟩;obtain ⟨Z,am⟩:=aBk (f:=aB e) X (by rw [u];exact a0) (by rw [u];exact an) r.nd af;have ad:B.size=b.length:=by rw [a0.1,u]
 have n:=iQ (enc:=eL a) (w:=d) I 0 nq B o;have ak:=aGr (base:=0) (k:=nq) (os:=o) B ad H (zAp _) ai ah ac;have ae:y l:=r.fo l (by rw [m];rfl);exact ⟨rfl,_,Z,am,r.sorted Z (n.mono fun i _ s=>by rw [m,show i=l from s];rfl) (by rw [m];exact ak),n.mono fun i _ s=>by rw [show i=l from s];exact ae⟩
def cB (n:Nat->Prop) (c d o g i:Nat) (Y:List (Nat×Nat)) (a:World) (aE:PermE a n c d o Y) (aJ:g < d) (aK:i < d) (aV:d<=100000) (aU:o<=100000) (ai:Y≠ []):
 Calls prog 142 #[c,(g:Int),(i:Int)] a fun l an=>l=.returned (.int .i64 0)/\(∃D,D.Perm (Y.map fun k=>(mvR g i k.1,k.2))/\PermE an n c d o D)/\Keep n a an:=by
 obtain ⟨⟨A,w,G,H,F,f,e,E,z,r,rfl⟩,al,a8⟩:=aE;have K:=r.at_;have ah:f≠ []:=fun l=>ai (by rw [l];rfl);have aW:=K.blk.lt;have b0:decide ((g:Int) < 0)=false:=by simp
 have b1:decide ((i:Int) < 0)=false:=by simp
 have b2:¬d<=g:=oM;have b3:¬d<=i:=oM;have b4:¬(g:Int)>=(d:Int):=oM;have b5:¬(i:Int)>=(d:Int):=oM;obtain ⟨w1,v⟩:=eqx (((a.alloc (.cells #[c] 67)).alloc (.cells #[(g:Int)] 3)).alloc (.cells #[(i:Int)] 3));have R:Below a.heap.size a w1:=by rw [<-v];exact ((bR.alloc nL _).alloc (by simp) _).alloc (by simp;omega) _
 have M:Bk w1 a.heap.size 67 #[c]:=by rw [<-v];exact ((Bk.new a _ _).alloc _).alloc _
 have N:Bk w1 (a.heap.size+1) 3 #[(g:Int)]:=by rw [<-v];have:=(Bk.new (a.alloc (.cells #[c] 67)) 3 #[(g:Int)]).alloc (.cells #[(i:Int)] 3);simpa using this
 have O:Bk w1 (a.heap.size+2) 3 #[(i:Int)]:=by rw [<-v];have:=Bk.new ((a.alloc (.cells #[c] 67)).alloc (.cells #[(g:Int)] 3)) 3 #[(i:Int)];simpa using this
 have L:PermX w1 n c A w G H F d o f e E z:= { r with at_:=K.below R };have am:∀m,w.ownBlock=some m->m < a.heap.size:=fun m t=>(K.lrow.lt m t).2;have aM:∀s,(w1.drewN s).cell? a.heap.size=some (.pointer (some c)):=fun s=>(M.cell 0).trans rfl;have aN:∀s,(w1.drewN s).cell? ⟨a.heap.size+1,0,none⟩=some (.int .i64 (g:Int)):=fun s=>(N.cell 0).trans rfl;have aO:∀s,(w1.drewN s).cell? ⟨a.heap.size+2,0,none⟩=some (.int .i64 (i:Int)):=fun s=>(O.cell 0).trans rfl;have aQ:w1.cell? a.heap.size=some (.pointer (some c)):=(M.cell 0).trans rfl;have aR:w1.cell? ⟨a.heap.size+1,0,none⟩=some (.int .i64 (g:Int)):=(N.cell 0).trans rfl;have aS:w1.cell? ⟨a.heap.size+2,0,none⟩=some (.int .i64 (i:Int)):=(O.cell 0).trans rfl;have aP:w1.cell? ⟨c,3,none⟩=some (.int .i64 (d:Int)):=(L.at_.blk.cell 3).trans rfl;have aX:=L.at_.blk.lt;have a5:∀b,b∈f->aB e b < d/\aG e b < o:=fun b p=>a8 (aB e b,aG e b) (zAy.2 ⟨b,p,rfl⟩);have ac:∀k∈f,∀y∈f,aB e k=aB e y->k=y:=fun k aI y P l=>by have ak:=List.pairwise_map.1 al;obtain ⟨B,ab,rfl⟩:=List.getElem_of_mem aI;obtain ⟨C,ad,rfl⟩:=List.getElem_of_mem P;rcases Nat.lt_trichotomy B C with q | q | q;have aF:aB e f[B] < aB e f[C]:=zAr.1 ak B C ab ad q;omega;subst q;rfl;have aF:aB e f[C] < aB e f[B]:=zAr.1 ak C B ad ab q;omega
 obtain ⟨j,Z,ax,aq,ar,au,av,aA,Q⟩:=hqq9 L a5 ac R M N O v am;have az:=lhd ah;clear r K al a8 L a5 ac R M N O v am ah ai;go_enter func142,ntmps142;go_wp2_with fail;rw [aA.out];go_quiet (fail)
 rename_i nq
 have aZ:∀(a4:Fn) (first a2:Array Value) (a:World),(Instr.makeFunc a4 first a2).run prog a=.ok (.func a4 first a2) a:=fun _ _ _ _=>rfl;go_wp2_with fail;have u:=j.out.drewN nq;have aH:=gA u.nd u.at_.lt;refine (tC 0 c A (a.heap.size+1) (a.heap.size+2) g i w G H F d o f e E z _ u.at_ u.nd (by have:=u.sz;omega) (au.out.drewN nq) (fun m t l=>by have:=Q.out m t;omega) (av.out.drewN nq) (fun m t l=>by have:=Q.out m t;omega) (fun b p=>by have:=Z.out b p;omega)).mono ?_;rintro l x ⟨rfl,U,I,V,T,a7⟩;have X:∀b,b∈f->aB I b=mvR g i (aB e b):=fun b p=>(Prod.mk.inj (T b p)).1;have J:PermX x n c A w G H F d o f I E z:=⟨a7,j.out.fp,j.out.fa,j.out.fl,j.out.fo,j.out.ft,j.out.ff,j.out.nd,by rw [V];exact j.out.tkl,j.out.tkk,j.out.frn,j.out.frk,by rw [V];exact j.out.sz⟩;have S:Bk x a.heap.size 67 #[c]:=U.bk (ar.out.drewN nq) fun l=>by have:=Q.out _ l;omega
 have af:Keep n a x:=(Keep.of_below (below_drewN aq.out nq)).trans (U.mono fun m _ t=>j.out.fl m t);obtain ⟨ap,aD,a3,a9⟩:=aAT n c A a.heap.size d o w G H F f I E z x J S az.out (fun k r y P l=>ax.out k r y P (aIf (by rw [<-X k r,<-X y P,l])));have aC:x.cell? ⟨c,2,none⟩=some (.slice ap f.length aD):=(J.at_.blk.cell 2).trans (by rw [a3];rfl);have aT:x.cell? a.heap.size=some (.pointer (some c)):=(S.cell 0).trans rfl;have aY:=J.at_.blk.lt;obtain ⟨ay,a0,aw⟩:=hqq3 af T a9;clear af T a9 J S U V a7 X u aH aQ aR aS aM aN aO aP a3;go_wp2_with fail;refine aw.out.mono ?_;rintro l ao ⟨rfl,aL,W,aj,a6,ae⟩;have aa:(∃D,D.Perm ((f.map fun b=>(aB e b,aG e b)).map fun k=>(mvR g i k.1,k.2))/\PermE ao n c d o D)/\Keep n a ao:=by refine ⟨⟨_,?_,⟨A,w,G,H,F,aL,I,E,z,a6,rfl⟩,List.pairwise_map.2 aj,fun k r=>?_⟩,ay.out.trans ae⟩;refine (W.map _).trans ?_;rw [zCg];refine List.Perm.of_eq (List.map_congr_left fun b p=>?_);exact a0.out b p;obtain ⟨b,p,rfl⟩:=zAy.1 r;have ag:=W.subset p;have q:=Z.out b ag;rw [a0.out b ag];exact ⟨aIZ aJ aK q.1,q.2⟩
 have a1:=lhd aa;clear aa a6 ae W aj aC aT;go_wp2_with fail;go_ret;exact ⟨rfl,a1.out.1,a1.out.2⟩
end
section
open Go.RowKit Go.Shelf
def pU (d:List (Nat×Nat)) (f:Nat):∃a,dS d f a:=by
 have j:∀c,∃a,dS (d.take c) f a:=by
  intro c
  induction c with
  | zero=>exact ⟨-1,.inl ⟨rfl,fun e g=>by simp at g⟩⟩
  | succ c i=>
    obtain ⟨a,b⟩:=i;rw [zAv];cases k:d[c]? with
    | none=>exact ⟨a,by simpa using b⟩
    | some e=>exact ⟨_,uY b e.1 e.2⟩
 obtain ⟨a,b⟩:=j d.length;rw [List.take_length] at b;exact ⟨a,b⟩
def aG9 {g:List (Nat×Nat)} {i:Nat} {k l:Int} (m:dS g i k) (e:dS g i l):k=l:=by
 rcases m with ⟨rfl,b⟩|⟨j,f,rfl,b,n⟩;rcases e with ⟨rfl,_⟩|⟨d,c,rfl,a,_⟩;rfl;have:=b d c;omega;rcases e with ⟨rfl,a⟩|⟨d,c,rfl,a,o⟩;have:=a j f;omega;have:=n d c a;have:=o j f b;omega
def gW (c f e:Nat) (b:List (Nat×Nat)) (d:Nat) (j:Int) (a:World) (k:PermR a c f e b) (m:dS b d j):
 Calls prog 146 #[c,(d:Int)] a fun g i=>g=.returned (.int .i64 j)/\Below a.heap.size a i:=by
 refine (nW c f e b d a k).mono ?_;rintro g i ⟨o,rfl,n,l⟩;exact ⟨by rw [aG9 m n],l⟩
def PermE.len {o:World} {e:Nat->Prop} {g a f:Nat} {b:List (Nat×Nat)} (d:PermE o e g a f b):b.length<=a:=by
 have i:(b.map fun c=>c.1).Nodup:=by rw [List.Nodup,List.pairwise_map];exact d.2.1.imp fun {p q} k=>Nat.ne_of_lt k
 have j:=gA (n:=a) i fun r l=>by obtain ⟨c,m,rfl⟩:=zAy.1 l;exact (d.2.2 c m).1
 simpa using j
def Smp (b:List (Nat×Nat)) (a:Nat):Prop:=∃c∈b,c.2=a
structure FG (S:Nat->Prop) (r N at_:Nat) (q:Int):Prop where
 zero:S 0
 le:∀s,S s->s<=N
 at_q:q=-1∨q=((N+1:Nat):Int)∨∃s:Nat,S s/\q=(s:Int)
 fine:∀s:Nat,S s->((s:Int) < q∨at_<=s)->s+r<=N->∃s',S s'/\s < s'/\s'<=s+r
 gap2:∀s:Nat,S s->s+2*r<=N->∃s',S s'/\s < s'/\s'<=s+2*r
def zM (c:Nat->Prop) (d e:Nat):Prop:=∀a:Nat,c a->a+d<=e->∃b,c b/\a < b/\b<=a+d
structure PreGap (S:Nat->Prop) (r N at_:Nat):Prop where
 le:∀s,S s->s<=N
 fine:∀s:Nat,(S s∨s=0)->(s+r < at_∨at_<=s)->s+r<=N->∃s',S s'/\s < s'/\s'<=s+r
 gap2:∀s:Nat,(S s∨s=0)->s+2*r<=N->∃s',S s'/\s < s'/\s'<=s+2*r
def FG.congr {b c:Nat->Prop} {g d e:Nat} {f:Int} (j:FG b g d e f) (i:∀a,c a↔b a):FG c g d e f:=by
 have:c=b:=funext fun a=>propext (i a);rw [this];exact j
def vG {u i:Nat->Prop} {d t f:Nat} {s:Int} (l:PreGap u d t f) (g:∀q,i q↔u q∨q=0) (y:1<=d) (c:(s=-1/\∀a,i a->a < f - 2*d)∨∃e:Nat,i e/\s=(e:Int)/\f - 2*d<=e/\∀r,i r->f - 2*d<=r->e<=r):FG i d t f s:=by
 refine ⟨(g 0).2 (.inr rfl),fun a b=>?_,?_,fun a b k p=>?_,fun a b p=>?_⟩;rcases (g a).1 b with b | rfl;exact l.le a b;exact zAp _;rcases c with ⟨c,_⟩|⟨e,v,c,_⟩;exact .inl c;exact .inr (.inr ⟨e,v,c⟩)
 · obtain ⟨j,m,n,o⟩:=l.fine a ((g a).1 b) (by
    rcases k with k | k;rcases c with ⟨c,_⟩|⟨e,v,c,z,x⟩;omega;by_cases w:f - 2*d<=a;have:=x a b w;omega;exact .inl oM
    · exact .inr k) p
   exact ⟨j,(g j).2 (.inl m),n,o⟩
 obtain ⟨j,m,n,o⟩:=l.gap2 a ((g a).1 b) p;exact ⟨j,(g j).2 (.inl m),n,o⟩
def aBS {e:Nat->Prop} {c a f:Nat} {b:Int} (g:FG e c a f b) (l:¬b<=min (a:Int) ((f:Int)+(c:Int))):zM e c a:=fun d i k=>by
 refine g.fine d i ?_ k;have:=g.le d i;by_cases j:(d:Int) < b;exact .inl j;right;omega
def aIA (c:Nat->Prop) (e:Nat) (d b:Int):Prop:=d < b/\(∀a:Nat,c a->d < (a:Int)->b<=(a:Int))/\(b=((e+1:Nat):Int)∨∃a:Nat,c a/\b=(a:Int))
def nE {g:Nat->Prop} {k f l:Nat} {b j:Int} (a:FG g k f l b) (o:aIA g f b j) (t:j - b<=(k:Int)):FG g k f l j:=by
 obtain ⟨u,q,e⟩:=o;refine ⟨a.zero,a.le,.inr e,fun c i d m=>?_,a.gap2⟩;rcases d with d | d;by_cases n:(c:Int) < b;exact a.fine c i (.inl n) m;by_cases s:(c:Int)=b;rcases e with e |⟨r,p,e⟩;omega;exact ⟨r,p,by omega,by omega⟩;have:=q c i oM;omega;exact a.fine c i (.inr d) m
def iC {j S':Nat->Prop} {e i x:Nat} {m t:Int} (f:FG j e i x m) (C:aIA j i m t) (K:m<=(i:Int)) (M:1<=e) (L:¬t - m<=(e:Int)):∃o:Nat,m+(e:Int)=(o:Int)/\o<=i/\¬j o/\((∀v,S' v↔v=o∨j v)->FG S' e i x (o:Int)):=by
 obtain ⟨N,r,G⟩:=C;have D:∃d:Nat,j d/\m=(d:Int):=by rcases f.at_q with n | n | n;exfalso;have:=r 0 f.zero oM;omega;omega;exact n
 obtain ⟨d,E,rfl⟩:=D;have J:t<=((i+1:Nat):Int):=by rcases G with n |⟨H,F,n⟩;omega;have:=f.le H F;omega
 refine ⟨d+e,by omega,by omega,fun b=>?_,fun g=>?_⟩;have:=r _ b oM;omega
 · have u:∀ {w y:Nat},(∃a,j a/\w < a/\a<=y)->∃a,S' a/\w < a/\a<=y:=fun ⟨a,B,q⟩=>⟨a,(g a).2 (.inr B),q⟩;have q:d+2*e<=i->∃a,S' a/\d+e < a/\a<=d+2*e:=fun l=>by obtain ⟨a,k,p,s⟩:=f.gap2 d E l;have:=r a k oM;exact ⟨a,(g a).2 (.inr k),by omega,s⟩
   refine ⟨(g 0).2 (.inr f.zero),fun c b=>?_,.inr (.inr ⟨d+e,(g _).2 (.inl rfl),rfl⟩),fun c b I l=>?_,fun c b l=>?_⟩;rcases (g c).1 b with rfl | b;omega;exact f.le c b;rcases (g c).1 b with rfl | b;obtain ⟨a,k,p,s⟩:=q oM;exact ⟨a,k,p,by omega⟩;by_cases z:c=d;subst z;exact ⟨c+e,(g _).2 (.inl rfl),by omega,zAs _⟩;by_cases A:(c:Int) < (d:Int);exact u (f.fine c b (.inl A) l);have:=r c b oM;exact u (f.fine c b (.inr oM) l);rcases (g c).1 b with rfl | b;obtain ⟨a,k,p,s⟩:=q oM;exact ⟨a,k,p,by omega⟩;exact u (f.gap2 c b l)
structure TxM (w:World) (B:Nat) (own:Nat->Nat) (gl gk gp rate:Nat) (mv:Int) (S T:List Nat) (N:Nat) (rs:List Nat) (pr:List (Nat×Nat)):Prop where
 suf:IsSuf S rs
 live:LiveM w B own gl gk gp rate mv (N+1) (N+1) (aF S rs) T pr
 tal:T.Perm (aF S rs)
 right:∀x∈pr,rs[x.1]?=some x.2
def TxM.vis {m w':World} {b:Nat} {own:Nat->Nat} {f gk g k:Nat} {i:Int} {d e:List Nat} {c:Nat} {l:List Nat} {j:List (Nat×Nat)} (a:TxM m b own f gk g k i d e c l j) (n:Vis m w'):TxM w' b own f gk g k i d e c l j:=⟨a.suf,a.live.vis n,a.tal,a.right⟩
def lO (r:World) (b:Nat) (own:Nat->Nat) (k gk l p:Nat) (m:Int) (g i:List Nat) (f:Nat) (q:List Nat) (o:List (Nat×Nat)) (n:Nat) (j:Ending) (e:World):Prop:=
 j=.returned (.tuple #[])/\∃c d,TxM e b c k gk l p m g i f q d/\(∀a,Smp d a↔a=n∨Smp o a)/\LF b r e own c
def mN (r:World) (l:Nat) (own:Nat->Nat) (b gk s J:Nat) (X:Int) (u:List UInt8) (L:List Nat) (q:Nat) (B:List Nat) (t:List (Nat×Nat)) (a:Nat) (m:TxM r l own b gk s J X (aI u) L q B t) (x:u.length=q) (R:q<=127) (aa:a<=q) (H:∀d∈t,d.2≠a):
 Calls prog 211 #[b,(a:Int)] r (lO r l own b gk s J X (aI u) L q B t a):=by
 subst x;obtain ⟨o,U,W⟩:=m.suf.row (p:=a) (by rw [aO];omega);have A:B[o]?=some a:=by rw [zAa U,W]
 have ab:o < u.length+1:=by have:=m.suf.len;rw [aO] at this;omega
 have V:∀k,VB l r k->Calls prog 79 #[b,(a:Int)] k fun v af=>v=.returned (.int .i64 (o:Int))/\VB l k af:=fun k ac=>by have z:=m.vis ac.1;exact eZ l b gk s J u B t o a k (z.live.g z.tal) z.right z.suf R A
 have S:∀d∈t,d.1≠o:=fun d c v=>by have:=m.right d c;rw [v,A] at this;injection this with this;exact H d c this.symm
 have Q:t.length<=900:=by have:=m.live.perm.len;omega
 obtain ⟨D,E,a4,a3,a2,a1,a5⟩:=hqq7 m.live m V S H Q A;obtain ⟨q,x⟩:=eqx u.length;rw [x] at R aa ab;have K:=lhd x;clear m V S H Q W A U x;rw [K.out] at D;unfold lO;go_enter func211,ntmps211;go_wp2_with fail;refine wp_region_any kR ?_;refine bN l 8 [4,5,6,7,8,9,10,11] (fun _=>False) 100 [] (fun _=>True) (dF) [is b,is b,is (.pointer (some ⟨b,1,none⟩)),is s,is b,is (a:Int),is (o:Int),is (a:Int)] _ _ rfl dC kR kR kR (trivial) (fun _ _ _ _ _=>trivial) (fun _ _ _ m _=>m) tA0 ?_ ?_
 · refine bO ?_;refine pH3 0 (.pointer (some b)) ?_;refine pV3 0 4 ?_;refine pV3 1 5 ?_;refine sC3 (fun _ k j _ _ _ _ n _ _ _ w=>?_) ?_
   · replace j:VFB l (fun _=>False) r k:=fD j;have ai:_=_:=n 2 6 kR rfl;have ah:k.cell? ⟨b,1,none⟩=some (.pointer (some s)):=((D.out.vis (VFB.to_vb j fun _ _ e=>e).1).blk.cell 1).trans rfl;go_simp;exact w _ _ (aE vR) rfl
   refine pH3 0 (.pointer (some b)) ?_;refine pH3 1 (.int .i64 (a:Int)) ?_;refine sC3 (fun _ k j _ _ _ _ n _ _ _ w=>?_) ?_
   · replace j:VFB l (fun _=>False) r k:=fD j;have aj:_=_:=n 4 8 kR rfl;have ak:_=_:=n 5 9 kR rfl;go_simp;refine (a4.out k (VFB.to_vb j fun _ _ e=>e)).mono ?_;rintro v ag ⟨rfl,ad⟩;exact w _ _ (aE ad) rfl
   refine pH3 1 (.int .i64 (a:Int)) ?_;exact aH
 · intro F C e j n al;replace j:VFB l (fun _=>False) r C:=fD j;have a9:F (.tmp 7)=.pointer (some s):=n 3 7 dC rfl;have a7:F (.tmp 10)=.int .i64 (o:Int):=n 6 10 dC rfl;have a8:F (.tmp 11)=.int .i64 (a:Int):=n 7 11 dC rfl;simp only [zqq];rw [a9];rw [a7];rw [a8];clear n;change wpAny prog Region.Mode.any _ _ (1+e) (bY 8 9) _ C;rw [zCs 1 e];refine bS (f:=e) (i:=8) kR ?_;refine cG rfl rfl ?_;generalize w:wpAny prog _ _ _ e _=K5;go_simp;have I:VB l r C:=VFB.to_vb j fun _ _ e=>e;have G:=D.out.vis I.1;refine (aA1 (fun a6=>own a6=1) s (q+1) (q+1) o a t C G.perm oM oM a3.out a2.out a1.out).mono ?_;rintro v ag ⟨rfl,⟨ae,T,M⟩,O⟩;obtain ⟨P,N⟩:=G.permOp M O;have a0:=lhd P;have Z:=lhd ((LF.of_vb (own:=own) I).trans N);have y:=lhd T;clear P N T M O G I;subst w;refine cD kR ?_;go_wp2_with fail;go_end0;refine ⟨rfl,_,ae,⟨E.out.suf,by rw [K.out];exact a0.out,E.out.tal,fun d c=>?_⟩,fun Y=>?_,Z.out⟩;rcases List.mem_cons.1 (y.out.subset c) with rfl | c;exact a5.out;exact E.out.right d c;unfold Smp;constructor;rintro ⟨d,c,rfl⟩;rcases List.mem_cons.1 (y.out.subset c) with rfl | c;exact .inl rfl;exact .inr ⟨d,c,rfl⟩;rintro (rfl |⟨d,c,rfl⟩);exact ⟨(o,Y),y.out.symm.subset (by simp),rfl⟩;exact ⟨d,y.out.symm.subset (by simp [c]),rfl⟩
def rA (o:World) (b:Nat) (own:Nat->Nat) (k gk l e:Nat) (m:Int) (g i:List Nat) (c:Nat) (n:List Nat) (j:Ending) (f:World):Prop:=
 j=.returned (.tuple #[])/\∃d a,TxM f b d k gk l e m g i c n a/\Smp a 0/\zM (Smp a) e c/\LF b o f own d
def rT {d:List (Nat×Nat)} {c:Nat} {j:Int} (l:dS d c j):(j=-1/\∀i,Smp d i->i < c)∨∃a:Nat,Smp d a/\j=(a:Int)/\c<=a/\∀b,Smp d b->c<=b->a<=b:=by
 rcases l with ⟨f,g⟩|⟨a,o,f,g,m⟩;exact .inl ⟨f,fun i ⟨b,p,e⟩=>by rw [<-e];exact g b p⟩;exact .inr ⟨a.2,⟨a,o,rfl⟩,f,g,fun b ⟨q,n,e⟩ k=>by rw [<-e] at k⊢;exact m q n k⟩
def sN {e:List (Nat×Nat)} {N j:Nat} {a b:Int} (k:dS e j b) (p:a+1=(j:Int)) (q:a<=(N:Int)):(b < 0->aIA (Smp e) N a ((N+1:Nat):Int))/\(¬b < 0->aIA (Smp e) N a b):=by
 rcases rT k with ⟨g,i⟩|⟨o,n,g,i,l⟩;refine ⟨fun _=>⟨by omega,fun f d m=>?_,.inl rfl⟩,fun c=>absurd oM c⟩;have:=i f d;omega;refine ⟨fun c=>absurd c oM,fun _=>⟨by omega,fun f d m=>?_,.inr ⟨o,n,g⟩⟩⟩;have:=l f d oM;omega
structure FillI (w0 wr:World) (B:Nat) (jU own:Nat->Nat) (gl gk gp rate:Nat) (mv:Int) (S T:List Nat) (N at_:Nat) (rs:List Nat) (pr:List (Nat×Nat)) (q:Int):Prop where
 tx:TxM wr B own gl gk gp rate mv S T N rs pr
 fg:FG (Smp pr) rate N at_ q
 lf:LF B w0 wr jU own
def TxM.lenc {e:World} {f:Nat} {own:Nat->Nat} {c gk o w:Nat} {u:Int} {d:List UInt8} {n:List Nat} {a:Nat} {l:List Nat} {v:List (Nat×Nat)} (j:TxM e f own c gk o w u (aI d) n a l v) (r:d.length=a) (x:a<=127):∀b:Nat,Calls prog 35 #[c] (e.drewN b) fun i m=>i=.returned (.int .i64 (a:Int))/\∃t,m=e.drewN t:=fun b=>by
 have k:=j.vis (Vis.of_below (below_drewN bR b));have s:(aF (aI d) l).length=a+1:=by rw [bH,j.suf.len,aO,r]
 exact (bL f c _ a _ (k.live.g k.tal).lvw s oM).mono fun i m ⟨p,q⟩=>⟨p,b,q.symm⟩
def FG.ge {e:Nat->Prop} {i b f:Nat} {a:Int} (d:FG e i b f a):-1<=a/\a<=((b+1:Nat):Int):=by
 rcases d.at_q with c | c |⟨j,g,c⟩;omega;omega;have:=d.le j g;omega
def aCC (a8:World) (m:Nat) (own:Nat->Nat) (e gk p a:Nat) (a6:Int) (Y:List UInt8) (a0:List Nat) (c l:Nat) (a7:List Nat) (T:List (Nat×Nat)) (ag:TxM a8 m own e gk p a a6 (aI Y) a0 c a7 T) (bl:Y.length=c) (a3:c<=127) (bJ:l<=c) (X:1<=a) (bL:a<=64) (bm:PreGap (Smp T) a c l):
 Calls prog 139 #[e,(l:Int)] a8 (rA a8 m own e gk p a a6 (aI Y) a0 c a7):=by
 have bj:a8.cell? ⟨e,1,none⟩=some (.pointer (some p)):=(ag.live.blk.cell 1).trans rfl;have bG:IntKind.i64.wrap (2*(a:Int))=((2*a:Nat):Int):=by rw [IntKind.wrap_i64];omega
 have bH:IntKind.i64.wrap ((l:Int) -((2*a:Nat):Int))=(l:Int) -((2*a:Nat):Int):=by rw [IntKind.wrap_i64];omega
 have bI:IntKind.i64.wrap ((l:Int)+(a:Int))=(l:Int)+(a:Int):=by rw [IntKind.wrap_i64];omega
 have bk:wrap64 ((c:Int)+1)=((c+1:Nat):Int):=by rw [dH oM oM];rfl
 obtain ⟨ay,Z,aZ⟩:=hqq3 ag bl bm;clear ag bl bm;unfold rA;go_enter func139,ntmps139;by_cases az:∃s∈T,s.2=0
 · have aA:=qS p (c+1) (c+1) T 0 a8 ay.out.live.permR az;unfold wP at aA;have aF:∀f,Smp T f↔Smp T f∨f=0:=fun f=>⟨.inl,fun ag=>by
    rcases ag with ag | rfl;exact ag
    · exact az⟩
   have aD:=lhd aF;clear aF az;go_wp2_with fail;refine aA.mono ?_;clear aA;rintro i a1 ⟨bE,bC,rfl,ah⟩;have bK:decide ((bE:Int) < 0)=false:=(by simp);have F:=lhd (ay.out.vis (Vis.of_below ah));have aB:=lhd (LF.of_vb (B:=m) (own:=own) (VisK.of_below ah));clear ah bC bj ay;go_wp2_with fail;obtain ⟨V,ap⟩:=pU T (l - 2*a);refine wp_region_any kR ?_;refine aX [14,15,16,17,18,19,20,21,22,23,24,25,26,4] (Grow) (Vs [is e,is e,is (.pointer (some ⟨e,1,none⟩)),is p,is (l:Int),is e,is e,is (.pointer (some ⟨e,2,none⟩)),is (a:Int),is (.int .i64 ((2*a:Nat):Int)),is (.int .i64 ((l:Int) -((2*a:Nat):Int))),is (.int .i64 ((l - 2*a:Nat):Int)),is (.int .i64 V),is (.int .i64 V)]) _ _ rfl kR bR (fun _ _=>Grow.trans) (cM tA0) ?_ ?_
   · refine aR ?_;refine pH 0 (.pointer (some e)) ?_;refine pV 0 14 ?_;refine pV 1 15 ?_;refine pL 2 16 (fun u g=>have g:(Grow) a1 u:=gD g;(((F.out.vis (Vis.of_below g)).live.blk.cell 1).trans rfl:u.cell? ⟨e,1,none⟩=some (.pointer (some p)))) ?_;refine pH 1 (.int .i64 (l:Int)) ?_;refine pH 0 (.pointer (some e)) ?_;refine pV 5 19 ?_;refine pV 6 20 ?_;refine pL 7 21 (fun u g=>have g:(Grow) a1 u:=gD g;(((F.out.vis (Vis.of_below g)).live.blk.cell 2).trans rfl:u.cell? ⟨e,2,none⟩=some (.int .i64 (a:Int)))) ?_;refine pV 8 22 ?_;refine sC (fun _ _ _ _ _ _ q _ _ _ I=>?_) ?_
     · have bu:_=_:=q 4 18 kR rfl;have bv:_=_:=q 9 23 kR rfl;go_simp;exact I _ _ bR (dT (by rw [IntKind.wrap_i64];push_cast;omega))
     refine sC (fun _ _ _ _ _ _ q _ _ _ I=>?_) ?_
     · have bw:_=_:=q 10 24 kR rfl;go_simp;exact I _ _ bR (dT oM)
     refine sC (fun _ u g _ _ _ q _ _ _ I=>?_) ?_
     · have bt:_=_:=q 3 17 kR rfl;have bx:_=_:=q 11 25 kR rfl;replace g:(Grow) a1 u:=gD g;go_simp;refine (gW p (c+1) (c+1) T (l - 2*a) V u (F.out.vis (Vis.of_below g)).live.permR ap).mono ?_;rintro i bF ⟨rfl,b8⟩;exact I _ _ b8 rfl
     refine pV 12 26 ?_;exact aH
   · intro b7 bh g q;replace g:(Grow) a1 bh:=gD g;have b6:b7 (.tmp 4)=.int .i64 V:=q 13 4 rfl;simp only [zqq];rw [b6];clear q;have aS:=F.out.vis (Vis.of_below g);have aL:=aB.out.trans (LF.of_vb (B:=m) (own:=own) (VisK.of_below g));have aM:=vG aZ.out aD.out X (rT ap);have aC:=lhd (FillI.mk aS aM aL);clear aS aL aM ap g F aB aD aZ;go_wp2_with fail;go_loopw [4] (fun s wr=>∃(b:Int) (r:Nat->Nat) (o:List (Nat×Nat)),s=.int .i64 b/\FillI a8 wr m own r e gk p a a6 (aI Y) a0 c l a7 o b) (fun s _=>((c:Int)+2 - intOf s).toNat)
     case atStart=>exact ⟨V,_,_,rfl,aC.out⟩
     case round=>
        clear aC;obtain ⟨b,r,o,rfl,w⟩:=hrel;obtain ⟨bA,bB⟩:=w.fg.ge;have a5:=w.tx.lenc Z.out a3;have aE:wr.cell? ⟨e,1,none⟩=some (.pointer (some p)):=(w.tx.live.blk.cell 1).trans rfl;have a2:wr.cell? ⟨e,2,none⟩=some (.int .i64 (a:Int)):=(w.tx.live.blk.cell 2).trans rfl;have aN:=w.tx.live.blk.lt;obtain ⟨au,ba⟩:=eqx (min (c:Int) ((l:Int)+(a:Int)));obtain ⟨j,b1⟩:=hqq2 w ba;clear w;by_cases am:b<=au
        · have be:decide (b<=au)=true:=zBz am;obtain ⟨U,an⟩:∃U:Nat,b+1=(U:Int):=⟨(b+1).toNat,by omega⟩;have P:b<=(c:Int):=oM;obtain ⟨W,aq⟩:=pU o U;obtain ⟨aW,aY⟩:=sN (N:=c) aq an P;have bs:wrap64 (b+1)=(U:Int):=(by rw [dH oM oM];exact an);obtain ⟨b3,ad,ae,bq⟩:=hqq4 aq aW aY an;clear aq aW aY;go_wp2_with fail;go_quiet ((with_reducible exact a5 _))
          rename_i nq
          have aT:=j.out.tx.vis (Vis.of_below (below_drewN bR nq));have aP:=gW p (c+1) (c+1) o U W (wr.drewN nq) aT.live.permR b3.out;clear aT;go_wp2_with fail;refine aP.mono ?_;clear aP;rintro i w1 ⟨rfl,aG⟩;have y:VB m wr w1:=VisK.of_below ((below_drewN bR nq).trans aG);have C:=j.out.tx.vis y.1;have A:=j.out.lf.trans (LF.of_vb (own:=r) y);obtain ⟨D,G⟩:=hqq2 C A;clear y C A aG a5 aE a2 aN;by_cases aU:W < 0
          · have aV:decide (W < 0)=true:=zBz aU;have k:=lhd (ad.out oM);have aO:=D.out.lenc Z.out a3 0;clear ad ae;go_wp2_with fail;refine aO.mono ?_;clear aO;rintro i E ⟨rfl,ar,rfl⟩;have aQ:=D.out.vis (Vis.of_below (below_drewN bR ar));have aK:=G.out.trans (LF.of_vb (B:=m) (own:=r) (VisK.of_below (below_drewN bR ar)));obtain ⟨n,v⟩:=hqq2 aQ aK;clear aQ aK;generalize w1.drewN ar=E at n v⊢;obtain ⟨d,a4⟩:∃d:Int,((c+1:Nat):Int)=d:=⟨_,rfl⟩;rw [a4] at k;have bz:wrap64 ((c:Int)+1)=d:=(by rw [bk];exact a4);have bc:=k.out.1;have bb:d<=((c+1:Nat):Int):=(by rcases k.out.2.2 with i |⟨ax,ao,i⟩;omega;have:=j.out.fg.le ax ao;omega);have b4:IntKind.i64.wrap (d - b)=d - b:=(by rw [IntKind.wrap_i64];omega);have a2:E.cell? ⟨e,2,none⟩=some (.int .i64 (a:Int)):=(n.out.live.blk.cell 2).trans rfl;have b9:=n.out.live.blk.lt;by_cases K:d - b<=(a:Int)
            · have ai:decide (d - b > (a:Int))=false:=zBy oM;have aj:¬(a:Int) < d - b:=oM;have L:=nE j.out.fg k.out K;have aa:=lhd L;clear L;go_wp2_with fail;go_roundw
              case rel=>exact ⟨d,r,o,by first | rfl |(congr 1 <;> omega),n.out,aa.out,v.out⟩
              case measure=>simp [intOf];omega
            · have ai:decide (d - b > (a:Int))=true:=zBz oM;have aj:(a:Int) < d - b:=oM;obtain ⟨f,O,al,x,_⟩:=iC (S':=Smp o) j.out.fg k.out P X K;have b5:IntKind.i64.wrap (b+(a:Int))=(f:Int):=(by rw [IntKind.wrap_i64];omega);have t:=mN E m r e gk p a a6 Y a0 c a7 o f n.out Z.out a3 al (fun s R i=>x ⟨s,R,i⟩);unfold lO at t;obtain ⟨H,b2⟩:=hqq2 O x;clear O x;go_wp2_with fail;refine t.mono ?_;clear t;rintro i bg ⟨rfl,av,z,S,Q,J⟩;have M:FG (Smp z) a c l (f:Int):=(by obtain ⟨aw,bd,_,_,ak⟩:=iC (S':=Smp z) j.out.fg k.out P X oM;have:aw=f:=(by have:=H.out;omega);subst this;exact ak Q);obtain ⟨ab,af,a9⟩:=hqq3 M S (v.out.trans J);have ac:=lhd (show b < (f:Int) by have:=H.out;omega);clear M S Q J;go_wp2_with fail;go_roundw
              case rel=>exact ⟨(f:Int),av,z,rfl,af.out,ab.out,a9.out⟩
              case measure=>simp [intOf];have:=ac.out;omega
          · have aV:decide (W < 0)=false:=zBy aU;have k:=lhd (ae.out oM);clear ad ae;obtain ⟨d,a4⟩:∃d:Int,W=d:=⟨_,rfl⟩;rw [a4] at k aV⊢;have n:=D;have v:=G;clear D G;generalize w1=E at n v⊢;have bc:=k.out.1;have bb:d<=((c+1:Nat):Int):=(by rcases k.out.2.2 with i |⟨ax,ao,i⟩;omega;have:=j.out.fg.le ax ao;omega);have b4:IntKind.i64.wrap (d - b)=d - b:=(by rw [IntKind.wrap_i64];omega);have a2:E.cell? ⟨e,2,none⟩=some (.int .i64 (a:Int)):=(n.out.live.blk.cell 2).trans rfl;have b9:=n.out.live.blk.lt;by_cases K:d - b<=(a:Int)
            · have ai:decide (d - b > (a:Int))=false:=zBy oM;have aj:¬(a:Int) < d - b:=oM;have L:=nE j.out.fg k.out K;have aa:=lhd L;clear L;go_wp2_with fail;go_roundw
              case rel=>exact ⟨d,r,o,by first | rfl |(congr 1 <;> omega),n.out,aa.out,v.out⟩
              case measure=>simp [intOf];omega
            · have ai:decide (d - b > (a:Int))=true:=zBz oM;have aj:(a:Int) < d - b:=oM;obtain ⟨f,O,al,x,_⟩:=iC (S':=Smp o) j.out.fg k.out P X K;have b5:IntKind.i64.wrap (b+(a:Int))=(f:Int):=(by rw [IntKind.wrap_i64];omega);have t:=mN E m r e gk p a a6 Y a0 c a7 o f n.out Z.out a3 al (fun s R i=>x ⟨s,R,i⟩);unfold lO at t;obtain ⟨H,b2⟩:=hqq2 O x;clear O x;go_wp2_with fail;refine t.mono ?_;clear t;rintro i bg ⟨rfl,av,z,S,Q,J⟩;have M:FG (Smp z) a c l (f:Int):=(by obtain ⟨aw,bd,_,_,ak⟩:=iC (S':=Smp z) j.out.fg k.out P X oM;have:aw=f:=(by have:=H.out;omega);subst this;exact ak Q);obtain ⟨ab,af,a9⟩:=hqq3 M S (v.out.trans J);have ac:=lhd (show b < (f:Int) by have:=H.out;omega);clear M S Q J;go_wp2_with fail;go_roundw
              case rel=>exact ⟨(f:Int),av,z,rfl,af.out,ab.out,a9.out⟩
              case measure=>simp [intOf];have:=ac.out;omega
        · have be:decide (b<=au)=false:=zBy am;have aJ:=aBS j.out.fg (by rw [b1.out];exact am);have b0:=lhd aJ;clear aJ;go_wp2_with fail;go_quiet ((with_reducible exact a5 _))
          rename_i nq
          have y:VB m wr (wr.drewN nq):=VisK.of_below (below_drewN bR nq);have C:=j.out.tx.vis y.1;have A:=j.out.lf.trans (LF.of_vb (own:=r) y);obtain ⟨D,G⟩:=hqq2 C A;clear y C A a5 aE a2 aN;go_wp2_with fail;go_end0;exact ⟨rfl,r,o,D.out,j.out.fg.zero,b0.out,G.out⟩
 · have aA:=xS p (c+1) (c+1) T 0 a8 ay.out.live.permR (fun s R i=>az ⟨s,R,i⟩);have bp:=lhd az;clear az;go_wp2_with fail;refine aA.mono ?_;clear aA;rintro i br ⟨rfl,ah⟩;have bo:=ay.out.vis (Vis.of_below ah);have t:=mN br m own e gk p a a6 Y a0 c a7 T 0 bo Z.out a3 (zAp _) (fun s R i=>bp.out ⟨s,R,i⟩);unfold lO at t;have bi:=lhd (LF.of_vb (B:=m) (own:=own) (VisK.of_below ah));clear ah bo bj ay;go_wp2_with fail;refine t.mono ?_;clear t;rintro i a1 ⟨rfl,bD,bf,C,bn,A⟩;obtain ⟨F,aB⟩:=hqq2 C (bi.out.trans A);have aF:∀f,Smp bf f↔Smp T f∨f=0:=fun f=>(bn f).trans Or.comm;have aD:=lhd aF;clear aF C bn A bi;go_wp2_with fail;obtain ⟨V,ap⟩:=pU bf (l - 2*a);refine wp_region_any kR ?_;refine aX [14,15,16,17,18,19,20,21,22,23,24,25,26,4] (Grow) (Vs [is e,is e,is (.pointer (some ⟨e,1,none⟩)),is p,is (l:Int),is e,is e,is (.pointer (some ⟨e,2,none⟩)),is (a:Int),is (.int .i64 ((2*a:Nat):Int)),is (.int .i64 ((l:Int) -((2*a:Nat):Int))),is (.int .i64 ((l - 2*a:Nat):Int)),is (.int .i64 V),is (.int .i64 V)]) _ _ rfl kR bR (fun _ _=>Grow.trans) (cM tA0) ?_ ?_
   · refine aR ?_;refine pH 0 (.pointer (some e)) ?_;refine pV 0 14 ?_;refine pV 1 15 ?_;refine pL 2 16 (fun u g=>have g:(Grow) a1 u:=gD g;(((F.out.vis (Vis.of_below g)).live.blk.cell 1).trans rfl:u.cell? ⟨e,1,none⟩=some (.pointer (some p)))) ?_;refine pH 1 (.int .i64 (l:Int)) ?_;refine pH 0 (.pointer (some e)) ?_;refine pV 5 19 ?_;refine pV 6 20 ?_;refine pL 7 21 (fun u g=>have g:(Grow) a1 u:=gD g;(((F.out.vis (Vis.of_below g)).live.blk.cell 2).trans rfl:u.cell? ⟨e,2,none⟩=some (.int .i64 (a:Int)))) ?_;refine pV 8 22 ?_;refine sC (fun _ _ _ _ _ _ q _ _ _ I=>?_) ?_
     · have bu:_=_:=q 4 18 kR rfl;have bv:_=_:=q 9 23 kR rfl;go_simp;exact I _ _ bR (dT (by rw [IntKind.wrap_i64];push_cast;omega))
     refine sC (fun _ _ _ _ _ _ q _ _ _ I=>?_) ?_
     · have bw:_=_:=q 10 24 kR rfl;go_simp;exact I _ _ bR (dT oM)
     refine sC (fun _ u g _ _ _ q _ _ _ I=>?_) ?_
     · have bt:_=_:=q 3 17 kR rfl;have bx:_=_:=q 11 25 kR rfl;replace g:(Grow) a1 u:=gD g;go_simp;refine (gW p (c+1) (c+1) bf (l - 2*a) V u (F.out.vis (Vis.of_below g)).live.permR ap).mono ?_;rintro i bF ⟨rfl,b8⟩;exact I _ _ b8 rfl
     refine pV 12 26 ?_;exact aH
   · intro b7 bh g q;replace g:(Grow) a1 bh:=gD g;have b6:b7 (.tmp 4)=.int .i64 V:=q 13 4 rfl;simp only [zqq];rw [b6];clear q;have aS:=F.out.vis (Vis.of_below g);have aL:=aB.out.trans (LF.of_vb (B:=m) (own:=bD) (VisK.of_below g));have aM:=vG aZ.out aD.out X (rT ap);have aC:=lhd (FillI.mk aS aM aL);clear aS aL aM ap g F aB aD aZ;go_wp2_with fail;go_loopw [4] (fun s wr=>∃(b:Int) (r:Nat->Nat) (o:List (Nat×Nat)),s=.int .i64 b/\FillI a8 wr m own r e gk p a a6 (aI Y) a0 c l a7 o b) (fun s _=>((c:Int)+2 - intOf s).toNat)
     case atStart=>exact ⟨V,_,_,rfl,aC.out⟩
     case round=>
        clear aC;obtain ⟨b,r,o,rfl,w⟩:=hrel;obtain ⟨bA,bB⟩:=w.fg.ge;have a5:=w.tx.lenc Z.out a3;have aE:wr.cell? ⟨e,1,none⟩=some (.pointer (some p)):=(w.tx.live.blk.cell 1).trans rfl;have a2:wr.cell? ⟨e,2,none⟩=some (.int .i64 (a:Int)):=(w.tx.live.blk.cell 2).trans rfl;have aN:=w.tx.live.blk.lt;obtain ⟨au,ba⟩:=eqx (min (c:Int) ((l:Int)+(a:Int)));obtain ⟨j,b1⟩:=hqq2 w ba;clear w;by_cases am:b<=au
        · have be:decide (b<=au)=true:=zBz am;obtain ⟨U,an⟩:∃U:Nat,b+1=(U:Int):=⟨(b+1).toNat,by omega⟩;have P:b<=(c:Int):=oM;obtain ⟨W,aq⟩:=pU o U;obtain ⟨aW,aY⟩:=sN (N:=c) aq an P;have bs:wrap64 (b+1)=(U:Int):=(by rw [dH oM oM];exact an);obtain ⟨b3,ad,ae,bq⟩:=hqq4 aq aW aY an;clear aq aW aY;go_wp2_with fail;go_quiet ((with_reducible exact a5 _))
          rename_i nq
          have aT:=j.out.tx.vis (Vis.of_below (below_drewN bR nq));have aP:=gW p (c+1) (c+1) o U W (wr.drewN nq) aT.live.permR b3.out;clear aT;go_wp2_with fail;refine aP.mono ?_;clear aP;rintro i w1 ⟨rfl,aG⟩;have y:VB m wr w1:=VisK.of_below ((below_drewN bR nq).trans aG);have C:=j.out.tx.vis y.1;have A:=j.out.lf.trans (LF.of_vb (own:=r) y);obtain ⟨D,G⟩:=hqq2 C A;clear y C A aG a5 aE a2 aN;by_cases aU:W < 0
          · have aV:decide (W < 0)=true:=zBz aU;have k:=lhd (ad.out oM);have aO:=D.out.lenc Z.out a3 0;clear ad ae;go_wp2_with fail;refine aO.mono ?_;clear aO;rintro i E ⟨rfl,ar,rfl⟩;have aQ:=D.out.vis (Vis.of_below (below_drewN bR ar));have aK:=G.out.trans (LF.of_vb (B:=m) (own:=r) (VisK.of_below (below_drewN bR ar)));obtain ⟨n,v⟩:=hqq2 aQ aK;clear aQ aK;generalize w1.drewN ar=E at n v⊢;obtain ⟨d,a4⟩:∃d:Int,((c+1:Nat):Int)=d:=⟨_,rfl⟩;rw [a4] at k;have bz:wrap64 ((c:Int)+1)=d:=(by rw [bk];exact a4);have bc:=k.out.1;have bb:d<=((c+1:Nat):Int):=(by rcases k.out.2.2 with i |⟨ax,ao,i⟩;omega;have:=j.out.fg.le ax ao;omega);have b4:IntKind.i64.wrap (d - b)=d - b:=(by rw [IntKind.wrap_i64];omega);have a2:E.cell? ⟨e,2,none⟩=some (.int .i64 (a:Int)):=(n.out.live.blk.cell 2).trans rfl;have b9:=n.out.live.blk.lt;by_cases K:d - b<=(a:Int)
            · have ai:decide (d - b > (a:Int))=false:=zBy oM;have aj:¬(a:Int) < d - b:=oM;have L:=nE j.out.fg k.out K;have aa:=lhd L;clear L;go_wp2_with fail;go_roundw
              case rel=>exact ⟨d,r,o,by first | rfl |(congr 1 <;> omega),n.out,aa.out,v.out⟩
              case measure=>simp [intOf];omega
            · have ai:decide (d - b > (a:Int))=true:=zBz oM;have aj:(a:Int) < d - b:=oM;obtain ⟨f,O,al,x,_⟩:=iC (S':=Smp o) j.out.fg k.out P X K;have b5:IntKind.i64.wrap (b+(a:Int))=(f:Int):=(by rw [IntKind.wrap_i64];omega);have t:=mN E m r e gk p a a6 Y a0 c a7 o f n.out Z.out a3 al (fun s R i=>x ⟨s,R,i⟩);unfold lO at t;obtain ⟨H,b2⟩:=hqq2 O x;clear O x;go_wp2_with fail;refine t.mono ?_;clear t;rintro i bg ⟨rfl,av,z,S,Q,J⟩;have M:FG (Smp z) a c l (f:Int):=(by obtain ⟨aw,bd,_,_,ak⟩:=iC (S':=Smp z) j.out.fg k.out P X oM;have:aw=f:=(by have:=H.out;omega);subst this;exact ak Q);obtain ⟨ab,af,a9⟩:=hqq3 M S (v.out.trans J);have ac:=lhd (show b < (f:Int) by have:=H.out;omega);clear M S Q J;go_wp2_with fail;go_roundw
              case rel=>exact ⟨(f:Int),av,z,rfl,af.out,ab.out,a9.out⟩
              case measure=>simp [intOf];have:=ac.out;omega
          · have aV:decide (W < 0)=false:=zBy aU;have k:=lhd (ae.out oM);clear ad ae;obtain ⟨d,a4⟩:∃d:Int,W=d:=⟨_,rfl⟩;rw [a4] at k aV⊢;have n:=D;have v:=G;clear D G;generalize w1=E at n v⊢;have bc:=k.out.1;have bb:d<=((c+1:Nat):Int):=(by rcases k.out.2.2 with i |⟨ax,ao,i⟩;omega;have:=j.out.fg.le ax ao;omega);have b4:IntKind.i64.wrap (d - b)=d - b:=(by rw [IntKind.wrap_i64];omega);have a2:E.cell? ⟨e,2,none⟩=some (.int .i64 (a:Int)):=(n.out.live.blk.cell 2).trans rfl;have b9:=n.out.live.blk.lt;by_cases K:d - b<=(a:Int)
            · have ai:decide (d - b > (a:Int))=false:=zBy oM;have aj:¬(a:Int) < d - b:=oM;have L:=nE j.out.fg k.out K;have aa:=lhd L;clear L;go_wp2_with fail;go_roundw
              case rel=>exact ⟨d,r,o,by first | rfl |(congr 1 <;> omega),n.out,aa.out,v.out⟩
              case measure=>simp [intOf];omega
            · have ai:decide (d - b > (a:Int))=true:=zBz oM;have aj:(a:Int) < d - b:=oM;obtain ⟨f,O,al,x,_⟩:=iC (S':=Smp o) j.out.fg k.out P X K;have b5:IntKind.i64.wrap (b+(a:Int))=(f:Int):=(by rw [IntKind.wrap_i64];omega);have t:=mN E m r e gk p a a6 Y a0 c a7 o f n.out Z.out a3 al (fun s R i=>x ⟨s,R,i⟩);unfold lO at t;obtain ⟨H,b2⟩:=hqq2 O x;clear O x;go_wp2_with fail;refine t.mono ?_;clear t;rintro i bg ⟨rfl,av,z,S,Q,J⟩;have M:FG (Smp z) a c l (f:Int):=(by obtain ⟨aw,bd,_,_,ak⟩:=iC (S':=Smp z) j.out.fg k.out P X oM;have:aw=f:=(by have:=H.out;omega);subst this;exact ak Q);obtain ⟨ab,af,a9⟩:=hqq3 M S (v.out.trans J);have ac:=lhd (show b < (f:Int) by have:=H.out;omega);clear M S Q J;go_wp2_with fail;go_roundw
              case rel=>exact ⟨(f:Int),av,z,rfl,af.out,ab.out,a9.out⟩
              case measure=>simp [intOf];have:=ac.out;omega
        · have be:decide (b<=au)=false:=zBy am;have aJ:=aBS j.out.fg (by rw [b1.out];exact am);have b0:=lhd aJ;clear aJ;go_wp2_with fail;go_quiet ((with_reducible exact a5 _))
          rename_i nq
          have y:VB m wr (wr.drewN nq):=VisK.of_below (below_drewN bR nq);have C:=j.out.tx.vis y.1;have A:=j.out.lf.trans (LF.of_vb (own:=r) y);obtain ⟨D,G⟩:=hqq2 C A;clear y C A a5 aE a2 aN;go_wp2_with fail;go_end0;exact ⟨rfl,r,o,D.out,j.out.fg.zero,b0.out,G.out⟩
def qT (w:Nat->Prop) (f a8 a7 l:Nat) (ai:List (Nat×Nat)) (n:World) (O:PermE n w f a8 a7 ai) (W:l < ai.length):
 Calls prog 208 #[f,(l:Int)] n fun e a0=>e=.returned (.tuple #[])/\PermE a0 (Gw w n.heap.size) f a8 a7 (aD ai l)/\Keep w n a0:=by
 obtain ⟨⟨i,aW,aX,r,q,t,L,H,N,z,rfl⟩,aQ,aE⟩:=O;rw [zBc] at W;have D:=z.at_;have bW:=gA z.nd D.lt;have bP:=z.sz;obtain ⟨b,P⟩:∃b,t[l]?=some b:=⟨_,zAa W⟩;have ac:=zAd P;have aS:=(z.tkk b).2 ac;obtain ⟨j,B,a1,_,bp⟩:=World.ownsRow.form D.orow oM;have a3:=D.orow;rw [a1] at a3;have bb:n.cell? f=some (.pointer (some i)):=(D.blk.cell 0).trans rfl;have U:n.cell? ⟨f,2,none⟩=some (.slice (some j) t.length B):=(D.blk.cell 2).trans (by rw [a1];rfl);have an:n.cell? ⟨j,l,none⟩=some (.int .i64 (b:Int)):=(World.ownsRow.cellAt a3 l oM).trans (by rw [zAf,P];rfl);have bq:=D.blk.lt;have bQ:N.length<=1000:=by have:=gA z.frn fun d A=>(zAc.1 ((z.frk d).1 A)).1;have:=z.tkl;omega
 obtain ⟨x,ad⟩:=eqx t.length;have bZ:x<=1000:=oM;rw [ad] at U W a3;have bV:(l:Int) < (x:Int):=oM;have bU:(0:Int)<=(l:Int):=oM;have bN:wrap64 ((l:Int)+1)=((l+1:Nat):Int):=by rw [dH oM oM];rfl
 obtain ⟨o,M,b3,a6,b7,b1,I,bF⟩:=hqq8 z ad P aS aQ aE a1 ac;clear z ad P aS aQ aE a1 a3 D ac;go_enter func208,ntmps208;go_wp2_with fail;refine wp_region_any kR ?_;refine bX [4,5,6,7,8,9,10,11,12,13,14,15,16] (AF i r q) 12 [12] (fun S=>PermX S w f i aW aX r q a8 a7 t L H N) (fun _ S=>ArenaE S (Gw (AF i r q) n.heap.size) i (H.set b false) (N++ [b])) [is f,is f,is f,is i,is f,is f,is (.pointer (some ⟨f,2,none⟩)),is (.slice (some j) x B),is (l:Int),is (.pointer (some ⟨j,l,none⟩)),is (b:Int),uR (AF i r q) 3 #[(b:Int)] fun J=>.slice (some ⟨J,0,none⟩) 1 1,dF] _ _ rfl kR kR (o.out.drewN 1) (fun S y O _ bo=> { O with at_:=O.at_.below bo }) (fun _ _ _ O b=>O.keep (G:=fun _=>False) (Keep.of_below b) fun _ _ _ _ _ _ m=>m) (by repeat' (first | exact mQ _ _ | exact jZ _ | exact oE _ _ _ _ |(refine zAe.2 ⟨?_,?_⟩)|(intro a5 bw;cases bw))) ?_ ?_
 · refine aR ?_;refine pH3 0 (.pointer (some f)) ?_;refine pV3 0 4 ?_;refine pV3 1 5 ?_;refine pL3 2 6 (fun u g=>have g:Keep (AF i r q) n u:=kD g;(((g.bk o.out.at_.blk o.out.gp_af).cell 0).trans rfl:u.cell? f=some (.pointer (some i)))) ?_;refine pH3 0 (.pointer (some f)) ?_;refine pV3 4 8 ?_;refine pV3 5 9 ?_;refine pL3 6 10 (fun u g=>have g:Keep (AF i r q) n u:=kD g;((g.cell (p:=⟨f,2,none⟩) bq o.out.gp_af).trans U:u.cell? ⟨f,2,none⟩=some (.slice (some j) x B))) ?_;refine pH3 1 (.int .i64 (l:Int)) ?_;refine pW3 7 11 8 12 ?_;refine pL3 9 13 (fun u g=>have g:Keep (AF i r q) n u:=kD g;((g.cell (p:=⟨j,l,none⟩) bp (o.out.ord_af (by rw [I.out];rfl))).trans an:u.cell? ⟨j,l,none⟩=some (.int .i64 (b:Int)))) ?_;refine sC3 (fun _ u g _ _ _ _ R _ _ _ a9=>?_) ?_
   · replace g:Keep (AF i r q) n u:=kD g;have bJ:_=_:=R 10 14 kR rfl;go_simp;exact a9 _ _ (aL (bR.alloc nL _)) ⟨_,rfl,Bk.new _ _ _,fun m=>by have aq:=o.out.af_lt m;have ar:=g.size;omega⟩
   refine sC3 (fun ap u g bi _ _ _ R _ _ _ a9=>?_) ?_
   · replace g:Keep (AF i r q) n u:=kD g;have bx:=bi rfl;have bL:_=_:=R 3 7 kR rfl;have bA:(uR (AF i r q) 3 #[(b:Int)] fun J=>.slice (some ⟨J,0,none⟩) 1 1) (ap (.tmp 15)) u:=R 11 15 kR rfl;obtain ⟨bc,bK,bj,bY⟩:=bA;go_simp;refine (aCB (AF i r q) i bc b H N u bx.arena a6.out bj oM).mono ?_;rintro e c1 ⟨rfl,bh,br⟩
     exact a9 _ _ (bC br) (bh.mono fun a _ m=>by
        rcases m with m | m;exact .inl m
        · exact .inr (zAk g.size m))
   exact aH
 · intro ap aj g R aC;replace g:Keep (AF i r q) n aj:=kD g;obtain ⟨c0,aV⟩:∃bB,(fun _ S=>ArenaE S (Gw (AF i r q) n.heap.size) i (H.set b false) (N++ [b])) bB aj:=aC 12 dC;simp only [zqq];clear R aC;obtain ⟨y,bz⟩:∃y,y=aj:=⟨_,rfl⟩;subst bz;have X:=g;have aw:=aV;clear bb U an;have a2:=X.bk o.out.at_.blk o.out.gp_af;have aT:=aA (w':=y) o.out.at_.lrow fun a v _ c=>X.bk c (o.out.pair_af c);have a4:=aA (w':=y) o.out.at_.orow fun a v c P=>X.bk P (o.out.ord_af c);rw [M.out,I.out,M.out] at a4;have U:y.cell? ⟨f,2,none⟩=some (.slice (some j) x B):=(a2.cell 2).trans (by rw [I.out,M.out];rfl);have bS:=a2.lt;have aJ:Keep w n y:=(Keep.refl w n).trans (X.mono fun a _ m=>o.out.af m);have ax:=ArenaE.mono aw (G:=fun a=>Gw (AF i r q) n.heap.size a/\a < y.heap.size) fun a c m=>⟨m,c⟩;have aF:=yE 0 (some ⟨j,0,none⟩) x B l t y a4 W oM;obtain ⟨al,b8,ba,b4,aZ,ak⟩:=hqq6 a2 aT a4 aJ ax aF;clear a2 aT a4 aJ aw ax aF X aV g;go_wp2_with fail;refine ak.out.mono ?_;rintro e T ⟨rfl,aO,Q⟩;rw [show (Value.slice (some j) x B).ownBlock=some j from rfl] at Q;have ah:∀a C v,C≠3->Bk y a C v->¬(some j=some a):=fun a C v Y c e=>by obtain ⟨bH,bl⟩:=eF ba.out (show (Value.slice (some j) x B).ownBlock=some a from e);exact Y (aK c bl).1
   have ab:¬(Gw (AF i r q) n.heap.size j/\j < y.heap.size):=fun m=>by have ao:aX.ownBlock=some j:=(by rw [I.out];rfl);rcases m.1 with m | m;exact o.out.ord_af ao m;have:=(o.out.at_.orow.lt j ao).2;omega
   have V:=Q.bk al.out (ah _ _ _ dC al.out);have aU:=aA (w':=T) b8.out fun a v _ c=>Q.bk c (ah _ _ _ dC c);have ay:=aZ.out.keep Q fun a C v _ _ m e=>by injection e with e;subst e;exact ab m
   have bn:w j:=o.out.fo j (by rw [I.out];rfl);have aM:Keep w n T:=b4.out.trans (Q.mono fun a _ e=>by
    injection e with e;subst e;exact bn)
   have U:T.cell? ⟨f,2,none⟩=some (.slice (some j) x B):=(V.cell 2).trans (by rw [I.out,M.out];rfl);have bM:=V.frozen 2;have bT:=V.lt;obtain ⟨am,b9,b0,b5,b6,b2⟩:=hqq6 V aU ay aM aO ab;clear V aU ay aM aO ab ah Q ak;go_wp2_with fail;go_end0;have ae:Keep (fun a=>a=f) T (T.setCell ⟨f,2,none⟩ (.slice (some j) (x - 1) B)):=Keep.setCell (F:=fun a=>a=f) (Keep.refl _ _) (p:=⟨f,2,none⟩) (.inl rfl) _;have aa:∀a C v,C≠104->Bk T a C v->¬(a=f):=fun a C v Y c e=>by subst e;exact Y (aK c am.out).1
   obtain ⟨bO,bE,bI,bD,bG,aq,ar,bd,be,au⟩:=b0.out.keep ae fun a C v Y c _=>aa a C v (fun e=>by subst e;revert Y;decide) c;have s:=o.out;have aP:(b::aD t l).Perm t:=dY b3.out;have bv:=aP.nodup_iff.2 s.nd;obtain ⟨bt,bu⟩:=List.nodup_cons.1 bv;have aN:∀d,d∈aD t l↔d∈t/\d≠b:=fun d=>by rw [<-aP.mem_iff,List.mem_cons];constructor;intro A;exact ⟨.inr A,fun e=>bt (by rw [<-e];exact A)⟩;rintro ⟨K | K,bf⟩;exact absurd K bf;exact K
   have bm:(aD t l).length=x - 1:=(by have:=cQ t (k:=l) (by rw [M.out];exact W);have:=M.out;omega);have az:∀a,Gw (AF i r q) n.heap.size a/\a < y.heap.size->Gw w n.heap.size a:=fun a m=>by rcases m.1 with J | J;exact .inl (s.af J);exact .inr J
   have bs:b < H.length:=(zAc.1 a6.out).1;have aI:∀d,(H.set b false)[d]?=if d=b then some false else H[d]?:=fun d=>by
    rw [zBm];by_cases E:b=d
    · subst E;simp [bs]
    · rw [zBw E,zBw (fun e=>E e.symm)]
   refine ⟨rfl,⟨⟨i,aW,.slice (some j) (x - 1) B,_,_,aD t l,L,H.set b false,N++ [b],⟨⟨am.out.set 2 _,aA b9.out fun a v _ c=>ae.bk c (aa _ _ _ dC c),?_,aq,ar,bd,.inr fun e=>b2.out (au j e.symm),fun d A=>s.at_.lt d ((aN d).1 A).1,⟨zAp _,zAp _⟩⟩,.inl s.fp,.inl s.fa,fun a c=>.inl (s.fl a c),fun a c=>.inl (s.fo a (by rw [I.out];exact c)),fun a c=>az a (be a c),fun a c=>az a (au a c),bu,by rw [zAt];exact s.tkl,fun d=>?_,?_,fun d=>?_,s.sz⟩,(qF _ _ _).symm⟩,?_,fun d A=>?_⟩,Keep.setCell (F:=w) b5.out (p:=⟨f,2,none⟩) (.inl s.fp) _⟩;rw [bm];exact aA b6.out fun a v _ c=>ae.bk c (aa _ _ _ dC c)
   · rw [aI,aN d,<-s.tkk d];by_cases E:d=b
     · simp [E]
     · simp [E]
   · rw [List.nodup_append];refine ⟨s.frn,by simp,fun d A aY Z=>?_⟩;rw [List.mem_singleton] at Z;subst Z;intro e;subst e;have av:=(s.frk d).1 A;have bg:=a6.out;rw [bg] at av;cases av
   · rw [aI,zCo,s.frk d,List.mem_singleton];by_cases E:d=b
     · simp [E]
     · simp [E]
   unfold aD;rw [List.pairwise_append];have ag:=b7.out;refine ⟨ag.sublist (List.take_sublist _ _),ag.sublist (List.drop_sublist _ _),fun d z aY Z=>?_⟩;have:=List.pairwise_append.1 (show ((t.map fun b=>(aB L b,aG L b)).take l++(t.map fun b=>(aB L b,aG L b)).drop l).Pairwise (fun D a=>D.1 < a.1) by rw [zAu];exact ag);refine this.2.2 d z aY ?_;rw [<-List.drop_drop] at Z;exact List.mem_of_mem_drop Z;refine b1.out d ?_;unfold aD at A;rcases zCo.1 A with K | K;exact List.mem_of_mem_take K;exact List.mem_of_mem_drop K
def aEt {a:List (Nat×Nat)} {b:Nat} (p:a.Pairwise (fun c d=>c.1 < d.1)) (o:b < a.length) (e:Nat×Nat):e∈aD a b↔e∈a/\e.1≠a[b].1:=by
 have i:(a[b]::aD a b).Perm a:=dY (zAa o);have q:(a[b]::aD a b).Pairwise (fun c d:Nat×Nat=>c.1≠d.1):=i.symm.pairwise (p.imp fun {c d} g=>Nat.ne_of_lt g) fun {c d} g f=>g f.symm;obtain ⟨k,r⟩:=List.pairwise_cons.1 q;constructor;intro j;exact ⟨i.subset (by simp [j]),fun f=>k e j f.symm⟩;rintro ⟨l,m⟩;rcases List.mem_cons.1 (i.symm.subset l) with rfl | n;exact absurd rfl m;exact n
def wW (b:Nat->Prop) (k g f row:Nat) (l:List (Nat×Nat)) (d:World) (j:Ending) (e:World):Prop:=
 ∃(i:Int) (c:List (Nat×Nat)),j=.returned (.int .i64 i)/\(∀a,a∈c↔a∈l/\a.1≠row)/\PermE e (Gw b d.heap.size) k g f c/\Keep b d e
def aAY (x:Nat->Prop) (k p o row:Nat) (G:List (Nat×Nat)) (w:World) (C:PermE w x k p o G):
 Calls prog 205 #[k,(row:Int)] w (wW x k p o row G w):=by
 have r:=C;obtain ⟨⟨P,V,W,X,U,f,c,T,O,b,rfl⟩,v,F⟩:=C;have B:=List.pairwise_map.1 v;have u:f.Pairwise (fun N z=>aB c N < aB c z):=B;have a0:=gA b.nd b.at_.lt;have Z:=b.sz;have d:=jH 0 k P V W X U p o f c T O row w b.at_ u oM;unfold wW;by_cases j:∃a∈f,aB c a=row
 · rw [zBz j] at d;obtain ⟨a,t,n⟩:=(sA u row).2 j;obtain ⟨e,m⟩:∃e,(f.countP fun a=>decide (aB c a < row))=e:=⟨_,rfl⟩;rw [m] at d t;have A:=(zAc.1 t).1;obtain ⟨J,K,M,y⟩:=hqq4 t n v r;clear b v F u B j r t n m;go_enter func205,ntmps205;go_wp2_with fail;refine d.mono ?_;rintro q w1 ⟨rfl,l⟩;have g:=lhd l;clear d l;go_wp2_with fail;have D:=y.out.below g.out;refine (qT x k p o e _ w1 D (by rw [zBc];exact A)).mono ?_;rintro q a1 ⟨rfl,E,n⟩;obtain ⟨H,L⟩:=hqq2 E n;clear D E n;go_wp2_with fail;go_ret;refine ⟨0,_,rfl,fun Y=>?_,H.out.mono fun z _ i=>?_,(Keep.of_below g.out).trans L.out⟩
   · have S:e < (f.map fun a=>(aB c a,aG c a)).length:=(by rw [zBc];exact A);rw [aEt M.out S];have Q:((f.map fun a=>(aB c a,aG c a))[e]).1=row:=(by rw [List.getElem_map];have s:=J.out;rw [zAa A] at s;injection s with s;rw [s];exact K.out);rw [Q]
   rcases i with i | i;exact .inl i;exact .inr (by have:=g.out.size;omega)
 · rw [zBy j] at d;obtain ⟨e,m⟩:∃e,(f.countP fun a=>decide (aB c a < row))=e:=⟨_,rfl⟩;rw [m] at d;obtain ⟨I,y⟩:=hqq2 j r;clear b v F u B j r m;go_enter func205,ntmps205;go_wp2_with fail;refine d.mono ?_;rintro q w1 ⟨rfl,l⟩;have g:=lhd l;clear d l;go_wp2_with fail;go_ret;refine ⟨7,_,rfl,fun Y=>?_,(y.out.below g.out).mono fun z _ i=>.inl i,Keep.of_below g.out⟩;constructor;intro b;refine ⟨b,fun q=>?_⟩;obtain ⟨a,R,rfl⟩:=zAy.1 b;exact I.out ⟨a,R,q⟩;intro b;exact b.1
def aIa {b c a:Nat} (d:b < c) (e:b≠a) (f:c≠a):aS b a < aS c a:=by
 unfold aS;split <;> split <;> omega
def wR (i:Nat->Prop) (e s r c:Nat) (Q:List (Nat×Nat)) (a:World) (v:PermE a i e s r Q) (a4:∀d,i d->d < a.heap.size) (aN:c < s) (aF:s<=100000) (b0:r<=100000):
 Calls prog 135 #[e,(c:Int)] a fun o ak=>o=.returned (.int .i64 0)/\(∃R:List (Nat×Nat),(∀j,j∈R↔j∈Q/\j.1≠c)/\PermE ak (Gw i a.heap.size) e (s - 1) r (R.map fun j=>(aS j.1 c,j.2)))/\Keep i a ak:=by
 obtain ⟨g,rfl⟩:∃g,s=g+1:=⟨s - 1,by omega⟩;rw [zBb];have aL:e < a.heap.size:=by obtain ⟨⟨B,x,I,J,H,u,l,G,A,q,_⟩,_⟩:=v;exact q.at_.blk.lt
 have K:a.cell? ⟨e,3,none⟩=some (.int .i64 ((g+1:Nat):Int)):=by obtain ⟨⟨B,x,I,J,H,u,l,G,A,q,_⟩,_⟩:=v;exact (q.at_.blk.cell 3).trans rfl
 have ai:¬((c:Int)>=((g+1:Nat):Int)):=oM;have aO:¬g+1<=c:=oM;have aP:decide ((c:Int)>=((g+1:Nat):Int))=false:=zBy ai;have b5:decide ((c:Int) < 0)=false:=by simp
 have aC:IntKind.i64.wrap (((g+1:Nat):Int) - 1)=(g:Int):=by rw [IntKind.wrap_i64];omega
 obtain ⟨z,L⟩:=eqx (g+1);rw [L] at K ai aP aC v aF aN aO;obtain ⟨m,w⟩:=eqx (a.alloc (.cells #[(c:Int)] 3));have D:Below a.heap.size a m:=by rw [<-w];exact bR.alloc nL _
 have E:Bk m a.heap.size 3 #[(c:Int)]:=by rw [<-w];exact Bk.new a _ _
 have aQ:∀aj,(m.drewN aj).cell? a.heap.size=some (.int .i64 (c:Int)):=fun aj=>(E.cell 0).trans rfl;have aT:m.cell? a.heap.size=some (.int .i64 (c:Int)):=(E.cell 0).trans rfl;have aR:m.cell? ⟨e,3,none⟩=some (.int .i64 (z:Int)):=(D.cell (p:=⟨e,3,none⟩) aL).trans K;have af:m.heap.size=a.heap.size+1:=by rw [<-w,World.size_alloc]
 have b2:e < m.heap.size:=oM;have a1:=v.below D;obtain ⟨an,ar,au,av,ap,aq,az⟩:=hqq7 a1 w D E a4 L af;clear v a1 w D E a4 L af K;go_enter func135,ntmps135;go_wp2_with fail;rw [ar.out];go_quiet (fail)
 rename_i nq
 have b4:∀(X:Fn) (first W:Array Value) (a:World),(Instr.makeFunc X first W).run prog a=.ok (.func X first W) a:=fun _ _ _ _=>rfl;go_wp2_with fail;have a2:=an.out.below (below_drewN bR nq);have M:=aAY i e z r c Q (m.drewN nq) a2;unfold wW at M;refine M.mono ?_;rintro o S ⟨aU,R,rfl,ad,aE,O⟩;obtain ⟨⟨B,x,I,J,H,u,l,G,A,q,rfl⟩,ae,a7⟩:=aE;have C:=q.at_;have aW:S.cell? ⟨e,3,none⟩=some (.int .i64 (z:Int)):=(C.blk.cell 3).trans rfl;have aY:=C.blk.frozen 3;have b1:=C.blk.lt;have N:Bk S a.heap.size 3 #[(c:Int)]:=O.bk (av.out.drewN nq) fun o=>by have:=ap.out _ o;omega
 have b6:S.cell? a.heap.size=some (.int .i64 (c:Int)):=(N.cell 0).trans rfl;obtain ⟨b,ay,U,y,aw,V⟩:=hqq6 q ae a7 ad O N;clear q ae a7 ad O N C M a2 aQ aT aR;go_wp2_with fail;have a5:=b.out.at_.set_rows g;have aa:=V.out.far (p:=⟨e,3,none⟩) (fun o=>by have aX:a.heap.size=e:=o;omega) (.int .i64 (g:Int));have ag:∀d,x.ownBlock=some d->d≠a.heap.size:=fun d t o=>by subst o;obtain ⟨aV,aJ⟩:=eF b.out.at_.lrow t;exact absurd (aK aJ V.out).1 dC
 have a0:∀k,k∈u->aB l k<=1000000000000/\aG l k<=1000000000000:=fun k aM=>by have:=U.out (aB l k,aG l k) (zAy.2 ⟨k,aM,rfl⟩);have Z:aB l k < z:=this.1;have aD:aG l k < r:=this.2;omega
 have b3:=gA b.out.nd b.out.at_.lt;refine (wU 0 e B a.heap.size c x I J H g r u l G A _ a5 b.out.nd (by have:=b.out.sz;omega) aa ag a0).mono ?_;rintro o al ⟨rfl,ab,am,P,a8,a6⟩;have a9:∀d,Gw i (m.drewN nq).heap.size d->Gw i a.heap.size d:=fun d n=>by rcases n with n | n;exact .inl n;exact .inr (by have:=az.out;simp at n;omega)
 have ac:Keep i a al:=((Keep.of_below (below_drewN au.out nq)).trans aw.out).trans' ((Keep.setCell (F:=Gw i (m.drewN nq).heap.size) (Keep.refl _ _) (p:=⟨e,3,none⟩) (.inl b.out.fp) _).trans (ab.mono fun d _ t=>b.out.fl d t)) fun d t n=>by rcases a9 d n with Y | Y;exact Y;omega
 have a3:PermE al (Gw i a.heap.size) e g r ((u.map fun k=>(aB l k,aG l k)).map fun j=>(aS j.1 c,j.2)):=by
  refine PermE.mono (F:=Gw i (m.drewN nq).heap.size) ⟨⟨B,x,I,J,H,u,am,G,A,⟨a6,b.out.fp,b.out.fa,b.out.fl,b.out.fo,b.out.ft,b.out.ff,b.out.nd,by rw [P];exact b.out.tkl,b.out.tkk,b.out.frn,b.out.frk,by rw [P];exact b.out.sz⟩,(aAf (f:=fun j=>(aS j.1 c,j.2)) a8).symm⟩,?_,fun j q=>?_⟩ fun d _ n=>a9 d n;refine List.pairwise_map.2 (List.Pairwise.imp_of_mem (fun {aA d} aH t aI=>?_) ay.out);exact aIa aI ((y.out aA).1 aH).2 ((y.out d).1 t).2
  · obtain ⟨T,ah,rfl⟩:=zAy.1 q;have Z:=U.out T ah;have aD:=((y.out T).1 ah).2;have aZ:=aq.out;refine ⟨?_,Z.2⟩;show aS T.1 c < g;unfold aS;split <;> omega
 obtain ⟨ao,ax⟩:=hqq2 a3 ac;clear ac a3 a6 a8 ab P a0 ag aa a5;go_wp2_with fail;go_ret;exact ⟨rfl,⟨_,y.out,ao.out⟩,ax.out⟩
def wS (m:Nat->Prop) (g B P d:Nat) (k:List (Nat×Nat)) (c:World) (q:PermE c m g B P k) (ar:∀t,m t->t < c.heap.size) (bq:d < P) (bA:B<=100000) (b7:P<=100000) (av:∀b∈k,∀n∈k,b.2=n.2->b=n):
 Calls prog 136 #[g,(d:Int)] c fun e K=>e=.returned (.int .i64 0)/\(∃N:List (Nat×Nat),(∀b,b∈N↔b∈k/\b.2≠d)/\PermE K (Gw m c.heap.size) g B (P - 1) (N.map fun b=>(b.1,aS b.2 d)))/\Keep m c K:=by
 obtain ⟨o,rfl⟩:∃o,P=o+1:=⟨P - 1,by omega⟩;rw [zBb];have be:g < c.heap.size:=by obtain ⟨⟨w,u,z,A,y,r,j,x,v,a,_⟩,_⟩:=q;exact a.at_.blk.lt
 have a5:c.cell? ⟨g,4,none⟩=some (.int .i64 ((o+1:Nat):Int)):=by obtain ⟨⟨w,u,z,A,y,r,j,x,v,a,_⟩,_⟩:=q;exact (a.at_.blk.cell 4).trans rfl
 have aF:¬((d:Int)>=((o+1:Nat):Int)):=oM;have br:¬o+1<=d:=oM;have bs:decide ((d:Int)>=((o+1:Nat):Int))=false:=zBy aF;have bE:decide ((d:Int) < 0)=false:=by simp
 have b3:IntKind.i64.wrap (((o+1:Nat):Int) - 1)=(o:Int):=by rw [IntKind.wrap_i64];omega
 obtain ⟨I,a6⟩:=eqx (o+1);rw [a6] at a5 aF bs b3 q b7 bq br;obtain ⟨C,U⟩:=eqx (c.alloc (.cells #[(d:Int)] 3));have a0:Below c.heap.size c C:=by rw [<-U];exact bR.alloc nL _
 have a1:Bk C c.heap.size 3 #[(d:Int)]:=by rw [<-U];exact Bk.new c _ _
 have aH:∀a2,(C.drewN a2).cell? c.heap.size=some (.int .i64 (d:Int)):=fun a2=>(a1.cell 0).trans rfl;have aJ:C.cell? c.heap.size=some (.int .i64 (d:Int)):=(a1.cell 0).trans rfl;have aI:C.cell? ⟨g,4,none⟩=some (.int .i64 (I:Int)):=(a0.cell (p:=⟨g,4,none⟩) be).trans a5;have aA:C.heap.size=c.heap.size+1:=by rw [<-U,World.size_alloc]
 have bB:g < C.heap.size:=oM;have ao:=q.below a0;obtain ⟨aM,aR,ae,af,aP,aQ,a4,aV⟩:=hqq8 ao U a0 a1 ar a6 aA av;clear q ao U a0 a1 ar a6 aA a5 av;go_enter func136,ntmps136;go_wp2_with fail;rw [aR.out];go_quiet (fail)
 rename_i nq
 have bD:∀(ak:Fn) (first aj:Array Value) (c:World),(Instr.makeFunc ak first aj).run prog c=.ok (.func ak first aj) c:=fun _ _ _ _=>rfl;go_wp2_with fail;have S:=aM.out.below (below_drewN bR nq);have a9:Calls prog 60 #[g,(d:Int)] (C.drewN nq) fun e K=>Below (C.drewN nq).heap.size (C.drewN nq) K/\((e=.returned (.int .i64 (-1))/\∀b∈k,b.2≠d)∨∃J b,e=.returned (.int .i64 ((J:Nat):Int))/\k[J]?=some b/\b.2=d):=by
  obtain ⟨⟨w,u,z,A,y,r,j,x,v,a,rfl⟩,az,a7⟩:=S;have bi:=gA a.nd a.at_.lt;have bz:=a.sz;refine (iF 0 g w u z A y B I r j x v d _ a.at_ oM).mono ?_;rintro e K ⟨rfl,Q⟩;refine ⟨Q,?_⟩;by_cases a8:∃i∈r,aG j i=d
  · obtain ⟨a2,b,bj,bn,bo⟩:=sQ (p:=fun i=>decide (aG j i=d)) (l:=r) (by obtain ⟨i,bg,ab⟩:=a8;exact ⟨i,bg,zBz ab⟩) 0;rw [bj,zBi];exact .inr ⟨a2,_,rfl,by rw [zAf,bn];rfl,of_decide_eq_true bo⟩
  rw [jO (p:=fun i=>decide (aG j i=d)) (l:=r) (fun i X=>zBy fun e=>a8 ⟨i,X,e⟩) 0];refine .inl ⟨rfl,fun b a=>?_⟩;obtain ⟨i,X,rfl⟩:=zAy.1 a;exact fun e=>a8 ⟨i,X,e⟩
 have ay:∀s (N:List (Nat×Nat)),(∀b,b∈N↔b∈k/\b.2≠d)->PermE s (Gw m c.heap.size) g B I N->Keep m c s->Bk s c.heap.size 3 #[(d:Int)]->∃w u z A y r j x v,PermX s (Gw m c.heap.size) g w u z A y B I r j x v/\Calls prog 206 #[g,.func (.func 209) #[] #[c.heap.size]] (s.setCell ⟨g,4,none⟩ (.int .i64 (o:Int))) fun e K=>e=.returned (.tuple #[])/\PermE K (Gw m c.heap.size) g B o (N.map fun b=>(b.1,aS b.2 d))/\Keep m c K:=by
  rintro s N Z ⟨⟨w,u,z,A,y,r,j,x,v,a,rfl⟩,az,a7⟩ ab H;refine ⟨w,u,z,A,y,r,j,x,v,a,?_⟩;have b9:=a.at_.set_places o;have W:=H.far (p:=⟨g,4,none⟩) (fun e=>by have bw:c.heap.size=g:=e;omega) (.int .i64 (o:Int));have bm:∀t,u.ownBlock=some t->t≠c.heap.size:=fun t Q e=>by subst e;obtain ⟨bv,bb⟩:=eF a.at_.lrow Q;exact absurd (aK bb H).1 dC
  have b6:∀i,i∈r->aB j i<=1000000000000/\aG j i<=1000000000000:=fun i X=>by have:=a7 (aB j i,aG j i) (zAy.2 ⟨i,X,rfl⟩);have am:aB j i < B:=this.1;have b5:aG j i < I:=this.2;omega
  have bi:=gA a.nd a.at_.lt;refine (wV 0 g w c.heap.size d u z A y B o r j x v _ b9 a.nd (by have:=a.sz;omega) W bm b6).mono ?_;rintro e O ⟨rfl,bh,aL,ax,bd,ba⟩;refine ⟨rfl,⟨⟨w,u,z,A,y,r,aL,x,v,⟨ba,a.fp,a.fa,a.fl,a.fo,a.ft,a.ff,a.nd,by rw [ax];exact a.tkl,a.tkk,a.frn,a.frk,by rw [ax];exact a.sz⟩,(aAf (f:=fun b=>(b.1,aS b.2 d)) bd).symm⟩,List.pairwise_map.2 (az.imp fun {bu t} b8=>b8),fun b bp=>?_⟩,?_⟩
  · obtain ⟨n,M,rfl⟩:=zAy.1 bp;have am:=a7 n M;have b5:=((Z n).1 M).2;have bx:=aQ.out;refine ⟨am.1,?_⟩;show aS n.2 d < o;unfold aS;split <;> omega
  · refine ab.trans' ((Keep.setCell (F:=Gw m c.heap.size) (Keep.refl _ _) (p:=⟨g,4,none⟩) (.inl a.fp) _).trans (bh.mono fun t _ Q=>a.fl t Q)) fun t Q D=>by rcases D with al | al;exact al;omega
 have ah:=lhd ay;clear ay;refine a9.mono ?_;rintro e s ⟨E,⟨rfl,ac⟩|⟨J,b,rfl,ad,aE⟩⟩
 · have H:Bk s c.heap.size 3 #[(d:Int)]:=(af.out.drewN nq).below E (by have:=a4.out;simp;omega);have Y:Keep m c s:=(Keep.of_below (below_drewN ae.out nq)).trans (Keep.of_below E);have L:=(S.below E).mono (G:=Gw m c.heap.size) fun t _ D=>.inl D;obtain ⟨w,u,z,A,y,r,j,x,v,a,V⟩:=ah.out s k (fun b=>⟨fun q=>⟨q,ac b q⟩,fun q=>q.1⟩) L Y H;have b2:s.cell? ⟨g,4,none⟩=some (.int .i64 (I:Int)):=(a.at_.blk.cell 4).trans rfl;have b4:=a.at_.blk.frozen 4;have bf:=a.at_.blk.lt;have bt:s.cell? c.heap.size=some (.int .i64 (d:Int)):=(H.cell 0).trans rfl;obtain ⟨a3,b0⟩:=hqq2 V ac;clear V ac a L Y H E S a9 aH aJ aI;go_wp2_with fail;refine a3.out.mono ?_;rintro e O ⟨rfl,T,R⟩;obtain ⟨aN,aX⟩:=hqq2 T R;clear T R;go_wp2_with fail;go_ret;exact ⟨rfl,⟨k,fun b=>⟨fun q=>⟨q,b0.out b q⟩,fun q=>q.1⟩,aN.out⟩,aX.out⟩
 · have H:Bk s c.heap.size 3 #[(d:Int)]:=(af.out.drewN nq).below E (by have:=a4.out;simp;omega);have L:=S.below E;have aa:=(zAc.1 ad).1;have au:=qT m g B I J k s L aa;have b1:=lhd L.2.1;have aW:=lhd (fun n (M:n∈k) b (a:b∈k) (e:n.1=b.1)=>L.inj M a e);have bC:decide ((J:Int)>=0)=true:=(by simp);have bl:=E.size;obtain ⟨ag,ai,aT,aU⟩:=hqq4 ad aE E H;clear ad aE H E L S a9 aH aJ aI;go_wp2_with fail;refine au.mono ?_;rintro e O ⟨rfl,T,R⟩;have W:Bk O c.heap.size 3 #[(d:Int)]:=R.bk aU.out fun e=>by have:=aP.out _ e;omega
   have Y:Keep m c O:=((Keep.of_below (below_drewN ae.out nq)).trans (Keep.of_below aT.out)).trans R;have Z:∀n,n∈aD k J↔n∈k/\n.2≠d:=fun n=>by
    rw [aEt b1.out aa];have bc:k[J]=b:=(by have an:=ag.out;rw [zAa aa] at an;injection an);rw [bc];have aC:b∈k:=zAd ag.out;refine and_congr_right fun M=>not_congr ⟨fun e=>?_,fun e=>?_⟩;rw [aW.out n M b aC e];exact ai.out
    · rw [aV.out n M b aC (by rw [e,ai.out])]
   have ap:=T.mono (G:=Gw m c.heap.size) fun t _ D=>by rcases D with D | D;exact .inl D;exact .inr (by have:=a4.out;simp at bl;omega)
   obtain ⟨w,u,z,A,y,r,j,x,v,a,V⟩:=ah.out O (aD k J) Z ap Y W;have b2:O.cell? ⟨g,4,none⟩=some (.int .i64 (I:Int)):=(a.at_.blk.cell 4).trans rfl;have b4:=a.at_.blk.frozen 4;have bf:=a.at_.blk.lt;have bt:O.cell? c.heap.size=some (.int .i64 (d:Int)):=(W.cell 0).trans rfl;obtain ⟨a3,aZ⟩:=hqq2 V Z;clear V Z a ap T Y W R au;go_wp2_with fail;refine a3.out.mono ?_;rintro e bF ⟨rfl,aq,aw⟩;obtain ⟨aO,aY⟩:=hqq2 aq aw;clear aq aw;go_wp2_with fail;go_ret;exact ⟨rfl,⟨_,aZ.out,aO.out⟩,aY.out⟩
end
end Go.Proofs.YtcfpmjbojoidoaaGreatDoor
