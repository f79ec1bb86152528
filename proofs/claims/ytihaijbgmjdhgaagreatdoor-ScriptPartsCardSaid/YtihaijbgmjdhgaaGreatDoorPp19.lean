/- Lemmas of the walk. Conditions: each its own. -/
import Derived.Test.YtihaijbgmjdhgaaGreatDoorPp18
import Derived.Test.YtihaijbgmjdhgaaGreatDoorProg
import Derived.Test.YtihaijbgmjdhgaaGreatDoorShl
import Derived.Test.YtihaijbgmjdhgaaGreatDoorShi
import Derived.Test.YtihaijbgmjdhgaaGreatDoorSht
set_option linter.all false
set_option maxRecDepth 100000
set_option maxHeartbeats 4000000
open Go.Proofs.Tryz
namespace Go.Proofs.YtihaijbgmjdhgaaGreatDoor
section
open Go.RowKit Go.Shelf
theorem PermE.len {o:World} {e:Nat->Prop} {g a f:Nat} {b:List (Nat×Nat)} (d:PermE o e g a f b):b.length<=a:=by
 have i:(b.map fun c=>c.1).Nodup:=by rw [List.Nodup,List.pairwise_map];exact d.2.1.imp fun {p q} k=>Nat.ne_of_lt k
 have j:=xI (n:=a) i fun r l=>by obtain ⟨c,m,rfl⟩:=zAx.1 l;exact (d.2.2 c m).1
 simpa using j
def Smp (b:List (Nat×Nat)) (a:Nat):Prop:=∃c∈b,c.2=a
structure FG (S:Nat->Prop) (r N at_:Nat) (q:Int):Prop where
 zero:S 0
 le:∀s,S s->s<=N
 at_q:q=-1∨q=((N+1:Nat):Int)∨∃s:Nat,S s/\q=(s:Int)
 fine:∀s:Nat,S s->((s:Int) < q∨at_<=s)->s+r<=N->∃s',S s'/\s < s'/\s'<=s+r
 gap2:∀s:Nat,S s->s+2*r<=N->∃s',S s'/\s < s'/\s'<=s+2*r
def aDo (c:Nat->Prop) (d e:Nat):Prop:=∀a:Nat,c a->a+d<=e->∃b,c b/\a < b/\b<=a+d
theorem FG.congr {b c:Nat->Prop} {g d e:Nat} {f:Int} (j:FG b g d e f) (i:∀a,c a↔b a):FG c g d e f:=by
 have:c=b:=funext fun a=>propext (i a);rw [this];exact j
structure TxM (w:World) (B:Nat) (own:Nat->Nat) (gl gk gp rate:Nat) (mv:Int) (S T:List Nat) (N:Nat) (rs:List Nat) (pr:List (Nat×Nat)):Prop where
 suf:IsSuf S rs
 live:LiveM w B own gl gk gp rate mv (N+1) (N+1) (aS S rs) T pr
 tal:T.Perm (aS S rs)
 right:∀x∈pr,rs[x.1]?=some x.2
theorem TxM.vis {m w':World} {b:Nat} {own:Nat->Nat} {f gk g k:Nat} {i:Int} {d e:List Nat} {c:Nat} {l:List Nat} {j:List (Nat×Nat)} (a:TxM m b own f gk g k i d e c l j) (n:Vis m w'):TxM w' b own f gk g k i d e c l j:=⟨a.suf,a.live.vis n,a.tal,a.right⟩
def LiveE (k:World) (d:Nat) (own:Nat->Nat) (f:Nat) (b:List UInt8) (c:Nat):Prop:=
 ∃gk g i e j a,TxM k d own f gk g c i (aJ b) e b.length j a/\Smp a 0/\aDo (Smp a) c b.length
theorem LiveE.vis {e w':World} {a:Nat} {own:Nat->Nat} {b:Nat} {d:List UInt8} {c:Nat} (i:LiveE e a own b d c) (l:Vis e w'):LiveE w' a own b d c:=by
 obtain ⟨gk,g,m,f,o,n,j,k⟩:=i;exact ⟨gk,g,m,f,o,n,j.vis l,k⟩
theorem LiveE.bnd {c:World} {b:Nat} {own:Nat->Nat} {d:Nat} {i:List UInt8} {g:Nat} (e:LiveE c b own d i g):∀a,own a≠0->b<=a/\a < c.heap.size:=by
 obtain ⟨gk,k,m,j,o,n,f,l⟩:=e;exact f.live.bnd
theorem TxM.len {p:World} {i:Nat} {own:Nat->Nat} {j gk k o:Nat} {m:Int} {c:List UInt8} {e:List Nat} {a:Nat} {b:List Nat} {n:List (Nat×Nat)} (f:TxM p i own j gk k o m (aJ c) e a b n) (l:c.length=a):(aS (aJ c) b).length=a+1/\e.length=a+1/\b.length=a+1:=by
 have d:=f.suf.len;rw [aT,l] at d;have g:(aS (aJ c) b).length=a+1:=by rw [dZ,d]
 exact ⟨g,by rw [f.tal.length_eq,g],d⟩
end
section
open Go.RowKit
def TpAt (j:World) (e f:Nat) (a:List UInt8) (i:Nat):Prop:=
 ∃d gk g c,IsSuf (aJ a) d/\LiveG j e f gk g i (a.length+1) (aS (aJ a) d) c/\(∀b∈c,d[b.1]?=some b.2)/\(∃b∈c,b.2=0)/\a.length<=127
theorem TpAt.vis {e w':World} {a b:Nat} {d:List UInt8} {c:Nat} (g:TpAt e a b d c) (l:Vis e w'):TpAt w' a b d c:=by
 obtain ⟨n,gk,f,m,i,j,k⟩:=g;exact ⟨n,gk,f,m,i,j.vis l,k⟩
theorem VB.grow {l:Nat} {k w1 m:World} (b:VB l k w1) (a:Below k.heap.size w1 m):VB l k m:=
 ⟨⟨a.os.trans b.1.os,a.tape.trans b.1.tape,a.output.trans b.1.output,zAk b.1.size a.size,fun d c i=>by
   rcases b.1.block d c i with n |⟨e,j,f,g⟩|⟨e,j,f,g⟩;exact .inl ((a.block d c).trans n);exact .inr (.inl ⟨e,j,f,g.below a c⟩)
   · exact .inr (.inr ⟨e,j,f,g.below a c⟩)⟩,
  ⟨a.os.trans b.2.os,a.tape.trans b.2.tape,a.output.trans b.2.output,zAk b.2.size a.size,fun d c i=>(a.block d c).trans (b.2.block d c i)⟩⟩
theorem TpAt.mono {d:World} {B B' a:Nat} {c:List UInt8} {b:Nat} (f:TpAt d B a c b) (k:B'<=B):TpAt d B' a c b:=by
 obtain ⟨m,gk,e,l,g,i,j⟩:=f;exact ⟨m,gk,e,l,g,i.mono k,j⟩
theorem aCM (a:World) (c:TypeId) (b:Array Value) (d:Nat×Nat) (e:Nat) (f:b.size=e):Rd (a.alloc (.cells b c d)) (a.heap.size+1) 1 (some ⟨a.heap.size,0,none⟩) e b.toList:=by
 refine ⟨by simp [f],fun _=>⟨_,0,rfl,by omega,fun i j g=>?_⟩⟩;rw [zBh,cell_of_row (a.alloc (.cells b c d)) a.heap.size i b c d (heap_alloc_new a _)];simpa using g
theorem zU (b:World) (a:Array Value) (d c:Nat):(convert 22 22 (.slice (some b.heap.size) d c)).run prog (b.alloc (.cells a 5))=.ok (.slice (some b.heap.size) d c) (b.alloc (.cells a 5 (a.size,a.size+1))):=
 Lib.run_convert_bytes_const (P:=prog) b 22 5 a d c underlying22 underlying5
end
section
open Go.RowKit Go.Shelf
theorem WaveS.low {l:World} {c B':Nat} {own:Nat->Nat} {g:Nat} {e:Nat->Value} {d:Nat->List Nat} {j k:Int} (a:WaveS l c own g e d j k) (b:B'<=c):WaveS l B' own g e d j k:=by
 refine ⟨a.blk,⟨zAk b a.base.1,a.base.2⟩,fun r q=>?_,fun f i=>⟨zAk b (a.bnd f i).1,(a.bnd f i).2⟩⟩;obtain ⟨m,n,o,p⟩:=a.rows r q;exact ⟨m,aZ n b,o,p⟩
theorem WalkE.low {d:World} {a B':Nat} {own:Nat->Nat} {gk:Nat} {b c:List Nat} (i:WalkE d a own gk b c) (o:B'<=a):WalkE d B' own gk b c:=by
 obtain ⟨g,f,j,k,⟨e,p,l⟩,m,n⟩:=i;exact ⟨g,f,j,k,⟨e,p,l.low o⟩,m,n⟩
def aBL (own:Nat->Nat) (b gk a:Nat):Nat:=if a=b then 2 else if a=gk then 2 else own a
theorem vN (f:Option Addr) (e m g:Nat) (b:List Nat) (a:World) (C:Rd a g 1 f e (b.map sv)) (x:g<=a.heap.size) (I:e<=128) (y:∀L∈b,L < 257):
 Calls prog 106 #[.slice f e m] a fun n o=>∃gk own,n=.returned (.pointer (some ⟨gk,0,none⟩))/\a.heap.size<=gk/\WalkE o a.heap.size own gk b b/\Below a.heap.size a o:=by
 obtain ⟨r,q⟩:=hqq2 C y;clear C y;go_enter func106,ntmps106;go_wp2_with fail;refine (sV f e m g b _ r.out x I q.out).mono ?_;rintro n w1 ⟨w,own,rfl,E,z⟩;obtain ⟨t,c⟩:=hqq2 E z;clear E z;go_wp2_with fail;refine (lU f e m g b w1 (r.out.below (c.out.mono x)) (by have:=c.out.size;omega) oM q.out).mono ?_;rintro n p ⟨i,rfl,P,D,j⟩;have F:=t.out.vis (Vis.of_below j);have A:=c.out.trans (j.mono c.out.size);obtain ⟨H,s,l,G⟩:=hqq4 F D A j.size;clear F D A j;go_wp2_with fail;go_ret;have K:=H.out.vis (w':=p.alloc (.cells #[w,i] 176)) ((Vis.refl _).alloc _);have B:=t.out.bnd;have R:=s.out.lt;have O:=c.out.size;have Q:=G.out;have J:=K.paint (own':=aBL own i p.heap.size) (fun d N M=>by
  have:=(B d oM).2;unfold aBL;rw [zBu oM,zBu oM]) (fun d k=>by
  unfold aBL at k;by_cases u:d=i;subst u;exact ⟨by omega,by simp;omega⟩
  · rw [zBu u] at k;by_cases v:d=p.heap.size;subst v;exact ⟨by omega,by simp⟩
    · rw [zBu v] at k;have:=B d k;exact ⟨this.1,by simp;omega⟩)
 refine ⟨_,_,rfl,l.out.size,⟨w,i,Bk.new _ _ _,?_,J,s.out.alloc _,?_⟩,l.out.alloc l.out.size _⟩
 · unfold aBL;rw [zBu oM,zBv rfl]
 · unfold aBL;rw [zBv rfl]
theorem sW (e:Option Addr) (c j f:Nat) (b:List UInt8) (a:World) (m:Rd a f 1 e c (b.map bv)) (w:f<=a.heap.size) (B:c<=127):
 Calls prog 60 #[.slice e c j] a fun i p=>∃gk d,IsSuf (aJ b) d/\i=.returned (.pointer (some ⟨gk,0,none⟩))/\a.heap.size<=gk/\(∃own,WalkE p a.heap.size own gk (aS (aJ b) d) (aS (aJ b) d))/\Below a.heap.size a p:=by
 have s:=lhd m;clear m;go_enter func60,ntmps60;go_wp2_with fail;refine (jB e c j f b _ s.out w oM).mono ?_;rintro i w1 ⟨d,q,v,n,rfl,l,k⟩;obtain ⟨t,r,g⟩:=hqq3 n l.rd k;clear n l k;go_wp2_with fail;refine (vN q (c+1) v _ _ w1 r.out nL oM (iR (jE b))).mono ?_;rintro i C ⟨gk,own,rfl,A,o,x⟩;have y:=g.out.trans (x.mono g.out.size);have z:=g.out.size;have u:=lhd o;clear o;go_wp2_with fail;go_ret;exact ⟨gk,d,t.out,rfl,by omega,⟨own,u.out.low z⟩,y⟩
theorem LiveE.far0 {l m:World} {f:Nat} {own:Nat->Nat} {i:Nat} {k:List UInt8} {j:Nat} {g:Nat->Prop} (q:LiveE l f own i k j) (e:Keep g l m) (d:∀a,g a->own a=0):LiveE m f own i k j:=by
 obtain ⟨gk,p,v,n,x,w,⟨r,b,s,t⟩,u⟩:=q;refine ⟨gk,p,v,n,x,w,⟨r,⟨e.bk b.blk fun c=>?_,b.col,b.walk.far e fun a c=>?_,b.perm.keep e fun a c o=>?_⟩,s,t⟩,u⟩;have:=d _ c;have:=b.col;omega;have:=d a c;omega;have:=d a o;omega
theorem LiveE.low {f:World} {b B':Nat} {own:Nat->Nat} {c:Nat} {e:List UInt8} {d:Nat} (j:LiveE f b own c e d) (o:B'<=b):LiveE f B' own c e d:=by
 obtain ⟨gk,i,p,g,r,q,⟨k,a,l,m⟩,n⟩:=j;exact ⟨gk,i,p,g,r,q,⟨k,⟨a.blk,a.col,a.walk.low o,a.perm⟩,l,m⟩,n⟩
theorem LiveE.tp {e:World} {b:Nat} {own:Nat->Nat} {c:Nat} {a:List UInt8} {d:Nat} (i:LiveE e b own c a d) (o:a.length<=127):TpAt e b c a d:=by
 obtain ⟨gk,f,t,r,q,p,⟨j,k,l,m⟩,n,s⟩:=i;exact ⟨q,gk,f,p,j,k.g l,m,n,o⟩
open Classical in
noncomputable def ownL (own:Nat->Nat) (d b:Nat) (e f g:Value) (c a:Nat):Nat:=if PF d b e f g a then 1 else if a=c then 3 else own a
theorem PermAt.low {o:World} {p g f:Nat} {l m n k:Value} {d c:Nat} {i:List Nat} {b:List (Nat×Nat)} {j:List Bool} {e:List Nat} (a:PermAt o p g f l m n k d c i b j e):PermAt o 0 g f l m n k d c i b j e:=
 ⟨a.blk,aZ a.lrow (zAp _),aZ a.orow (zAp _),a.ar,aZ a.trow (zAp _),aZ a.frow (zAp _),a.apart,a.lt,⟨zAp _,zAp _⟩⟩
theorem wT (a:List (Nat×Nat)):(List.range a.length).map (fun b=>(bC a b,eB a b))=a:=(mY a).symm
theorem aBv {e:List Nat} {d c b:Nat} (f:∃a,e[a]?=some b/\a < c) (j:b % d=0):Smp (bO e d c) b:=by
 obtain ⟨a,g,i⟩:=f;exact ⟨(a,b),(aBx _ _ _ _ _).2 ⟨i,by rw [zAb,g];rfl,j⟩,rfl⟩
theorem aBw {c:List UInt8} {e:List Nat} {a:Nat} (d:IsSuf (aJ c) e) (s:1<=a):aDo (Smp (bO e a (c.length+1))) a c.length:=fun n ⟨o,l,f⟩ r=>by
 obtain ⟨q,b⟩:=o;have j:=(aBx _ _ _ _ _).1 l;have g:b=n:=f;subst g;refine ⟨b+a,aBv ?_ (by rw [Nat.add_mod_right];exact j.2.2),by omega,zAs _⟩;obtain ⟨m,k,i⟩:=d.row (p:=b+a) (by rw [aT];omega);refine ⟨m,by rw [zAa k,i],?_⟩;have:=d.len;rw [aT] at this;omega
theorem aAq {w wr:World} {y w2s x:Nat} {own:Nat->Nat} {j gk g i c o:Nat} {k l m:Value} {f:List UInt8} {d:List Nat} {r:List Bool} (M:f.length=o) (t:IsSuf (aJ f) d) (Q:1<=c) (W:o<=127) (K:WalkE wr y own gk (aS (aJ f) d) (aS (aJ f) d)) (N:∀a,own a≠0->a < w2s) (V:j=w2s) (T:w2s < x) (G:Bk wr j 108 #[gk,g,(c:Int),.int .i64 0])
 (p:PermAt wr x g i k l m (.slice none 0 0) (o+1) (o+1) (List.range (bO d c (o+1)).length) (bO d c (o+1)) r []) (J:r.length=(bO d c (o+1)).length) (R:∀a∈r,a=true) (U:y<=w2s):∃S,LiveE wr y S j f c:=by
 subst M;have A:∀a,PF g i k l m a->x<=a/\a < wr.heap.size:=fun a b=>by refine ⟨p.foot b,?_⟩;rcases b with rfl | rfl | b | b | b;exact p.blk.lt;exact p.ar.lt;exact (p.lrow.lt _ b).2;exact (p.orow.lt _ b).2;exact (p.trow.lt _ b).2
 have s:∀a,PF g i k l m a->ownL own g i k l m j a=1:=fun a b=>by unfold ownL;rw [zBv b]
 have O:ownL own g i k l m j j=3:=by unfold ownL;rw [zBu (fun e=>by have:=(A _ e).1;omega),zBv rfl]
 have P:∀a,a < w2s->ownL own g i k l m j a=own a:=fun a b=>by unfold ownL;rw [zBu (fun e=>by have:=(A _ e).1;omega),zBu oM]
 have X:d.length=f.length+1:=by rw [t.len,aT]
 refine ⟨ownL own g i k l m j,gk,g,0,_,d,bO d c (f.length+1),⟨t,⟨G,O,K.paint (fun a _ E=>P a (N a oM)) (fun a u=>?_),⟨⟨i,k,l,m,.slice none 0 0,List.range (bO d c (f.length+1)).length,bO d c (f.length+1),r, [],?_,(wT _).symm⟩,kU _ _ _,fun B v=>?_⟩⟩,List.Perm.refl _,oK oM⟩,?_,aBw t Q⟩;unfold ownL at u;by_cases C:PF g i k l m a;have:=A a C;exact ⟨by omega,this.2⟩;rw [zBu C] at u;by_cases D:a=j;subst D;exact ⟨by omega,G.lt⟩;rw [zBu D] at u;exact K.bnd a u
 · have I:∀q,q < r.length->r[q]?=some true:=fun q H=>by rw [zAa H];congr 1;exact R _ (zBi H)
   refine ⟨p.low,s _ (.inl rfl),s _ (.inr (.inl rfl)),fun a b=>s _ (.inr (.inr (.inl b))),fun a b=>s _ (.inr (.inr (.inr (.inl b)))),fun a b=>s _ (.inr (.inr (.inr (.inr b)))),fun a b=>(by cases b),List.nodup_range,J,fun q=>?_,List.nodup_nil,fun q=>?_,by have:=aBy d c (f.length+1);omega⟩
   · rw [zCf,<-J];constructor
     · intro e;exact (zAc.1 e).1
     exact I q
   · constructor
     · intro e;cases e
     · intro e;have z:=I q (zAc.1 e).1;rw [z] at e;cases e
 have z:=jG v;have E:=oK (rs:=d) (rate:=c) (n:=f.length+1) oM B v;have F:=t.lt (zAd E);rw [aT] at F;exact ⟨z.1,F⟩;obtain ⟨B,v,L⟩:=aAd (rate:=c) t;exact ⟨B,v,L⟩
theorem mB (c:Nat) (a1:Option Addr) (V av H:Nat) (W:List Sl) (x:List UInt8) (s:Nat) (bi:fY W=x) (N:x.length=s) (n:World) (aS:Rd n H 1 a1 V (W.map slV)) (aV:∀al∈W,Rd n H 1 al.A al.n (al.l.map bv)) (bg:H<=n.heap.size) (bP:V<=1000000) (aN:s<=127) (bu:1<=c) (bS:c<=64):
 Calls prog 27 #[(c:Int),.slice a1 V av] n fun q b0=>∃g own,q=.returned (.tuple #[.pointer (some ⟨g,0,none⟩),.int .i64 0])/\n.heap.size<=g/\LiveE b0 n.heap.size own g x c/\Below n.heap.size n b0:=by
 have bj:=N;have aG:=kL a1 V av H W x s bi N n aS aV bg oM oM;have bT:¬((c:Int) < 1):=oM;have bU:¬((c:Int) > 64):=oM;clear aS aV;go_enter func27,ntmps27;go_wp2_with fail;refine aG.mono ?_;clear aG;rintro q w1 ⟨am,aw,rfl,aL,aa⟩;have bl:=aa;have az:=aL.rd;obtain ⟨a2,J⟩:=hqq2 az aa;clear aL aa bl az;go_wp2_with fail;refine (sW am s aw w1.heap.size x w1 a2.out nL aN).mono ?_;rintro q f ⟨gk,d,aW,rfl,bo,G,y⟩;have aA:=a2.out.below y;have aE:=J.out.trans (y.mono J.out.size);have D:=lhd aW;obtain ⟨bW,G⟩:=G;have aP:=G.bnd;have b4:=lhd aP;clear aP;obtain ⟨b8,b2,K⟩:=hqq3 (G.low J.out.size) (aA.mono y.size) aE;clear aW G aA aE y a2 J bo;go_wp2_with fail;obtain ⟨i,aO⟩:=eqx (s+1);have br:(s:Int)+1=(i:Int):=oM;rw [br];have Q:=Bk.new f 108 #[gk,.pointer none,(c:Int),.int .i64 0];have ac:Below f.heap.size f (f.alloc (.cells #[gk,.pointer none,(c:Int),.int .i64 0] 108)):=bR.alloc nL _;obtain ⟨g,P⟩:=eqx f.heap.size;rw [P] at Q;rw [P];have L:=lhd P;generalize f.alloc (.cells #[gk,.pointer none,(c:Int),.int .i64 0] 108)=w3 at Q ac⊢;obtain ⟨M,a4,I⟩:=hqq3 Q ac aO;clear Q ac aO P;refine (vW i w3 oM).mono ?_;rintro q a0 ⟨t,a7,rfl,aQ,ab⟩;have R:=M.out.below ab M.out.lt;have bb:a0.cell? ⟨g,1,none⟩=some (.pointer none):=(R.cell 1).trans rfl;have bc:=R.frozen 1;obtain ⟨ao,b6,b3⟩:=hqq3 R aQ ab;clear R aQ ab;go_wp2_with fail;have aH:=(Keep.refl (fun k=>k=g) a0).setCell (p:=⟨g,1,none⟩) (.inl rfl) (.pointer (some t));have ah:=ao.out.set 1 (.pointer (some t));have ai:=b6.out.keep aH (fun k x ba e o=>by
  subst e;have:=(bL o ao.out).1;subst this;decide)
 have E:Below f.heap.size f (a0.setCell ⟨g,1,none⟩ (.pointer (some t))):=(a4.out.trans (b3.out.mono a4.out.size)).setCell (by rw [L.out];exact zAs _) _;have bM:=L.out;have b1:=lhd (show f.heap.size < w3.heap.size by have:=M.out.lt;omega);have bI:f.heap.size<=w3.heap.size:=a4.out.size;clear bb bc;generalize a0.setCell ⟨g,1,none⟩ (.pointer (some t))=w5 at ah ai E⊢;have aj:=jA am s aw f.heap.size x w5 (b2.out.below E) E.size oM;rw [I.out] at aj;obtain ⟨a5,aq,a3⟩:=hqq3 ah ai E;clear aH ah ai E;refine aj.mono ?_;clear aj;rintro q bD ⟨bx,an,ax,aX,rfl,aM,O⟩;obtain rfl:d=bx:=D.out.unique aX;have aJ:d.length=i:=by rw [D.out.len,aT,N,I.out]
 have a:LvInv f w3.heap.size w5.heap.size g gk t a7 i c an ax d 0 (.slice none 0 0) (.slice none 0 0) (.slice none 0 0) [] bD:=
  ⟨aq.out.below O,rfl,fun b9 _ o=>(by cases o),aM.own,a5.out.below O a5.out.lt,a3.out.trans (O.mono a3.out.size)⟩
 obtain ⟨ap,j⟩:=hqq2 aJ a;clear a aM O aX aJ a5 aq a3;go_wp2_with fail;go_loopw [8,9,36] (fun _ _ ak wr=>∃b:Nat,b<=i/\ak=.int .i64 b/\∃X Y Z z,LvInv f w3.heap.size w5.heap.size g gk t a7 i c an ax d b X Y Z z wr/\∀k∈z,k=true) (fun _ _ ak _=>i -(intOf ak).toNat)
 case atStart=>exact ⟨0,by omega,rfl,_,_,_,_,j.out,fun k o=>by cases o⟩
 case round=>
  clear j;obtain ⟨b,bN,rfl,X,Y,Z,z,a,aY⟩:=hrel;have a6:=lhd aY;clear aY;by_cases S:b < i
  · have ag:b < d.length:=(by rw [ap.out];exact S);obtain ⟨m,r⟩:∃m,d[b]?=some m:=⟨_,zAa ag⟩;have bt:m < i:=(by have:=D.out.lt (zAd r);rw [aT,N,I.out] at this;exact this);have ad:d.getD b 0=m:=(by rw [zAb,r];rfl);have aU:=Rd.of_own a.row;obtain ⟨k,bV,bX,bf,aF,U,bm⟩:=aU.get S;rw [zAf,r] at U;injection U with U;subst U bf;unfold sv at bm;have bG:=a.blk.cell 1;have bq:((m:Int)).tmod (c:Int)=((m % c:Nat):Int):=(by rw [Int.tmod_eq_emod_of_nonneg oM];simp);have bp:((m:Int))%(c:Int)=((m % c:Nat):Int):=(by simp);obtain ⟨aZ,T⟩:=eqx (m % c);rw [T] at bq bp;have u:=wP d c b;rw [ad,T] at u;obtain ⟨bE,b5,bF,j,b7⟩:=hqq5 ad r T a aF;clear ad r T a aU ag aF;by_cases aR:aZ=0
    · subst aR;rw [zBv rfl] at u;have B:=lhd u;clear u;go_wp2_with fail;have aC:=vY w3.heap.size t a7 X Y Z i i (List.range (bO d c b).length) (bO d c b) z b m wr j.out.perm (uH (kU d c b)) (fun v ae=>(jG (uI (by simpa using ae))).1) (fun v ae q=>by
       have ay:=jG (uI (C:=bO d c b) (by simpa using ae));have bd:eB (bO d c b) v=d.getD (bC (bO d c b) v) 0:=ay.2;have bH:bC (bO d c b) v < b:=ay.1;have ag:b < d.length:=(by rw [ap.out];exact S);have be:d[bC (bO d c b) v]?=d[b]?:=(by rw [b5.out,<-q,bd,zAb,zAa (show bC (bO d c b) v < d.length by omega)];rfl);have:=(List.getElem?_inj (show bC (bO d c b) v < d.length by omega) D.out.nodup).1 be
       omega) S bt j.out.len (by
        have:(bO d c b).length<=b:=(by unfold bO;rw [zBb];exact zAk (zCn _ _) (by simp));omega) (by
        have:(bO d c b).length<=b:=(by unfold bO;rw [zBb];exact zAk (zCn _ _) (by simp));simp;omega) (by have:=j.out.perm.blk.lt;have:=j.out.perm.lo.1;omega)
      refine aC.mono ?_;clear aC;rintro q bY ⟨rfl,af,bz,bA,bB,bs,bn,bJ,bK⟩;go_wp2_with fail;go_roundw
      case rel=>
       have a:=j.out;refine ⟨b+1,by omega,by go_num,bz,bA,bB,z++ [true],⟨?_,?_,?_,?_,?_,?_⟩,fun k o=>by rcases zCk.1 o with a8 | a8;exact a6.out k a8;exact List.mem_singleton.1 a8⟩;rw [B.out];simpa [List.range_succ] using bs
       · rw [B.out];simp [a.len]
       exact a.apt.next2 bn (fun b9 a9=>by injection a9 with a9;subst a9;exact b7.out);refine aB a.row fun au ba aD F=>af.bk F (fun e=>?_);rcases e with e | e | e | e | e;subst e;exact Bk.ne F a.perm.blk dC rfl;subst e;exact Bk.ne F a.perm.ar dC rfl;exact aK a.perm.lrow F dC e.symm;have y:k=au:=(by simpa [Value.ownBlock] using aD);subst y;exact a.apt _ rfl e;exact aK a.perm.trow F dC e.symm;refine af.bk a.blk (fun e=>?_);have:=a.perm.foot e;have:=M.out.lt;omega;exact a.below.trans (af.to_below a.below.size (fun au aD e=>by have:=a.perm.foot e;omega))
      case measure=>simp [intOf];omega
    · rw [zBu aR] at u;have B:=lhd u;have bQ:((aZ:Int)==0)=false:=(by simp;omega);clear u;go_wp2_with fail;go_roundw
      case rel=>have a:=j.out;exact ⟨b+1,by omega,by go_num,X,Y,Z,z,⟨by rw [B.out];exact a.perm,by rw [B.out];exact a.len,a.apt,a.row,a.blk,a.below⟩,a6.out⟩
      case measure=>simp [intOf];omega
  · obtain rfl:i=b:=oM;have j:=lhd a;clear a;go_wp2_with fail;go_ret2;have a:=j.out;have r:=a.perm;have aI:=a.len;rw [<-I.out] at r aI;obtain ⟨bw,bh⟩:=aAq (w:=n) (w2s:=f.heap.size) bj D.out bu aN (b8.out.vis (Vis.of_below a.below)) (fun k o=>(b4.out k o).2) L.out.symm b1.out a.blk r aI a6.out K.out.size;exact ⟨g,bw,rfl,by have:=K.out.size;have:=L.out;omega,bh,K.out.trans (a.below.mono K.out.size)⟩
end
section
open Go.RowKit
def iT (b:List Nat) (c a:Nat):Array Value:=((b.take a).map sv++List.replicate (c - a) (Value.int .i64 0)).toArray
theorem xM (b:List Nat) (a:Nat):iT b a 0=Array.replicate a (Value.int .i64 0):=by
 unfold iT;apply Array.ext';simp
theorem aAy (a:List Nat) (b:Nat) (c:a.length=b):iT a b b=(a.map sv).toArray:=by
 unfold iT;rw [zAg oM,Nat.sub_self];simp
theorem xN (b:List Nat) (a c:Nat) (d:b.length=a) (e:c<=a):(iT b a c).size=a:=by
 unfold iT;simp;omega
theorem aAx {b:List Nat} {c a e:Nat} (i:b.length=c) (d:b[a]?=some e):(iT b c a).setIfInBounds a (.int .i64 (e:Int))=iT b c (a+1):=by
 have j:=(zAc.1 d).1;apply Array.ext';unfold iT;rw [Array.toList_setIfInBounds,zAu,d];have f:c - a=(c -(a+1))+1:=oM;rw [f,List.replicate_succ];have g:((b.take a).map sv).length=a:=by rw [zBb,zAj];omega
 show List.set ((b.take a).map sv++(Value.int .i64 0::List.replicate (c -(a+1)) (Value.int .i64 0))) a _=_;rw [List.set_append_right _ _ oM,g,Nat.sub_self,zAy,zCj];rfl
theorem xD {d:World} {B a n:Nat} {c:TypeId} {b:List Value} (i:Bk d a c b.toArray) (j:B<=a) (f:b.length=n) (e:n<=maxLen):Made d B c 1 (some ⟨a,0,none⟩) n n b:=by
 have g:d.ownsRow B c 1 (.slice (some a) n n) n b:=⟨by omega,.inr ⟨a,n,b.toArray,rfl,j,i,zAs _,e,by simp [f],by rw [zBk,zAg (by simp [f])]⟩⟩;exact ⟨g,Rd.of_own g,zAs _,e⟩
def fZ (d:World) (f:Nat) (a:List Nat) (g:Ending) (e:World):Prop:=∃b c,g=.returned (.slice b a.length c)/\Made e d.heap.size 3 1 b a.length c (a.map sv)/\VB f d e
theorem vM (f g:Nat) (d:List Nat) (b:World) (D:WaveAt b f g d) (E:∀a6∈d,a6 < 257) (J:d.length<=1000):
 Calls prog 249 #[g] b (fZ b f d):=by
 have P:=D;obtain ⟨a2,s,m,i,a5⟩:=D;obtain ⟨c,r⟩:=eqx d.length;rw [r] at i;have a1:b.cell? ⟨g,9,none⟩=some (.int .i64 (c:Int)):=(i.cell 9).trans (bJ s c m).2.2.2.2.2.2.2.2.2.1;have C:b.cell? ⟨g,10,none⟩=some (.int .i64 m):=(i.cell 10).trans (bJ s c m).2.2.2.2.2.2.2.2.2.2;have ad:=i.lt;have a4:=iN c oM;obtain ⟨a0,U,T,e,X⟩:=hqq5 P i E r J;rw [r] at J;clear P i E r a5;unfold fZ;go_enter func249,ntmps249;go_wp2_with fail;have G:Bk (b.alloc (.cells (Array.replicate c (.int .i64 0)) 3)) b.heap.size 3 (iT d c 0):=by rw [xM];exact Bk.new _ _ _
 have M:VB f b (b.alloc (.cells (Array.replicate c (.int .i64 0)) 3)):=vR.alloc _;go_loopw [19] (fun y wr=>∃a:Nat,a<=c/\y=.int .i64 (a:Int)/\Bk wr b.heap.size 3 (iT d c a)/\VB f b wr) (fun y _=>c -(intOf y).toNat)
 case atStart=>exact ⟨0,zAp _,rfl,G,M⟩
 case round=>
  obtain ⟨a,ac,rfl,F,v⟩:=hrel;clear G M a4 a1 C;have ae:=v.1.size;obtain ⟨z,o⟩:=hqq2 F v;clear F v;by_cases u:a < c
  · obtain ⟨l,L⟩:∃l,d[a]?=some l:=⟨_,zAa (by rw [e.out];exact u)⟩;have A:=lhd L;clear L;go_wp2_with fail;refine (nD f g d a l wr (a0.out.vis o.out.1) (by rw [e.out];exact u) (zAc.1 A.out).2 T.out X.out).mono ?_;rintro a7 S ⟨rfl,w⟩;have k:=w.1.bk z.out dC dC;have x:=o.out.trans w;have ab:=k.lt;have a9:=k.frozen a;have t:=k.set a (.int .i64 (l:Int));rw [aAx e.out A.out] at t;have a3:∃Q,S.cell? ⟨b.heap.size,a,none⟩=some Q:=⟨_,(k.cell a).trans (zAq (by rw [xN d c a e.out oM];exact u))⟩;obtain ⟨Q,af⟩:=a3;have N:VB f b (S.setCell ⟨b.heap.size,a,none⟩ (.int .i64 (l:Int))):=⟨Vis.fresh x.1 (p:=⟨b.heap.size,a,none⟩) nL _,Keep.setCell x.2 (p:=⟨b.heap.size,a,none⟩) (.inr nL) _⟩;obtain ⟨V,Y⟩:=hqq2 t N;clear k t w x N;go_wp2_with fail;go_roundw
    case rel=>exact ⟨a+1,by omega,by go_num,V.out,Y.out⟩
    case measure=>simp [intOf];omega
  · obtain rfl:a=c:=oM;have q:=z.out;rw [aAy d a e.out] at q;obtain ⟨R,j⟩:=o.out.1.waveC U.out;have C:wr.cell? ⟨g,10,none⟩=some (.int .i64 R):=(j.cell 10).trans (bJ s a R).2.2.2.2.2.2.2.2.2.2;have a8:=j.frozen 10;have aa:=j.lt;have O:=o.out.trans (VB.set_wave j a2 m);have K:=Bk.ne q j dC;have H:=q.far (p:=⟨g,10,none⟩) K (.int .i64 m);have I:=xD (B:=b.heap.size) (n:=a) H nL (by rw [zBb];exact e.out) (by unfold maxLen;omega);obtain ⟨W,Z⟩:=hqq2 I O;clear q j O H I K;go_wp2_with fail;go_ret;exact ⟨_,_,by rw [e.out];rfl,by rw [e.out];exact W.out,Z.out⟩
theorem vO (d gk:Nat) (a:List Nat) (c:World) (q:WalkAt c d gk a) (s:∀t∈a,t < 257) (i:a.length<=1000):
 Calls prog 174 #[gk] c (fZ c d a):=by
 obtain ⟨p,w,e,f,r⟩:=q;have u:=e.cell 0;have b:=vM d p a c f s i;unfold fZ at b⊢;obtain ⟨x,j⟩:=eqx a.length;rw [j] at b⊢;clear e f r j i;go_enter func174,ntmps174;go_wp2_with fail;refine b.mono ?_;rintro v y ⟨l,o,rfl,g,k⟩;obtain ⟨m,n⟩:=hqq2 g k;clear b g k;go_wp2_with fail;go_ret;exact ⟨l,o,rfl,m.out,n.out⟩
theorem tI (d f gk s q u:Nat) (a:List Nat) (n:List (Nat×Nat)) (c:World) (e:LiveG c d f gk s u q a n) (t:∀v∈a,v < 257) (j:a.length<=1000):
 Calls prog 99 #[f] c (fZ c d a):=by
 obtain ⟨y,g⟩:=e.blk;have w:=g.cell 0;have b:=vO d gk a c e.walk t j;clear g;unfold fZ at b⊢;obtain ⟨z,k⟩:=eqx a.length;rw [k] at b⊢;clear e k j;go_enter func99,ntmps99;go_wp2_with fail;refine b.mono ?_;rintro x A ⟨m,r,rfl,i,l⟩;obtain ⟨o,p⟩:=hqq2 i l;clear b i l;go_wp2_with fail;go_ret;exact ⟨m,r,rfl,o.out,p.out⟩
theorem mA (f b gk k l e:Nat) (i:List Nat) (g:List (Nat×Nat)) (a:World) (c:LiveG a f b gk k e l i g):
 Calls prog 101 #[b] a fun j m=>j=.returned (.int .i64 (e:Int))/\a=m:=by
 obtain ⟨o,d⟩:=c.blk;have n:=d.cell 2;clear c d;go_enter func101,ntmps101;go_wp2_with fail;go_ret;exact ⟨rfl,rfl⟩
theorem aDj (a:List Nat):a.map sv=(fE a).map iv:=by
 unfold fE;rw [List.map_map];rfl
def eJ (d:World) (f:Nat) (a:List UInt8) (g:Ending) (e:World):Prop:=
 ∃b c,g=.returned (.tuple #[.slice b a.length c,.int .i64 0])/\Made e d.heap.size 5 1 b a.length c (a.map bv)/\VB f d e
theorem lV (n q gk N b g:Nat) (m:List UInt8) (d:List Nat) (ae:List (Nat×Nat)) (o:World) (z:LiveG o n q gk N b (m.length+1) (aS (aJ m) d) ae) (bL:∀j∈ae,d[j.1]?=some j.2) (v:IsSuf (aJ m) d) (bC:m.length<=127) (bJ:1<=b) (cZ:b<=64) (cp:m.length<=g) (cR:g<=2147483648):
 Calls prog 95 #[q,(g:Int)] o (eJ o n (dK (aS (aJ m) d) d g b m.length)):=by
 obtain ⟨bY,bq,bV,bW,bX⟩:=info_parts gG;obtain ⟨k,ap⟩:=eqx (aS (aJ m) d);have F:=iR (rs:=d) (jE m);have R:k.length=m.length+1:=by rw [<-ap,dZ,v.len,aT]
 have aI:∀e w1,VB n o w1->e*b<=m.length->Calls prog 88 #[q,.int .i64 ((e*b:Nat):Int)] w1 fun f cF=>f=.returned (.int .i64 ((d.idxOf (e*b):Nat):Int))/\VB n w1 cF:=fun e w1 w bs=>by have cr:e*b∈d:=v.mem (by rw [aT];omega);exact tH n q gk N b m d ae (d.idxOf (e*b)) (e*b) w1 (z.vis w.1) bL v bC (zAc.2 ⟨List.idxOf_lt_length_iff.2 cr,List.getElem_idxOf _⟩)
 rw [ap] at z F⊢;obtain ⟨c,bi⟩:=eqx m.length;have br:∀j,d.idxOf j<=128:=fun j=>by have:=List.idxOf_le_length (a:=j) (l:=d);rw [v.len,aT] at this;omega
 have a2:=tI n q gk N (m.length+1) b k _ o z F oM;unfold fZ at a2;rw [bi] at R aI cp bC⊢;rw [R] at a2;have bt:=z.lvw;have bH:=xK F;have bo:=kE k;rw [R] at bo;obtain ⟨W,ca,cf,cG,ai,ce,c7⟩:=hqq7 z bt aI F R bH br;have cC:¬g < c:=oM;have d9:decide (g < c)=false:=zBw cC;have cD:¬((g:Int) > 2147483648):=oM;have da:decide ((g:Int) > 2147483648)=false:=zBw cD;have d7:0 < o.heap.size:=Nat.lt_of_le_of_lt (zAp _) z.lt;clear bL z bt aI F R bH ap v bi br;unfold eJ;go_enter func95,ntmps95;go_wp2_with fail;refine (eA n q _ c o ca.out ai.out oM).mono ?_;rintro f w1 ⟨rfl,rfl⟩;go_wp2_with fail;refine a2.mono ?_;clear a2;rintro f w1 ⟨c2,cg,rfl,bu,bQ⟩;have aK:=yM c2 (c+1) cg w1.heap.size (fE k) w1 (by rw [<-aDj];exact bu.rd) nL oM;rw [ce.out] at aK;have al:=lhd bQ;clear bu bQ;go_wp2_with fail;refine aK.mono ?_;clear aK;rintro f x ⟨cw,bj⟩;obtain ⟨cI,aQ,bh,P,rfl,ay⟩:=cw.resolve_right (fun ⟨ct,_⟩=>by cases ct);injection P with P;obtain ⟨a7,Q⟩:=eqx ((dV k).length);rw [<-P,Q] at ay;rw [<-P,Q];rw [Q] at bo;have bR:VB n o x:=al.out.below bj;have K:=lhd bR;have b7:=lhd (ay.mono (B':=o.heap.size) al.out.1.size);have c8:=lhd Q;clear bj P ay Q bR al;go_wp2_with fail;go_loopw [8,9] (fun cE aN wr=>∃e p:Nat,e<=c / b+1/\aN=.int .i64 ((e*b:Nat):Int)/\wr.ownsRow x.heap.size 5 1 cE p ((sD d b e).map bv)/\VB n x wr) (fun _ aN _=>(c+65 -(intOf aN).toNat))
 case atStart=>exact ⟨0,0,zAp _,by simp,World.ownsRow_nil _ _ _ _,VisK.refl _ _⟩
 case round=>
  obtain ⟨e,p,bs,rfl,G,w⟩:=hrel;have cX:p<=1500:=by have ck:=G.1;have cJ:=kT d b e;have cK:c / b<=c:=Nat.div_le_self _ _;simp at ck;omega
  obtain ⟨V,aD⟩:=eqx (e*b);have T:=K.out.trans w;have a3:=eA n q _ c wr (W.out.vis T.1).lvw ai.out oM;have d4:=T.1.size;have d5:=w.1.size;by_cases F:V<=c
  · have a5:=cf.out e wr T oM;have aC:=mF d b e;obtain ⟨j,aM⟩:=eqx (d.idxOf (e*b));have d8:j<=128:=(by rw [<-aM];exact c7.out _);have cs:=aDA bJ (by omega:e*b<=c);have cv:(e+1)*b=V+b:=(by rw [Nat.add_mul,aD,Nat.one_mul]);rw [aM] at a5 aC;rw [aD] at a5;rw [aD];obtain ⟨a8,ax⟩:=eqx ((aW j).length);have cQ:a8<=11:=(by rw [<-ax];exact cB j);have cW:V<=127:=oM;obtain ⟨cc,c9,u,J⟩:=hqq4 aC ax w G;clear aC ax w G T aM;go_wp2_with fail;refine a3.mono ?_;clear a3;rintro f H ⟨rfl,rfl⟩;go_wp2_with fail;refine a5.mono ?_;clear a5;rintro f H ⟨rfl,a6⟩;have bF:=a6.1.own J.out dC dC;have bd:=lhd bF;have bU:=u.out.trans a6;have d6:=a6.1.size;have bf:=lhd bU;clear bF a6 bU J u;go_wp2_with fail;refine (pN _ _ _ _ [j] _ (aW j) a8 (kG j) c9.out (Rd.made _ _ 1 1 _ rfl) nL (by simp;omega) oM).mono ?_;rintro f i ⟨I,M,rfl,S,O⟩;have r:=((Below.refl H.heap.size H).alloc nL (.cells #[.int .u64 (j:Int)] 188)).trans (O.mono (by simp));have A:i.ownsRow x.heap.size 5 1 u8 p ((sD d b e).map bv):=aH (bd.out) r;have bN:=r.size;obtain ⟨X,ak⟩:=hqq2 S.rd (eP (aW j));have bS:=bf.out.below r;have bO:x.heap.size<=i.heap.size:=oM;have L:=lhd bS;clear S O r bd bf bS;go_wp2_with (at_builtin;refine aP _ rfl (.tmp 41) (.tmp 47) _ rfl x.heap.size 5 bY (.int .u8 0) 1 1 underlying22 bq bV bW bX rfl dC u8 p _ rfl A i.heap.size I a8 M _ rfl X.out ak.out (by unfold maxLen;omega) oM bO ?_;intro dd aO bG bp cm);have s:=aL (Below.refl x.heap.size i) A bp bO;have bT:=VB.grow L.out s;obtain ⟨bg,cd⟩:=hqq2 bT bG;clear A bG bp cm s bT L;have bK:=mA n q gk N _ b k _ aO (W.out.vis (K.out.trans bg.out).1);go_wp2_with fail;refine bK.mono ?_;clear bK;rintro f c0 ⟨rfl,rfl⟩;have cN:IntKind.i64.wrap ((V:Int)+(b:Int))=((V+b:Nat):Int):=(by rw [IntKind.wrap_i64];omega);go_wp2_with fail;go_roundw
    case rel=>
        refine ⟨e+1,p+a8,cs,?_,?_,bg.out⟩
        · rw [cv]
          first | rfl | exact cS oM
        rw [cc.out,zAy];exact cd.out
    case measure=>simp [intOf];omega
  · go_wp2_with fail;refine a3.mono ?_;clear a3;rintro f H ⟨rfl,rfl⟩;have co:=aDD bJ bs oM;subst co;rw [<-nQ] at G;obtain ⟨J,u⟩:=hqq2 G w;clear G w T;go_wp2_with fail;refine (mA n q gk N _ b k _ wr (W.out.vis (K.out.trans u.out).1)).mono ?_;rintro f H ⟨rfl,rfl⟩;go_wp2_with fail;refine (eA n q _ c wr (W.out.vis (K.out.trans u.out).1).lvw ai.out oM).mono ?_;rintro f H ⟨rfl,rfl⟩;go_wp2_with fail;obtain ⟨U,aw⟩:=eqx ((cH [g,b,c]).length);have cP:U<=33:=(by rw [<-aw];have:=oX [g,b,c];simpa using this);have b6:=lhd aw;clear aw;refine (pN _ _ _ _ [g,b,c] _ (cH [g,b,c]) U rfl b6.out (Rd.made _ _ 1 3 _ rfl) nL (by simp;omega) oM).mono ?_;rintro f i ⟨I,M,rfl,S,O⟩;have r:=((Below.refl wr.heap.size wr).alloc nL (.cells #[.int .u64 (g:Int),.int .u64 (b:Int),.int .u64 (c:Int)] 188)).trans (O.mono (by simp));have bN:=r.size;have A:i.ownsRow x.heap.size 5 1 u8 p ((oI d b c).map bv):=aH (J.out) r;have bE:i.ownsRow o.heap.size 5 1 (.slice aQ a7 bh) a7 ((dV k).map bv):=aH (u.out.1.own b7.out.own dC dC) r;obtain ⟨c5,cj,rfl,bx⟩:=aF A;obtain ⟨b8,be,X,L⟩:=hqq4 bx.rd (Rd.of_own bE) S.rd ((K.out.trans u.out).below r);have bI:(oI d b c).length=p:=(by have:=A.1;simpa using this);clear S O r A bE bx J b7 u;have cA:=zU i;go_wp2_with fail;have a4:=aCM i 5 #[.int .u8 83,.int .u8 75,.int .u8 82,.int .u8 49] (4,5) 4 rfl;obtain ⟨C,a1⟩:=eqx i.heap.size;rw [a1] at a4;have s:Below i.heap.size i (i.alloc (.cells #[.int .u8 83,.int .u8 75,.int .u8 82,.int .u8 49] 5 (4,5))):=(Below.refl i.heap.size i).alloc nL _;have cy:(i.alloc (.cells #[.int .u8 83,.int .u8 75,.int .u8 82,.int .u8 49] 5 (4,5))).heap.size=C+1:=(by simp [a1]);have Y:=be.out.below s;have Z:=b8.out.below s;have a0:=X.out.below s;have aq:=L.out.below s;rw [a1] at Y Z a0 s bN⊢;generalize i.alloc (.cells #[.int .u8 83,.int .u8 75,.int .u8 82,.int .u8 49] 5 (4,5))=aO at a4 s cy Y Z a0 aq⊢;obtain ⟨ba,aR,aU,aX,b4⟩:=hqq5 a4 Y Z a0 aq;clear a4 Y Z a0 aq s be b8 X L a1 cA;have cM:c / b<=c:=Nat.div_le_self _ _;have cx:=kT d b (c / b+1);rw [<-nQ,bI] at cx;have cY:p<=2000:=oM;obtain ⟨a9,az⟩:=eqx ((cL (dV k)).length);obtain ⟨aa,aA⟩:=eqx ((cL (oI d b c)).length);have cT:a9<=3000:=(by rw [<-az,fL,c8.out];have:=cB a7;omega);have cU:aa<=3000:=(by rw [<-aA,fL,bI];have:=cB p;omega);have aE:=lW aQ a7 bh C (dV k) aO aR.out oM oM;rw [az] at aE;refine aE.mono ?_;clear aE;rintro f c0 ⟨ab,am,rfl,bz,D⟩;have d0:=D.size;obtain ⟨bb,aV,aY,b0,b5⟩:=hqq5 (ba.out.below (D.mono oM)) (aU.out.below (D.mono oM)) (aX.out.below (D.mono oM)) bz.rd (b4.out.below D);clear D bz ba aR aU aX b4;go_wp2_with fail;have aG:=lW c5 p cj C (oI d b c) c0 aV.out oM oM;rw [aA] at aG;refine aG.mono ?_;clear aG;rintro f t ⟨ac,an,rfl,bA,E⟩;have d1:=E.size;obtain ⟨bc,aZ,b1,b2,af⟩:=hqq5 (bb.out.below (E.mono oM)) (aY.out.below (E.mono oM)) (b0.out.below E) bA.rd (b5.out.below E);clear E bA bb aV aY b0 b5;go_wp2_with fail;obtain ⟨y,av⟩:=eqx (jS k d g b c);obtain ⟨B,aB⟩:=eqx y.length;have cV:B<=10000:=by rw [<-aB,<-av];unfold jS;rw [zAi,zAi,zAi,b6.out,az,aA];have:eF.length=4:=rfl;omega
    have bn:=kL (some ⟨t.heap.size,0,none⟩) 4 4 (t.heap.size+1) [⟨some ⟨C,0,none⟩,4,4,eF⟩,⟨I,U,M,cH [g,b,c]⟩,⟨ab,a9,am,cL (dV k)⟩,⟨ac,aa,an,cL (oI d b c)⟩] y B (by rw [<-av];unfold jS;simp [fY]) aB (t.alloc (.cells #[.slice (some C) 4 4,.slice I U M,.slice ab a9 am,.slice ac aa an] 22)) ((Rd.made t _ 1 4 _ rfl).mono (by simp)) (by
        intro db v;simp at v;rcases v with rfl | rfl | rfl | rfl;exact ((bc.out.mono (B':=t.heap.size) oM).alloc nL _).mono oM;exact ((aZ.out.mono (B':=t.heap.size) oM).alloc nL _).mono oM;exact ((b1.out.mono (B':=t.heap.size) oM).alloc nL _).mono oM
        · exact (b2.out.alloc nL _).mono oM) (by simp) oM oM
    refine bn.mono ?_;clear bn;rintro f c1 ⟨ad,ao,rfl,bB,bl⟩;have bk:=((Below.refl t.heap.size t).alloc nL (.cells #[.slice (some C) 4 4,.slice I U M,.slice ab a9 am,.slice ac aa an] 22)).trans (bl.mono (by simp));have ag:=lhd (af.out.below bk);have d2:=ag.out.1.size;have aj:=lhd (bB.mono (B':=o.heap.size) (by simp;have:=af.out.1.size;omega));clear bB bl bk af bc aZ b1 b2;go_wp2_with fail;refine (mT ad _ B ao _ y _ ((aj.out.rd.alloc oM _).mono (by simp)) oM (Rd.made _ _ 1 1 _ rfl)).mono ?_;rintro f df ⟨rfl,bm⟩;have au:=((Below.refl c1.heap.size c1).alloc nL (.cells #[.slice ad B ao] 22)).trans (bm.mono (by simp));obtain ⟨b9,ah⟩:=hqq2 (aj.out.below au) (ag.out.below au);have d3:=ah.out.1.size;clear bm au aj ag;go_wp2_with fail;refine (rN (iW y) _).mono ?_;rintro f bZ ⟨c3,ch,rfl,bw,ar⟩;obtain ⟨cb,b3⟩:=hqq2 (b9.out.below ar) (ah.out.below ar);have bM:=b3.out.1.size;have c6:=lhd bw.rd;have bD:=cb.out.own;have ak:=lhd (eP (lM (iW y)));clear bw ar b9 ah;go_wp2_with (at_builtin;refine aP _ rfl (.tmp 68) (.tmp 72) _ rfl o.heap.size 5 bY (.int .u8 0) 1 1 underlying22 bq bV bW bX rfl dC (.slice ad B ao) B _ rfl bD bZ.heap.size c3 4 ch _ rfl c6.out ak.out (by unfold maxLen;omega) oM bM ?_;intro dc de cu cn cO);have cl:=VB.grow b3.out (aL (Below.refl o.heap.size bZ) bD cn bM);obtain ⟨c4,ci,rfl,cq⟩:=aF cu;go_ret2;have bP:dK k d g b c=y++lM (iW y):=(by unfold dK;rw [av]);have cz:(dK k d g b c).length=B+4:=(by rw [bP,zAi,aB,lL]);rw [cz,bP,zAy];exact ⟨c4,ci,rfl,cq,cl⟩
def lI (b c a:Nat):Array Value:=#[.int .i64 (b:Int),.int .i64 (c:Int),.int .i64 (a:Int)]
theorem uM {P:Program} {fn:Func} {a p b:Tmp} {ty:TypeId} (k:fn.results=#[.tmp a,.cell p ty,.tmp b]) (c:Array Value) (f:World) (e:Nat) (j:TypeId) (d:Array Value) (i:Nat×Nat) (g:TypeDesc)
 (o:c.getD p undef=.pointer (some e)) (m:f.heap[e]?=some (.cells d j i))
 (r:P.underlying ty=some g) (l:(match g with | .struct _ | .array _ _=>true | _=>false)=true) (n:(P.info? ty).map (·.size)=some d.size):
 (results fn c).run P f=.ok (.tuple #[c.getD a undef,.agg d,c.getD b undef]) f:=by
 have q:c[p]?.getD undef=.pointer (some e):=by simpa using o
 simp [results,k,q,asAddr,run_loadVar_row f e j ty d i g m r l n]
def pP (a:World) (d:List UInt8) (c g:Nat) (f:Ending) (e:World):Prop:=
 ∃b,f=.returned (.tuple #[.pointer (some ⟨b,0,none⟩),.agg (lI g c d.length),.int .i64 0])/\(∃own,LiveE e a.heap.size own b d c)/\VB a.heap.size a e
theorem aC8 {f:World} {b:Nat} {d e:TypeId} {g i:Array Value} (c:Bk f b d g) (a:Bk f b e i):d=e:=by
 unfold Bk at c a;rw [c] at a;injection a with a;injection a with _ ht
theorem aBS {e c:World} {i:Array Value} {k d g l j:Nat} {n:List UInt8} (t:i.getD 3 undef=.pointer (some k)) (q:i.getD 2 undef=.pointer (some ⟨d,0,none⟩)) (r:i.getD 4 undef=.int .i64 0) (s:Bk c k 139 (lI l g j))
 (u:∃own,LiveE c e.heap.size own d n g) (v:VB e.heap.size e c):
 bodyPost prog f96 (fun o c=>∃d,o=.returned (.tuple #[.pointer (some ⟨d,0,none⟩),.agg (lI l g j),.int .i64 0])/\(∃own,LiveE c e.heap.size own d n g)/\VB e.heap.size e c) .ret ⟨i, []⟩ c:=by
 have m:=uM (P:=prog) (fn:=f96) (a:=2) (p:=3) (b:=4) (ty:=139) rfl i c k 139 (lI l g j) (0,0) _ t s underlying139 rfl kR;rw [q,r] at m;exact bodyPost_ret m rfl ⟨d,rfl,u,v⟩
theorem tB (j:Option Addr) (b w e a:Nat) (l:List UInt8) (m:List Nat) (i:World) (I:IsSuf (aJ l) m) (ci:l.length<=127) (cm:1<=a) (cn:a<=64) (d8:l.length<=e) (d9:e<=2147483648)
 (H:Rd i w 1 j (dK (aS (aJ l) m) m e a l.length).length ((dK (aS (aJ l) m) m e a l.length).map bv)) (L:w<=i.heap.size) (aZ:(dK (aS (aJ l) m) m e a l.length).length<=b) (Q:b<=maxLen):
 Calls prog 96 #[.slice j (dK (aS (aJ l) m) m e a l.length).length b] i (pP i l a e):=by
 obtain ⟨o,N⟩:=eqx (aS (aJ l) m);rw [N] at H aZ⊢;have bc:=iR (rs:=m) (jE l);have bb:o.length=l.length+1:=by rw [<-N,dZ,I.len,aT]
 rw [N] at bc;obtain ⟨c,aU⟩:=eqx l.length;unfold pP;rw [aU] at H aZ bb d8 ci⊢;obtain ⟨q,ac⟩:=eqx (jS o m e a c);obtain ⟨cw,cx,cy,cz,f,t,G⟩:=SnAt.of o m e a c;rw [ac] at t G;have R:dK o m e a c=q++lM (iW q):=by unfold dK;rw [ac]
 have bq:(dK o m e a c).length=f+4:=by rw [R,zAi,G,lL]
 rw [bq] at H aZ⊢;have dO:4<=f:=by have:=t.h1;have:=t.h2;have:=t.h3;have:=t.h4;have:=t.h5;omega
 have dG:¬(f+4 < 8):=oM;have dP:f<=10000:=by have a5:=t.h1;have aO:=t.h2;have a6:=t.h3;have d1:=t.h4;have d2:=t.h5;have cW:=cB e;have dx:=cB a;have dy:=cB c;have dz:=cB (dV o).length;have dA:=cB (oI m a c).length;have dB:=kE o;have cX:=kT m a (c / a+1);have dC:c / a<=c:=Nat.div_le_self _ _;rw [<-nQ] at cX;rw [fL] at d1 d2;omega
 have bn:=(H.cut_hi0 (k:=f) (cap:=b) oM);have c5:=zE q;have cv:((dK o m e a c).map bv).take (f*1)=q.map bv:=by rw [<-List.map_take,R,zBk,List.take_left' G]
 rw [cv] at bn;have ai:=aCU q [] (iW q) c5;rw [List.append_nil,<-R,G] at ai;have b0:∀(j W:Option Addr) (T b aM:Nat) (i:World),Rd i i.heap.size 1 j T (q.map bv)->T<=1099511627776->Rd i i.heap.size 1 W 1 [.slice j T b]->Calls prog 129 #[.slice W 1 aM] i fun n ds=>n=.returned (.int .u32 ((iW q:Nat):Int))/\Below i.heap.size i ds:=fun j W T b aM i a5 aO a6=>mT j W T b aM q i a5 aO a6;obtain ⟨dr,cq⟩:=eqx (iW q);rw [cq] at ai b0;have bB:=lhd b0;clear b0;obtain ⟨bP,bX,D,cN,a2,Z,x,bY,dv⟩:=hqq9 H bn t bc bb N aU I R;obtain ⟨dt,cP,cO,cQ⟩:=hqq4 ac G ai bq;clear H bn t bc bb N aU I R ac G cv ai bq c5 cq;have dU:=hQ (P:=prog) 22 5 1 underlying22 (fun i=>by kernel_rfl) j (f+4) b f oM;have cW:IntKind.i64.wrap (((f+4:Nat):Int) - 4)=(f:Int):=by rw [IntKind.wrap_i64];omega
 go_enter func96,ntmps96;go_wp2_with fail;obtain ⟨d,ae⟩:=eqx i.heap.size;have b5:Bk (i.alloc (.cells #[.int .i64 0,.int .i64 0,.int .i64 0] 139)) d 139 #[.int .i64 0,.int .i64 0,.int .i64 0]:=ae ▸ Bk.new _ _ _;have ad:Below i.heap.size i (i.alloc (.cells #[.int .i64 0,.int .i64 0,.int .i64 0] 139)):=bR.alloc nL _;have bp:(i.alloc (.cells #[.int .i64 0,.int .i64 0,.int .i64 0] 139)).heap.size=d+1:=by simp [ae]
 rw [ae] at ad L⊢;generalize i.alloc (.cells #[.int .i64 0,.int .i64 0,.int .i64 0] 139)=W0 at b5 ad bp⊢;obtain ⟨aG,a0⟩:=hqq2 b5 ad;clear b5 ad;refine (aD4 j (f+4) b (dK o m e a c) (f:Int) w W0 dr 0 cO.out (bP.out.below (a0.out.mono L)) (by unfold maxLen;omega)).mono ?_;rintro n w1 ⟨rfl,rfl⟩;go_wp2_with fail;have c2:=bX.out.below (a0.out.mono L);refine (bB.out (cC j b 0 1) _ f b _ _ (((c2.mono (by omega:w<=W0.heap.size)).alloc nL _).mono (by simp)) oM (Rd.made' _ _ 1 1 _ _ rfl bp.symm)).mono ?_;rintro n ap ⟨rfl,c3⟩;have a8:=((Below.refl W0.heap.size W0).alloc nL (.cells #[.slice (cC j b 0 1) f b] 22)).trans (c3.mono (by simp));have de:=a8.size;obtain ⟨bz,bD⟩:=hqq2 (a0.out.trans (a8.mono oM)) (aG.out.below a8 aG.out.lt);clear c3 a8 a0 aG c2;go_wp2_with fail;have co:∀z,Below d i z->Rd z w 1 (cC j b 0 1) f (q.map bv):=fun z d0=>bX.out.below (d0.mono L);have A:=lhd co;obtain ⟨r,b4⟩:=eqx ap.heap.size;have aj:Bk (ap.alloc (.cells #[.slice (cC j b 0 1) f b,.int .i64 4,.bool false] 194)) r 194 (aBG (cC j b 0 1) f b 4):=b4 ▸ Bk.new _ _ _;have aX:=bz.out.alloc oM (.cells #[.slice (cC j b 0 1) f b,.int .i64 4,.bool false] 194);have b6:=bD.out.alloc (.cells #[.slice (cC j b 0 1) f b,.int .i64 4,.bool false] 194);have br:r < (ap.alloc (.cells #[.slice (cC j b 0 1) f b,.int .i64 4,.bool false] 194)).heap.size:=aj.lt;have dN:d < r:=oM;rw [b4];generalize ap.alloc (.cells #[.slice (cC j b 0 1) f b,.int .i64 4,.bool false] 194)=W2 at aj aX b6 br⊢;obtain ⟨bQ,aB,bE⟩:=hqq3 aj aX b6;have cc:∀(z bt:World),Below d i z->r < z.heap.size->Keep (fun s=>s=r) z bt->Below d i bt:=fun z bt a5 aO a6=>a5.trans (a6.to_below oM (fun s a7 n=>by omega));have E:=lhd cc;clear co b4 aj aX b6 cc bz bD bB de bp;have F:f<=b:=oM;refine (iI r (cC j b 0 1) f b w 4 cw e 2147483648 q W2 bQ.out (A.out _ aB.out) F Q (D.out.n1 oM) oM oM).mono ?_;rintro n cE ⟨rfl,bi,b8⟩;obtain ⟨bS,aC,bF⟩:=hqq3 bi (E.out _ _ aB.out br b8) (b8.bk bE.out oM);have cr:r < cE.heap.size:=bi.lt;clear bi b8 bQ aB bE br;go_wp2_with fail;refine (iI r (cC j b 0 1) f b w cw cx a 64 q cE bS.out (A.out _ aC.out) F Q (D.out.n2 oM) oM oM).mono ?_;rintro n cF ⟨rfl,bj,b9⟩;obtain ⟨bT,aD,bG⟩:=hqq3 bj (E.out _ _ aC.out cr b9) (b9.bk bF.out oM);have cs:r < cF.heap.size:=bj.lt;clear bj b9 bS aC bF cr;go_wp2_with fail;refine (iI r (cC j b 0 1) f b w cx cy c 2147483648 q cF bT.out (A.out _ aD.out) F Q (D.out.n3 oM) oM oM).mono ?_;rintro n aq ⟨rfl,bl,ba⟩;obtain ⟨bU,bA,bH⟩:=hqq3 bl (E.out _ _ aD.out cs ba) (ba.bk bG.out oM);have dh:r < aq.heap.size:=bl.lt;clear bl ba bT aD bG cs;go_wp2_with fail;obtain ⟨gH,b2⟩:=eqx aq.heap.size;have aP:Bk (aq.alloc (.cells #[(e:Int),(a:Int),(c:Int)] 139)) gH 139 (lI e a c):=b2 ▸ Bk.new _ _ _;have aY:=bA.out.alloc oM (.cells #[(e:Int),(a:Int),(c:Int)] 139);have b7:=bH.out.alloc (.cells #[(e:Int),(a:Int),(c:Int)] 139);have C:=bU.out.alloc (.cells #[(e:Int),(a:Int),(c:Int)] 139);have dJ:r < gH:=oM;rw [b2];generalize aq.alloc (.cells #[(e:Int),(a:Int),(c:Int)] 139)=W5 at aP aY b7 C⊢;have ct:r < W5.heap.size:=C.lt;obtain ⟨bu,aE,bI,bW⟩:=hqq4 aP aY b7 C;clear b2 aP aY b7 C bA bH bU dh;obtain ⟨an,ca⟩:=eqx ((dV o).length);obtain ⟨dj,cb⟩:=eqx ((oI m a c).length);have d5:=kE o;have d7:=kT m a (c / a+1);have d6:=aCI m a (c / a+1);have dH:c / a<=c:=Nat.div_le_self _ _;rw [<-nQ,cb] at d7 d6;rw [ca,a2.out] at d5;obtain ⟨U,bf,ck,bg,da⟩:=D.out.f1 oM;obtain ⟨dm,bh,db,cl,dc⟩:=D.out.f2 oM;rw [ca] at bf ck bg;rw [cb] at bh db cl;rw [cP.out] at da dc;refine (lY r (cC j b 0 1) f b w cy U an cz q W5 bW.out (A.out _ aE.out) F Q oM bf ck oM).mono ?_;rintro n cG ⟨rfl,bm,ag⟩;obtain ⟨bV,aF,bJ,bx⟩:=hqq4 bm (E.out _ _ aE.out ct ag) (ag.bk bI.out oM) (ag.bk bu.out oM);have cu:r < cG.heap.size:=bm.lt;clear bm ag bW aE bI bu ct;go_wp2_with fail;refine (lY r (cC j b 0 1) f b w cz dm dj f q cG bV.out (A.out _ aF.out) F Q oM bh oM oM).mono ?_;rintro n J ⟨rfl,C,ah⟩;have cU:J.cell? ⟨r,2,none⟩=some (.bool false):=C.cell 2;obtain ⟨K,aK⟩:=hqq2 (E.out _ _ aF.out cu ah) (ah.bk bJ.out oM);have M:=ah.bk bx.out oM;have Y:=lhd M;have a3:J.cell? gH=some (.int .i64 (e:Int)):=M.cell 0;have a4:J.cell? ⟨gH,1,none⟩=some (.int .i64 (a:Int)):=M.cell 1;have bZ:J.cell? ⟨gH,2,none⟩=some (.int .i64 (c:Int)):=M.cell 2;clear C ah bV aF bJ bx cu M;have cA:¬((a:Int) < 1):=oM;have dn:decide ((a:Int) < 1)=false:=zBw cA;have cD:¬((c:Int) > (e:Int)):=oM;have dp:decide ((c:Int) > (e:Int))=false:=zBw cD;have dq:decide (e < c)=false:=zBw oM;go_wp2_with fail;have bo:=((A.out _ K.out).cut (k:=U) (cap:=b) oM F).cut_hi (k:=an) oM;have c7:((q.map bv).drop (U*1)).take (an*1)=(dV o).map bv:=by rw [zBk,zBk,<-List.map_drop,<-List.map_take,bg]
 rw [c7] at bo;have b3:=sM (fE o) (tX cN.out) (by rw [jD,a2.out];omega) ((c:Int)+1) (by rw [jD,a2.out];omega) [];rw [List.append_nil,zBv rfl] at b3;refine (aA3 (cC (cC j b 0 1) b U 1) an (b - U) w (dV o) ((c:Int)+1) J (fE o) (c+1) 0 b3 (by rw [jD,a2.out]) bo (by have:=K.out.size;omega) oM oM oM oM).mono ?_;rintro n cH ⟨cJ,cT,rfl,cg,a9⟩;have bd:=cg.rd;rw [<-aDj] at bd;have aW:=pM cJ cT cH.heap.size l m cH bY.out (by rw [Z.out,x.out];exact bd) nL (by rw [x.out];omega);rw [x.out] at aW;have d3:gH < J.heap.size:=Y.out.lt;have ax:=lhd (K.out.trans (a9.mono (by have:=K.out.size;omega)));obtain ⟨aH,au⟩:=hqq2 (aK.out.below a9 aK.out.lt) (Y.out.below a9 Y.out.lt);clear cg a9 bd b3 c7 bo a3 a4 bZ cU cA dn cD dp dq bf bh bg cl Y aK K A E D d3;go_wp2_with fail;refine aW.mono ?_;clear aW;rintro n v ⟨ar,aL,rfl,ch,aa⟩;have aQ:=au.out.below aa au.out.lt;have ay:=lhd (ax.out.trans (aa.mono (by have:=ax.out.size;omega)));obtain ⟨a1,X,bO⟩:=hqq3 (aH.out.below aa aH.out.lt) aQ ch.rd;have a4:v.cell? ⟨gH,1,none⟩=some (.int .i64 (a:Int)):=aQ.cell 1;clear aa ch aQ ax aH au;go_wp2_with fail
 have cj:=mB a (some ⟨v.heap.size,0,none⟩) 1 1 (v.heap.size+1) [(⟨ar,c,aL,l⟩:Sl)] l c (by simp [fY]) x.out (v.alloc (.cells #[.slice ar c aL] 22)) ((Rd.made v _ 1 1 _ rfl).mono (by simp)) (by
  intro dX I;simp at I;subst I;exact (bO.out.alloc nL _).mono oM) (by simp) oM ci cm cn
 refine cj.mono ?_;clear cj;rintro n ao ⟨cY,dk,rfl,d4,B,aV⟩;have bN:=lhd B;obtain ⟨gk,cZ,dW,dw,bs,dl,S,_,_⟩:=B;have ak:=S.suf;have cp:=S.right;have dd:=ak.unique bY.out;subst dd;have B:=S.live.g S.tal;rw [Z.out,x.out] at B;have ab:=((Below.refl v.heap.size v).alloc nL (.cells #[.slice ar c aL] 22)).trans (aV.mono (by simp));have aR:=X.out.below ab X.out.lt;have az:=lhd (ay.out.trans (ab.mono (by have:=ay.out.size;omega)));obtain ⟨bC,bw⟩:=hqq2 (a1.out.below ab a1.out.lt) aR;have a3:ao.cell? gH=some (.int .i64 (e:Int)):=aR.cell 0;have dM:gH < v.heap.size:=X.out.lt;have dL:d < v.heap.size:=a1.out.lt;have bK:=bN;have du:=lhd ak;rw [World.size_alloc] at B;have df:v.heap.size+1<=ao.heap.size:=by have:=aV.size;simpa using this
 have al:=lV (v.heap.size+1) cY gk cZ a e l bs dl ao (by rw [Z.out,x.out];exact B) cp ak (by rw [x.out];omega) cm cn (by rw [x.out];omega) d9;unfold eJ at al;rw [Z.out,x.out,cQ.out] at al;have dI:=az.out.size;clear B ak S cp bN aV ab aR a4 ay a1 X bO d4;go_wp2_with fail;refine al.mono ?_;clear al;rintro n V ⟨cI,cS,rfl,cf,am⟩;have af:Below (v.heap.size+1) ao V:=am.2.to_below df (fun s a7 n=>by omega);have dQ:=am.1.size;have c0:Bk V gH 139 (lI e a c):=bw.out.below af oM;have c8:Bk V d 139 #[.int .i64 0,.int .i64 0,.int .i64 0]:=bC.out.below af oM;have aA:=lhd (az.out.trans (af.mono oM));have b1:=pQ cI j (f+4) (f+4) cS b V.heap.size (dK o bs e a c) (dK o bs e a c) V cf.rd ((bP.out.below (aA.out.mono L)).mono oM);rw [beq_self_eq_true] at b1;obtain ⟨av,aI,bL⟩:=hqq3 c0 c8 (bK.out.vis am.1);clear cf am af c0 c8 az bC bw a3 bK;go_wp2_with fail;refine b1.mono ?_;clear b1;rintro n u ⟨rfl,O⟩;have c1:=av.out.below O av.out.lt;have c9:=aI.out.below O aI.out.lt;obtain ⟨cL,bM,aw,y⟩:=hqq4 (aA.out.trans (O.mono oM)) (bL.out.vis (Vis.of_below O)) c1 c9;clear O c1 c9 aA av aI bL;go_wp2_with fail;have a3:u.cell? gH=some (.int .i64 (e:Int)):=aw.out.cell 0;have a4:u.cell? ⟨gH,1,none⟩=some (.int .i64 (a:Int)):=aw.out.cell 1;have bZ:u.cell? ⟨gH,2,none⟩=some (.int .i64 (c:Int)):=aw.out.cell 2;have dR:u.cell? d=some (.int .i64 0):=y.out.cell 0;have dS:u.cell? ⟨d,1,none⟩=some (.int .i64 0):=y.out.cell 1;have dT:u.cell? ⟨d,2,none⟩=some (.int .i64 0):=y.out.cell 2;have dD:=y.out.frozen 0;have dE:=y.out.frozen 1;have dF:=y.out.frozen 2;have c6:Bk ((((u.setCell d (.int .i64 (e:Int))).setCell ⟨d,1,none⟩ (.int .i64 (a:Int))).setCell ⟨d,2,none⟩ (.int .i64 (c:Int))).drew) d 139 (lI e a c):=by have:=(((y.out.set 0 (.int .i64 (e:Int))).set 1 (.int .i64 (a:Int))).set 2 (.int .i64 (c:Int))).drew;simpa [lI] using this
 have c4:Below d i ((((u.setCell d (.int .i64 (e:Int))).setCell ⟨d,1,none⟩ (.int .i64 (a:Int))).setCell ⟨d,2,none⟩ (.int .i64 (c:Int))).drew):=
  (((cL.out.setCell (p:=d) nL _).setCell (p:=⟨d,1,none⟩) nL _).setCell (p:=⟨d,2,none⟩) nL _).drew
 have dg:∀s l aN,l≠139->Bk u s l aN->Bk ((((u.setCell d (.int .i64 (e:Int))).setCell ⟨d,1,none⟩ (.int .i64 (a:Int))).setCell ⟨d,2,none⟩ (.int .i64 (c:Int))).drew) s l aN:=fun s l aN di a7=>by
  have be:s≠d:=fun n=>by subst n;exact di (aC8 a7 y.out)
  exact (((a7.far (p:=d) be _).far (p:=⟨d,1,none⟩) be _).far (p:=⟨d,2,none⟩) be _).drew
 have cd:Keep (fun s=>s=d) u ((((u.setCell d (.int .i64 (e:Int))).setCell ⟨d,1,none⟩ (.int .i64 (a:Int))).setCell ⟨d,2,none⟩ (.int .i64 (c:Int))).drew):=
  (((((Keep.refl (fun s=>s=d) u).setCell (p:=d) (.inl rfl) _).setCell (p:=⟨d,1,none⟩) (.inl rfl) _).setCell (p:=⟨d,2,none⟩) (.inl rfl) _)).drew
 have ce:=(bM.out.far0 cd fun s n=>by
  have cV:s=d:=n;subst cV;by_cases b:dk s=0;exact b
  · have:=(bM.out.bnd s b).1;rw [World.size_alloc] at this;omega).low (B':=d) (by rw [World.size_alloc];omega)
 obtain ⟨cM,cK,cR⟩:=hqq3 c6 c4 ce;clear c6 c4 dg ce cd
 go_region
 go_wp2_with fail;subst ae;refine aBS rfl rfl rfl cM.out ⟨_,cR.out⟩ (VisK.of_below cK.out)
end
end Go.Proofs.YtihaijbgmjdhgaaGreatDoor
