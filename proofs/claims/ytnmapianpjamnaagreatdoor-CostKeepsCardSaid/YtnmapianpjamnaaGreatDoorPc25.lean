/- Lemmas of the walk. Conditions: each its own. -/
import Derived.Test.YtnmapianpjamnaaGreatDoorPc24
import Derived.Test.YtnmapianpjamnaaGreatDoorProg
import Derived.Test.YtnmapianpjamnaaGreatDoorShl
import Derived.Test.YtnmapianpjamnaaGreatDoorShi
set_option linter.all false
set_option maxRecDepth 100000
set_option maxHeartbeats 3000000
open Go.Proofs.Tryz
namespace Go.Proofs.YtnmapianpjamnaaGreatDoor
section
open Go.RowKit Go.Shelf
def mT (d:List (Nat×Nat)) (f:Nat):∃a,dE d f a:=by
 have j:∀c,∃a,dE (d.take c) f a:=by
  intro c
  induction c with
  | zero=>exact ⟨-1,.inl ⟨rfl,fun e g=>by simp at g⟩⟩
  | succ c i=>
    obtain ⟨a,b⟩:=i;rw [zAv];cases k:d[c]? with
    | none=>exact ⟨a,by simpa using b⟩
    | some e=>exact ⟨_,qI b e.1 e.2⟩
 obtain ⟨a,b⟩:=j d.length;rw [List.take_length] at b;exact ⟨a,b⟩
def aDd {g:List (Nat×Nat)} {i:Nat} {k l:Int} (m:dE g i k) (e:dE g i l):k=l:=by
 rcases m with ⟨rfl,b⟩|⟨j,f,rfl,b,n⟩;rcases e with ⟨rfl,_⟩|⟨d,c,rfl,a,_⟩;rfl;have:=b d c;omega;rcases e with ⟨rfl,a⟩|⟨d,c,rfl,a,o⟩;have:=a j f;omega;have:=n d c a;have:=o j f b;omega
def fI (c f e:Nat) (b:List (Nat×Nat)) (d:Nat) (j:Int) (a:World) (k:PermR a c f e b) (m:dE b d j):
 Calls prog 161 #[c,(d:Int)] a fun g i=>g=.returned (.int .i64 j)/\Below a.heap.size a i:=by
 refine (lM c f e b d a k).mono ?_;rintro g i ⟨o,rfl,n,l⟩;exact ⟨by rw [aDd m n],l⟩
def PermE.len {o:World} {e:Nat->Prop} {g a f:Nat} {b:List (Nat×Nat)} (d:PermE o e g a f b):b.length<=a:=by
 have i:(b.map fun c=>c.1).Nodup:=by rw [List.Nodup,List.pairwise_map];exact d.2.1.imp fun {p q} k=>Nat.ne_of_lt k
 have j:=eU (n:=a) i fun s l=>by obtain ⟨c,m,rfl⟩:=zAy.1 l;exact (d.2.2 c m).1
 simpa using j
def Smp (b:List (Nat×Nat)) (a:Nat):Prop:=∃c∈b,c.2=a
structure FG (S:Nat->Prop) (r N at_:Nat) (q:Int):Prop where
 zero:S 0
 le:∀s,S s->s<=N
 at_q:q=-1∨q=((N+1:Nat):Int)∨∃s:Nat,S s/\q=(s:Int)
 fine:∀s:Nat,S s->((s:Int) < q∨at_<=s)->s+r<=N->∃s',S s'/\s < s'/\s'<=s+r
 gap2:∀s:Nat,S s->s+2*r<=N->∃s',S s'/\s < s'/\s'<=s+2*r
def uC (S:Nat->Prop) (r N:Nat):Prop:=∀a:Nat,S a->a+r<=N->∃b,S b/\a < b/\b<=a+r
structure PreGap (S:Nat->Prop) (r N at_:Nat):Prop where
 le:∀s,S s->s<=N
 fine:∀s:Nat,(S s∨s=0)->(s+r < at_∨at_<=s)->s+r<=N->∃s',S s'/\s < s'/\s'<=s+r
 gap2:∀s:Nat,(S s∨s=0)->s+2*r<=N->∃s',S s'/\s < s'/\s'<=s+2*r
def FG.congr {S S':Nat->Prop} {r N at_:Nat} {b:Int} (d:FG S r N at_ b) (c:∀a,S' a↔S a):FG S' r N at_ b:=by
 have:S'=S:=funext fun a=>propext (c a);rw [this];exact d
def qO {S f:Nat->Prop} {r N at_:Nat} {q:Int} (j:PreGap S r N at_) (e:∀o,f o↔S o∨o=0) (v:1<=r) (c:(q=-1/\∀a,f a->a < at_ - 2*r)∨∃d:Nat,f d/\q=(d:Int)/\at_ - 2*r<=d/\∀p,f p->at_ - 2*r<=p->d<=p):FG f r N at_ q:=by
 refine ⟨(e 0).2 (.inr rfl),fun a b=>?_,?_,fun a b i n=>?_,fun a b n=>?_⟩;rcases (e a).1 b with b | rfl;exact j.le a b;exact zAp _;rcases c with ⟨c,_⟩|⟨d,s,c,_⟩;exact .inl c;exact .inr (.inr ⟨d,s,c⟩)
 · obtain ⟨g,k,l,m⟩:=j.fine a ((e a).1 b) (by
    rcases i with i | i;rcases c with ⟨c,_⟩|⟨d,s,c,w,u⟩;omega;by_cases t:at_ - 2*r<=a;have:=u a b t;omega;exact .inl oM
    · exact .inr i) n
   exact ⟨g,(e g).2 (.inl k),l,m⟩
 obtain ⟨g,k,l,m⟩:=j.gap2 a ((e a).1 b) n;exact ⟨g,(e g).2 (.inl k),l,m⟩
def yB {S:Nat->Prop} {r N at_:Nat} {a:Int} (c:FG S r N at_ a) (g:¬a<=min (N:Int) ((at_:Int)+(r:Int))):uC S r N:=fun b d f=>by
 refine c.fine b d ?_ f;have:=c.le b d;by_cases e:(b:Int) < a;exact .inl e;right;omega
def aEt (S:Nat->Prop) (N:Nat) (c b:Int):Prop:=c < b/\(∀a:Nat,S a->c < (a:Int)->b<=(a:Int))/\(b=((N+1:Nat):Int)∨∃a:Nat,S a/\b=(a:Int))
def lC {S:Nat->Prop} {r N at_:Nat} {b g:Int} (a:FG S r N at_ b) (k:aEt S N b g) (p:g - b<=(r:Int)):FG S r N at_ g:=by
 obtain ⟨q,m,e⟩:=k;refine ⟨a.zero,a.le,.inr e,fun c f d i=>?_,a.gap2⟩;rcases d with d | d;by_cases j:(c:Int) < b;exact a.fine c f (.inl j) i;by_cases o:(c:Int)=b;rcases e with e |⟨n,l,e⟩;omega;exact ⟨n,l,by omega,by omega⟩;have:=m c f oM;omega;exact a.fine c f (.inr d) i
def fP {S S':Nat->Prop} {r N at_:Nat} {j q:Int} (e:FG S r N at_ j) (z:aEt S N j q) (H:j<=(N:Int)) (J:1<=r) (I:¬q - j<=(r:Int)):∃l:Nat,j+(r:Int)=(l:Int)/\l<=N/\¬S l/\((∀t,S' t↔t=l∨S t)->FG S' r N at_ (l:Int)):=by
 obtain ⟨K,o,D⟩:=z;have A:∃d:Nat,S d/\j=(d:Int):=by rcases e.at_q with k | k | k;exfalso;have:=o 0 e.zero oM;omega;omega;exact k
 obtain ⟨d,B,rfl⟩:=A;have G:q<=((N+1:Nat):Int):=by rcases D with k |⟨E,C,k⟩;omega;have:=e.le E C;omega
 refine ⟨d+r,by omega,by omega,fun b=>?_,fun f=>?_⟩;have:=o _ b oM;omega
 · have s:∀ {u v:Nat},(∃a,S a/\u < a/\a<=v)->∃a,S' a/\u < a/\a<=v:=fun ⟨a,y,n⟩=>⟨a,(f a).2 (.inr y),n⟩;have n:d+2*r<=N->∃a,S' a/\d+r < a/\a<=d+2*r:=fun i=>by obtain ⟨a,g,m,p⟩:=e.gap2 d B i;have:=o a g oM;exact ⟨a,(f a).2 (.inr g),by omega,p⟩
   refine ⟨(f 0).2 (.inr e.zero),fun c b=>?_,.inr (.inr ⟨d+r,(f _).2 (.inl rfl),rfl⟩),fun c b F i=>?_,fun c b i=>?_⟩;rcases (f c).1 b with rfl | b;omega;exact e.le c b;rcases (f c).1 b with rfl | b;obtain ⟨a,g,m,p⟩:=n oM;exact ⟨a,g,m,by omega⟩;by_cases w:c=d;subst w;exact ⟨c+r,(f _).2 (.inl rfl),by omega,zAs _⟩;by_cases x:(c:Int) < (d:Int);exact s (e.fine c b (.inl x) i);have:=o c b oM;exact s (e.fine c b (.inr oM) i);rcases (f c).1 b with rfl | b;obtain ⟨a,g,m,p⟩:=n oM;exact ⟨a,g,m,by omega⟩;exact s (e.gap2 c b i)
structure TxM (w:World) (B:Nat) (own:Nat->Nat) (gl gk gp rate:Nat) (mv:Int) (S T:List Nat) (N:Nat) (rs:List Nat) (pr:List (Nat×Nat)):Prop where
 suf:IsSuf S rs
 live:LiveM w B own gl gk gp rate mv (N+1) (N+1) (aK S rs) T pr
 tal:T.Perm (aK S rs)
 right:∀x∈pr,rs[x.1]?=some x.2
def TxM.vis {k w':World} {b:Nat} {own:Nat->Nat} {d gk e i:Nat} {f:Int} {S c:List Nat} {N:Nat} {j:List Nat} {g:List (Nat×Nat)} (a:TxM k b own d gk e i f S c N j g) (l:Vis k w'):TxM w' b own d gk e i f S c N j g:=⟨a.suf,a.live.vis l,a.tal,a.right⟩
def jJ (p:World) (b:Nat) (own:Nat->Nat) (i gk j n:Nat) (k:Int) (S f:List Nat) (N:Nat) (o:List Nat) (m:List (Nat×Nat)) (l:Nat) (g:Ending) (e:World):Prop:=
 g=.returned (.tuple #[])/\∃c d,TxM e b c i gk j n k S f N o d/\(∀a,Smp d a↔a=l∨Smp m a)/\LF b p e own c
def kK (o:World) (l:Nat) (own:Nat->Nat) (b gk q I:Nat) (Y:Int) (t:List UInt8) (K:List Nat) (N:Nat) (A:List Nat) (s:List (Nat×Nat)) (a:Nat) (m:TxM o l own b gk q I Y (aY t) K N A s) (w:t.length=N) (R:N<=895) (ab:a<=N) (G:∀d∈s,d.2≠a):
 Calls prog 184 #[b,(a:Int)] o (jJ o l own b gk q I Y (aY t) K N A s a):=by
 subst w;obtain ⟨r,V,X⟩:=m.suf.row (p:=a) (by rw [bO];omega);have z:A[r]?=some a:=by rw [zAa V,X]
 have ac:r < t.length+1:=by have:=m.suf.len;rw [bO] at this;omega
 have W:∀k,VB l o k->Calls prog 78 #[b,(a:Int)] k fun u ag=>u=.returned (.int .i64 (r:Int))/\VB l k ag:=fun k ad=>by have y:=m.vis ad.1;exact gE l b gk q I t A s r a k (y.live.g y.tal) y.right y.suf R z
 have T:∀d∈s,d.1≠r:=fun d c u=>by have:=m.right d c;rw [u,z] at this;injection this with this;exact G d c this.symm
 have Q:s.length<=900:=by have:=m.live.perm.len;omega
 obtain ⟨C,D,a5,a4,a3,a2,a6⟩:=hqq7 m.live m W T G Q z;obtain ⟨N,w⟩:=eqx t.length;rw [w] at R ab ac;have J:=lhd w;clear m W T G Q X z V w;rw [J.out] at C;unfold jJ;go_enter func184,ntmps184;go_wp2_with fail;refine wp_region_any kR ?_;refine dT l 8 [4,5,6,7,8,9,10,11] (fun _=>False) 100 [] (fun _=>True) (cR) [is b,is b,is (.pointer (some ⟨b,1,none⟩)),is q,is b,is (a:Int),is (r:Int),is (a:Int)] _ _ rfl dC kR kR kR (trivial) (fun _ _ _ _ _=>trivial) (fun _ _ _ m _=>m) tA1 ?_ ?_
 · refine bM ?_;refine pH3 0 (.pointer (some b)) ?_;refine pV3 0 4 ?_;refine pV3 1 5 ?_;refine sC3 (fun _ k j _ _ _ _ n _ _ _ v=>?_) ?_
   · replace j:VFB l (fun _=>False) o k:=fD j;have aj:_=_:=n 2 6 kR rfl;have ai:k.cell? ⟨b,1,none⟩=some (.pointer (some q)):=((C.out.vis (VFB.to_vb j fun _ _ e=>e).1).blk.cell 1).trans rfl;go_simp;exact v _ _ (aL vR) rfl
   refine pH3 0 (.pointer (some b)) ?_;refine pH3 1 (.int .i64 (a:Int)) ?_;refine sC3 (fun _ k j _ _ _ _ n _ _ _ v=>?_) ?_
   · replace j:VFB l (fun _=>False) o k:=fD j;have ak:_=_:=n 4 8 kR rfl;have al:_=_:=n 5 9 kR rfl;go_simp;refine (a5.out k (VFB.to_vb j fun _ _ e=>e)).mono ?_;rintro u ah ⟨rfl,ae⟩;exact v _ _ (aL ae) rfl
   refine pH3 1 (.int .i64 (a:Int)) ?_;exact aH
 · intro E B e j n am;replace j:VFB l (fun _=>False) o B:=fD j;have aa:E (.tmp 7)=.pointer (some q):=n 3 7 dC rfl;have a8:E (.tmp 10)=.int .i64 (r:Int):=n 6 10 dC rfl;have a9:E (.tmp 11)=.int .i64 (a:Int):=n 7 11 dC rfl;simp only [zqq];rw [aa];rw [a8];rw [a9];clear n;change wpAny prog Region.Mode.any _ _ (1+e) (bS 8 9) _ B;rw [zCp 1 e];refine bH (f:=e) (i:=8) kR ?_;refine bU rfl rfl ?_;generalize v:wpAny prog _ _ _ e _=K5;go_simp;have H:VB l o B:=VFB.to_vb j fun _ _ e=>e;have F:=C.out.vis H.1;refine (wT (fun a7=>own a7=1) q (N+1) (N+1) r a s B F.perm oM oM a4.out a3.out a2.out).mono ?_;rintro u ah ⟨rfl,⟨af,U,L⟩,O⟩;obtain ⟨P,M⟩:=F.permOp L O;have a1:=lhd P;have a0:=lhd ((LF.of_vb (own:=own) H).trans M);have x:=lhd U;clear P M U L O F H;subst v;refine bW kR ?_;go_wp2_with fail;go_end0;refine ⟨rfl,_,af,⟨D.out.suf,by rw [J.out];exact a1.out,D.out.tal,fun d c=>?_⟩,fun Z=>?_,a0.out⟩;rcases List.mem_cons.1 (x.out.subset c) with rfl | c;exact a6.out;exact D.out.right d c;unfold Smp;constructor;rintro ⟨d,c,rfl⟩;rcases List.mem_cons.1 (x.out.subset c) with rfl | c;exact .inl rfl;exact .inr ⟨d,c,rfl⟩;rintro (rfl |⟨d,c,rfl⟩);exact ⟨(r,Z),x.out.symm.subset (by simp),rfl⟩;exact ⟨d,x.out.symm.subset (by simp [c]),rfl⟩
def nM (m:World) (b:Nat) (own:Nat->Nat) (i gk j d:Nat) (k:Int) (S f:List Nat) (N:Nat) (l:List Nat) (g:Ending) (e:World):Prop:=
 g=.returned (.tuple #[])/\∃c a,TxM e b c i gk j d k S f N l a/\Smp a 0/\uC (Smp a) d N/\LF b m e own c
def nW {d:List (Nat×Nat)} {c:Nat} {j:Int} (l:dE d c j):(j=-1/\∀i,Smp d i->i < c)∨∃a:Nat,Smp d a/\j=(a:Int)/\c<=a/\∀b,Smp d b->c<=b->a<=b:=by
 rcases l with ⟨f,g⟩|⟨a,o,f,g,m⟩;exact .inl ⟨f,fun i ⟨b,p,e⟩=>by rw [<-e];exact g b p⟩;exact .inr ⟨a.2,⟨a,o,rfl⟩,f,g,fun b ⟨q,n,e⟩ k=>by rw [<-e] at k⊢;exact m q n k⟩
def oN {e:List (Nat×Nat)} {N j:Nat} {a b:Int} (k:dE e j b) (p:a+1=(j:Int)) (q:a<=(N:Int)):(b < 0->aEt (Smp e) N a ((N+1:Nat):Int))/\(¬b < 0->aEt (Smp e) N a b):=by
 rcases nW k with ⟨g,i⟩|⟨o,n,g,i,l⟩;refine ⟨fun _=>⟨by omega,fun f d m=>?_,.inl rfl⟩,fun c=>absurd oM c⟩;have:=i f d;omega;refine ⟨fun c=>absurd c oM,fun _=>⟨by omega,fun f d m=>?_,.inr ⟨o,n,g⟩⟩⟩;have:=l f d oM;omega
structure FillI (w0 wr:World) (B:Nat) (iA own:Nat->Nat) (gl gk gp rate:Nat) (mv:Int) (S T:List Nat) (N at_:Nat) (rs:List Nat) (pr:List (Nat×Nat)) (q:Int):Prop where
 tx:TxM wr B own gl gk gp rate mv S T N rs pr
 fg:FG (Smp pr) rate N at_ q
 lf:LF B w0 wr iA own
def TxM.lenc {d:World} {e:Nat} {own:Nat->Nat} {b gk n w:Nat} {u:Int} {c:List UInt8} {m:List Nat} {N:Nat} {k:List Nat} {v:List (Nat×Nat)} (i:TxM d e own b gk n w u (aY c) m N k v) (q:c.length=N) (x:N<=895):∀a:Nat,Calls prog 47 #[b] (d.drewN a) fun f l=>f=.returned (.int .i64 (N:Int))/\∃t,l=d.drewN t:=fun a=>by
 have j:=i.vis (Vis.of_below (below_drewN bR a));have s:(aK (aY c) k).length=N+1:=by rw [eK,i.suf.len,bO,q]
 exact (eQ e b _ N _ (j.live.g j.tal).lvw s oM).mono fun f l ⟨o,p⟩=>⟨o,a,p.symm⟩
def FG.ge {S:Nat->Prop} {r N at_:Nat} {a:Int} (c:FG S r N at_ a):-1<=a/\a<=((N+1:Nat):Int):=by
 rcases c.at_q with b | b |⟨e,d,b⟩;omega;omega;have:=c.le e d;omega
def zM (a8:World) (k:Nat) (own:Nat->Nat) (d gk n a:Nat) (a6:Int) (Y:List UInt8) (a0:List Nat) (N at_:Nat) (a7:List Nat) (T:List (Nat×Nat)) (ag:TxM a8 k own d gk n a a6 (aY Y) a0 N a7 T) (bk:Y.length=N) (a3:N<=895) (bI:at_<=N) (X:1<=a) (bK:a<=64) (bl:PreGap (Smp T) a N at_):
 Calls prog 106 #[d,(at_:Int)] a8 (nM a8 k own d gk n a a6 (aY Y) a0 N a7):=by
 have bi:a8.cell? ⟨d,1,none⟩=some (.pointer (some n)):=(ag.live.blk.cell 1).trans rfl;have bF:IntKind.i64.wrap (2*(a:Int))=((2*a:Nat):Int):=by rw [IntKind.wrap_i64];omega
 have bG:IntKind.i64.wrap ((at_:Int) -((2*a:Nat):Int))=(at_:Int) -((2*a:Nat):Int):=by rw [IntKind.wrap_i64];omega
 have bH:IntKind.i64.wrap ((at_:Int)+(a:Int))=(at_:Int)+(a:Int):=by rw [IntKind.wrap_i64];omega
 have bj:wrap64 ((N:Int)+1)=((N+1:Nat):Int):=by rw [cU oM oM];rfl
 obtain ⟨ay,Z,aW⟩:=hqq3 ag bk bl;clear ag bk bl;unfold nM;go_enter func106,ntmps106;by_cases az:∃q∈T,q.2=0
 · have aA:=nH n (N+1) (N+1) T 0 a8 ay.out.live.permR az;unfold rL at aA;have aF:∀e,Smp T e↔Smp T e∨e=0:=fun e=>⟨.inl,fun ag=>by
    rcases ag with ag | rfl;exact ag
    · exact az⟩
   have aD:=lhd aF;clear aF az;go_wp2_with fail;refine aA.mono ?_;clear aA;rintro g a1 ⟨bD,bB,rfl,ah⟩;have bJ:decide ((bD:Int) < 0)=false:=(by simp);have E:=lhd (ay.out.vis (Vis.of_below ah));have aB:=lhd (LF.of_vb (B:=k) (own:=own) (VisK.of_below ah));clear ah bB bi ay;go_wp2_with fail;obtain ⟨V,ap⟩:=mT T (at_ - 2*a);refine wp_region_any kR ?_;refine cJ [14,15,16,17,18,19,20,21,22,23,24,25,26,4] (Grow) (Vs [is d,is d,is (.pointer (some ⟨d,1,none⟩)),is n,is (at_:Int),is d,is d,is (.pointer (some ⟨d,2,none⟩)),is (a:Int),is (.int .i64 ((2*a:Nat):Int)),is (.int .i64 ((at_:Int) -((2*a:Nat):Int))),is (.int .i64 ((at_ - 2*a:Nat):Int)),is (.int .i64 V),is (.int .i64 V)]) _ _ rfl kR bR (fun _ _=>Grow.trans) (eE tA1) ?_ ?_
   · refine aZ ?_;refine pH 0 (.pointer (some d)) ?_;refine pV 0 14 ?_;refine pV 1 15 ?_;refine pL 2 16 (fun t f=>have f:(Grow) a1 t:=gD f;(((E.out.vis (Vis.of_below f)).live.blk.cell 1).trans rfl:t.cell? ⟨d,1,none⟩=some (.pointer (some n)))) ?_;refine pH 1 (.int .i64 (at_:Int)) ?_;refine pH 0 (.pointer (some d)) ?_;refine pV 5 19 ?_;refine pV 6 20 ?_;refine pL 7 21 (fun t f=>have f:(Grow) a1 t:=gD f;(((E.out.vis (Vis.of_below f)).live.blk.cell 2).trans rfl:t.cell? ⟨d,2,none⟩=some (.int .i64 (a:Int)))) ?_;refine pV 8 22 ?_;refine sC (fun _ _ _ _ _ _ o _ _ _ H=>?_) ?_
     · have bt:_=_:=o 4 18 kR rfl;have bu:_=_:=o 9 23 kR rfl;go_simp;exact H _ _ bR (dF (by rw [IntKind.wrap_i64];push_cast;omega))
     refine sC (fun _ _ _ _ _ _ o _ _ _ H=>?_) ?_
     · have bv:_=_:=o 10 24 kR rfl;go_simp;exact H _ _ bR (dF oM)
     refine sC (fun _ t f _ _ _ o _ _ _ H=>?_) ?_
     · have bs:_=_:=o 3 17 kR rfl;have bw:_=_:=o 11 25 kR rfl;replace f:(Grow) a1 t:=gD f;go_simp;refine (fI n (N+1) (N+1) T (at_ - 2*a) V t (E.out.vis (Vis.of_below f)).live.permR ap).mono ?_;rintro g bE ⟨rfl,b7⟩;exact H _ _ b7 rfl
     refine pV 12 26 ?_;exact aH
   · intro b6 bg f o;replace f:(Grow) a1 bg:=gD f;have b5:b6 (.tmp 4)=.int .i64 V:=o 13 4 rfl;simp only [zqq];rw [b5];clear o;have aQ:=E.out.vis (Vis.of_below f);have aK:=aB.out.trans (LF.of_vb (B:=k) (own:=own) (VisK.of_below f));have aL:=qO aW.out aD.out X (nW ap);have aC:=lhd (FillI.mk aQ aL aK);clear aQ aK aL ap f E aB aD aW;go_wp2_with fail;go_loopw [4] (fun q wr=>∃(b:Int) (p:Nat->Nat) (m:List (Nat×Nat)),q=.int .i64 b/\FillI a8 wr k own p d gk n a a6 (aY Y) a0 N at_ a7 m b) (fun q _=>((N:Int)+2 - intOf q).toNat)
     case atStart=>exact ⟨V,_,_,rfl,aC.out⟩
     case round=>
        clear aC;obtain ⟨b,p,m,rfl,v⟩:=hrel;obtain ⟨bz,bA⟩:=v.fg.ge;have a5:=v.tx.lenc Z.out a3;have aE:wr.cell? ⟨d,1,none⟩=some (.pointer (some n)):=(v.tx.live.blk.cell 1).trans rfl;have a2:wr.cell? ⟨d,2,none⟩=some (.int .i64 (a:Int)):=(v.tx.live.blk.cell 2).trans rfl;have aM:=v.tx.live.blk.lt;obtain ⟨au,b9⟩:=eqx (min (N:Int) ((at_:Int)+(a:Int)));obtain ⟨i,b0⟩:=hqq2 v b9;clear v;by_cases am:b<=au
        · have bd:decide (b<=au)=true:=zBz am;obtain ⟨U,an⟩:∃U:Nat,b+1=(U:Int):=⟨(b+1).toNat,by omega⟩;have O:b<=(N:Int):=oM;obtain ⟨W,aq⟩:=mT m U;obtain ⟨aU,aV⟩:=oN (N:=N) aq an O;have br:wrap64 (b+1)=(U:Int):=(by rw [cU oM oM];exact an);obtain ⟨b2,ad,ae,bp⟩:=hqq4 aq aU aV an;clear aq aU aV;go_wp2_with fail;go_quiet ((with_reducible exact a5 _))
          rename_i nq
          have aR:=i.out.tx.vis (Vis.of_below (below_drewN bR nq));have aO:=fI n (N+1) (N+1) m U W (wr.drewN nq) aR.live.permR b2.out;clear aR;go_wp2_with fail;refine aO.mono ?_;clear aO;rintro g w1 ⟨rfl,aG⟩;have x:VB k wr w1:=VisK.of_below ((below_drewN bR nq).trans aG);have A:=i.out.tx.vis x.1;have z:=i.out.lf.trans (LF.of_vb (own:=p) x);obtain ⟨C,F⟩:=hqq2 A z;clear x A z aG a5 aE a2 aM;by_cases aS:W < 0
          · have aT:decide (W < 0)=true:=zBz aS;have j:=lhd (ad.out oM);have aN:=C.out.lenc Z.out a3 0;clear ad ae;go_wp2_with fail;refine aN.mono ?_;clear aN;rintro g D ⟨rfl,ar,rfl⟩;have aP:=C.out.vis (Vis.of_below (below_drewN bR ar));have aJ:=F.out.trans (LF.of_vb (B:=k) (own:=p) (VisK.of_below (below_drewN bR ar)));obtain ⟨l,u⟩:=hqq2 aP aJ;clear aP aJ;generalize w1.drewN ar=D at l u⊢;obtain ⟨c,a4⟩:∃c:Int,((N+1:Nat):Int)=c:=⟨_,rfl⟩;rw [a4] at j;have bx:wrap64 ((N:Int)+1)=c:=(by rw [bj];exact a4);have bb:=j.out.1;have ba:c<=((N+1:Nat):Int):=(by rcases j.out.2.2 with g |⟨ax,ao,g⟩;omega;have:=i.out.fg.le ax ao;omega);have b3:IntKind.i64.wrap (c - b)=c - b:=(by rw [IntKind.wrap_i64];omega);have a2:D.cell? ⟨d,2,none⟩=some (.int .i64 (a:Int)):=(l.out.live.blk.cell 2).trans rfl;have b8:=l.out.live.blk.lt;by_cases J:c - b<=(a:Int)
            · have ai:decide (c - b > (a:Int))=false:=zBy oM;have aj:¬(a:Int) < c - b:=oM;have K:=lC i.out.fg j.out J;have aa:=lhd K;clear K;go_wp2_with fail;go_roundw
              case rel=>exact ⟨c,p,m,by first | rfl |(congr 1 <;> omega),l.out,aa.out,u.out⟩
              case measure=>simp [intOf];omega
            · have ai:decide (c - b > (a:Int))=true:=zBz oM;have aj:(a:Int) < c - b:=oM;obtain ⟨e,M,al,w,_⟩:=fP (S':=Smp m) i.out.fg j.out O X J;have b4:IntKind.i64.wrap (b+(a:Int))=(e:Int):=(by rw [IntKind.wrap_i64];omega);have s:=kK D k p d gk n a a6 Y a0 N a7 m e l.out Z.out a3 al (fun q Q g=>w ⟨q,Q,g⟩);unfold jJ at s;obtain ⟨G,b1⟩:=hqq2 M w;clear M w;go_wp2_with fail;refine s.mono ?_;clear s;rintro g bf ⟨rfl,av,y,R,P,I⟩;have L:FG (Smp y) a N at_ (e:Int):=(by obtain ⟨aw,bc,_,_,ak⟩:=fP (S':=Smp y) i.out.fg j.out O X oM;have:aw=e:=(by have:=G.out;omega);subst this;exact ak P);obtain ⟨ab,af,a9⟩:=hqq3 L R (u.out.trans I);have ac:=lhd (show b < (e:Int) by have:=G.out;omega);clear L R P I;go_wp2_with fail;go_roundw
              case rel=>exact ⟨(e:Int),av,y,rfl,af.out,ab.out,a9.out⟩
              case measure=>simp [intOf];have:=ac.out;omega
          · have aT:decide (W < 0)=false:=zBy aS;have j:=lhd (ae.out oM);clear ad ae;obtain ⟨c,a4⟩:∃c:Int,W=c:=⟨_,rfl⟩;rw [a4] at j aT⊢;have l:=C;have u:=F;clear C F;generalize w1=D at l u⊢;have bb:=j.out.1;have ba:c<=((N+1:Nat):Int):=(by rcases j.out.2.2 with g |⟨ax,ao,g⟩;omega;have:=i.out.fg.le ax ao;omega);have b3:IntKind.i64.wrap (c - b)=c - b:=(by rw [IntKind.wrap_i64];omega);have a2:D.cell? ⟨d,2,none⟩=some (.int .i64 (a:Int)):=(l.out.live.blk.cell 2).trans rfl;have b8:=l.out.live.blk.lt;by_cases J:c - b<=(a:Int)
            · have ai:decide (c - b > (a:Int))=false:=zBy oM;have aj:¬(a:Int) < c - b:=oM;have K:=lC i.out.fg j.out J;have aa:=lhd K;clear K;go_wp2_with fail;go_roundw
              case rel=>exact ⟨c,p,m,by first | rfl |(congr 1 <;> omega),l.out,aa.out,u.out⟩
              case measure=>simp [intOf];omega
            · have ai:decide (c - b > (a:Int))=true:=zBz oM;have aj:(a:Int) < c - b:=oM;obtain ⟨e,M,al,w,_⟩:=fP (S':=Smp m) i.out.fg j.out O X J;have b4:IntKind.i64.wrap (b+(a:Int))=(e:Int):=(by rw [IntKind.wrap_i64];omega);have s:=kK D k p d gk n a a6 Y a0 N a7 m e l.out Z.out a3 al (fun q Q g=>w ⟨q,Q,g⟩);unfold jJ at s;obtain ⟨G,b1⟩:=hqq2 M w;clear M w;go_wp2_with fail;refine s.mono ?_;clear s;rintro g bf ⟨rfl,av,y,R,P,I⟩;have L:FG (Smp y) a N at_ (e:Int):=(by obtain ⟨aw,bc,_,_,ak⟩:=fP (S':=Smp y) i.out.fg j.out O X oM;have:aw=e:=(by have:=G.out;omega);subst this;exact ak P);obtain ⟨ab,af,a9⟩:=hqq3 L R (u.out.trans I);have ac:=lhd (show b < (e:Int) by have:=G.out;omega);clear L R P I;go_wp2_with fail;go_roundw
              case rel=>exact ⟨(e:Int),av,y,rfl,af.out,ab.out,a9.out⟩
              case measure=>simp [intOf];have:=ac.out;omega
        · have bd:decide (b<=au)=false:=zBy am;have aI:=yB i.out.fg (by rw [b0.out];exact am);have aX:=lhd aI;clear aI;go_wp2_with fail;go_quiet ((with_reducible exact a5 _))
          rename_i nq
          have x:VB k wr (wr.drewN nq):=VisK.of_below (below_drewN bR nq);have A:=i.out.tx.vis x.1;have z:=i.out.lf.trans (LF.of_vb (own:=p) x);obtain ⟨C,F⟩:=hqq2 A z;clear x A z a5 aE a2 aM;go_wp2_with fail;go_end0;exact ⟨rfl,p,m,C.out,i.out.fg.zero,aX.out,F.out⟩
 · have aA:=sJ n (N+1) (N+1) T 0 a8 ay.out.live.permR (fun q Q g=>az ⟨q,Q,g⟩);have bo:=lhd az;clear az;go_wp2_with fail;refine aA.mono ?_;clear aA;rintro g bq ⟨rfl,ah⟩;have bn:=ay.out.vis (Vis.of_below ah);have s:=kK bq k own d gk n a a6 Y a0 N a7 T 0 bn Z.out a3 (zAp _) (fun q Q g=>bo.out ⟨q,Q,g⟩);unfold jJ at s;have bh:=lhd (LF.of_vb (B:=k) (own:=own) (VisK.of_below ah));clear ah bn bi ay;go_wp2_with fail;refine s.mono ?_;clear s;rintro g a1 ⟨rfl,bC,be,A,bm,z⟩;obtain ⟨E,aB⟩:=hqq2 A (bh.out.trans z);have aF:∀e,Smp be e↔Smp T e∨e=0:=fun e=>(bm e).trans Or.comm;have aD:=lhd aF;clear aF A bm z bh;go_wp2_with fail;obtain ⟨V,ap⟩:=mT be (at_ - 2*a);refine wp_region_any kR ?_;refine cJ [14,15,16,17,18,19,20,21,22,23,24,25,26,4] (Grow) (Vs [is d,is d,is (.pointer (some ⟨d,1,none⟩)),is n,is (at_:Int),is d,is d,is (.pointer (some ⟨d,2,none⟩)),is (a:Int),is (.int .i64 ((2*a:Nat):Int)),is (.int .i64 ((at_:Int) -((2*a:Nat):Int))),is (.int .i64 ((at_ - 2*a:Nat):Int)),is (.int .i64 V),is (.int .i64 V)]) _ _ rfl kR bR (fun _ _=>Grow.trans) (eE tA1) ?_ ?_
   · refine aZ ?_;refine pH 0 (.pointer (some d)) ?_;refine pV 0 14 ?_;refine pV 1 15 ?_;refine pL 2 16 (fun t f=>have f:(Grow) a1 t:=gD f;(((E.out.vis (Vis.of_below f)).live.blk.cell 1).trans rfl:t.cell? ⟨d,1,none⟩=some (.pointer (some n)))) ?_;refine pH 1 (.int .i64 (at_:Int)) ?_;refine pH 0 (.pointer (some d)) ?_;refine pV 5 19 ?_;refine pV 6 20 ?_;refine pL 7 21 (fun t f=>have f:(Grow) a1 t:=gD f;(((E.out.vis (Vis.of_below f)).live.blk.cell 2).trans rfl:t.cell? ⟨d,2,none⟩=some (.int .i64 (a:Int)))) ?_;refine pV 8 22 ?_;refine sC (fun _ _ _ _ _ _ o _ _ _ H=>?_) ?_
     · have bt:_=_:=o 4 18 kR rfl;have bu:_=_:=o 9 23 kR rfl;go_simp;exact H _ _ bR (dF (by rw [IntKind.wrap_i64];push_cast;omega))
     refine sC (fun _ _ _ _ _ _ o _ _ _ H=>?_) ?_
     · have bv:_=_:=o 10 24 kR rfl;go_simp;exact H _ _ bR (dF oM)
     refine sC (fun _ t f _ _ _ o _ _ _ H=>?_) ?_
     · have bs:_=_:=o 3 17 kR rfl;have bw:_=_:=o 11 25 kR rfl;replace f:(Grow) a1 t:=gD f;go_simp;refine (fI n (N+1) (N+1) be (at_ - 2*a) V t (E.out.vis (Vis.of_below f)).live.permR ap).mono ?_;rintro g bE ⟨rfl,b7⟩;exact H _ _ b7 rfl
     refine pV 12 26 ?_;exact aH
   · intro b6 bg f o;replace f:(Grow) a1 bg:=gD f;have b5:b6 (.tmp 4)=.int .i64 V:=o 13 4 rfl;simp only [zqq];rw [b5];clear o;have aQ:=E.out.vis (Vis.of_below f);have aK:=aB.out.trans (LF.of_vb (B:=k) (own:=bC) (VisK.of_below f));have aL:=qO aW.out aD.out X (nW ap);have aC:=lhd (FillI.mk aQ aL aK);clear aQ aK aL ap f E aB aD aW;go_wp2_with fail;go_loopw [4] (fun q wr=>∃(b:Int) (p:Nat->Nat) (m:List (Nat×Nat)),q=.int .i64 b/\FillI a8 wr k own p d gk n a a6 (aY Y) a0 N at_ a7 m b) (fun q _=>((N:Int)+2 - intOf q).toNat)
     case atStart=>exact ⟨V,_,_,rfl,aC.out⟩
     case round=>
        clear aC;obtain ⟨b,p,m,rfl,v⟩:=hrel;obtain ⟨bz,bA⟩:=v.fg.ge;have a5:=v.tx.lenc Z.out a3;have aE:wr.cell? ⟨d,1,none⟩=some (.pointer (some n)):=(v.tx.live.blk.cell 1).trans rfl;have a2:wr.cell? ⟨d,2,none⟩=some (.int .i64 (a:Int)):=(v.tx.live.blk.cell 2).trans rfl;have aM:=v.tx.live.blk.lt;obtain ⟨au,b9⟩:=eqx (min (N:Int) ((at_:Int)+(a:Int)));obtain ⟨i,b0⟩:=hqq2 v b9;clear v;by_cases am:b<=au
        · have bd:decide (b<=au)=true:=zBz am;obtain ⟨U,an⟩:∃U:Nat,b+1=(U:Int):=⟨(b+1).toNat,by omega⟩;have O:b<=(N:Int):=oM;obtain ⟨W,aq⟩:=mT m U;obtain ⟨aU,aV⟩:=oN (N:=N) aq an O;have br:wrap64 (b+1)=(U:Int):=(by rw [cU oM oM];exact an);obtain ⟨b2,ad,ae,bp⟩:=hqq4 aq aU aV an;clear aq aU aV;go_wp2_with fail;go_quiet ((with_reducible exact a5 _))
          rename_i nq
          have aR:=i.out.tx.vis (Vis.of_below (below_drewN bR nq));have aO:=fI n (N+1) (N+1) m U W (wr.drewN nq) aR.live.permR b2.out;clear aR;go_wp2_with fail;refine aO.mono ?_;clear aO;rintro g w1 ⟨rfl,aG⟩;have x:VB k wr w1:=VisK.of_below ((below_drewN bR nq).trans aG);have A:=i.out.tx.vis x.1;have z:=i.out.lf.trans (LF.of_vb (own:=p) x);obtain ⟨C,F⟩:=hqq2 A z;clear x A z aG a5 aE a2 aM;by_cases aS:W < 0
          · have aT:decide (W < 0)=true:=zBz aS;have j:=lhd (ad.out oM);have aN:=C.out.lenc Z.out a3 0;clear ad ae;go_wp2_with fail;refine aN.mono ?_;clear aN;rintro g D ⟨rfl,ar,rfl⟩;have aP:=C.out.vis (Vis.of_below (below_drewN bR ar));have aJ:=F.out.trans (LF.of_vb (B:=k) (own:=p) (VisK.of_below (below_drewN bR ar)));obtain ⟨l,u⟩:=hqq2 aP aJ;clear aP aJ;generalize w1.drewN ar=D at l u⊢;obtain ⟨c,a4⟩:∃c:Int,((N+1:Nat):Int)=c:=⟨_,rfl⟩;rw [a4] at j;have bx:wrap64 ((N:Int)+1)=c:=(by rw [bj];exact a4);have bb:=j.out.1;have ba:c<=((N+1:Nat):Int):=(by rcases j.out.2.2 with g |⟨ax,ao,g⟩;omega;have:=i.out.fg.le ax ao;omega);have b3:IntKind.i64.wrap (c - b)=c - b:=(by rw [IntKind.wrap_i64];omega);have a2:D.cell? ⟨d,2,none⟩=some (.int .i64 (a:Int)):=(l.out.live.blk.cell 2).trans rfl;have b8:=l.out.live.blk.lt;by_cases J:c - b<=(a:Int)
            · have ai:decide (c - b > (a:Int))=false:=zBy oM;have aj:¬(a:Int) < c - b:=oM;have K:=lC i.out.fg j.out J;have aa:=lhd K;clear K;go_wp2_with fail;go_roundw
              case rel=>exact ⟨c,p,m,by first | rfl |(congr 1 <;> omega),l.out,aa.out,u.out⟩
              case measure=>simp [intOf];omega
            · have ai:decide (c - b > (a:Int))=true:=zBz oM;have aj:(a:Int) < c - b:=oM;obtain ⟨e,M,al,w,_⟩:=fP (S':=Smp m) i.out.fg j.out O X J;have b4:IntKind.i64.wrap (b+(a:Int))=(e:Int):=(by rw [IntKind.wrap_i64];omega);have s:=kK D k p d gk n a a6 Y a0 N a7 m e l.out Z.out a3 al (fun q Q g=>w ⟨q,Q,g⟩);unfold jJ at s;obtain ⟨G,b1⟩:=hqq2 M w;clear M w;go_wp2_with fail;refine s.mono ?_;clear s;rintro g bf ⟨rfl,av,y,R,P,I⟩;have L:FG (Smp y) a N at_ (e:Int):=(by obtain ⟨aw,bc,_,_,ak⟩:=fP (S':=Smp y) i.out.fg j.out O X oM;have:aw=e:=(by have:=G.out;omega);subst this;exact ak P);obtain ⟨ab,af,a9⟩:=hqq3 L R (u.out.trans I);have ac:=lhd (show b < (e:Int) by have:=G.out;omega);clear L R P I;go_wp2_with fail;go_roundw
              case rel=>exact ⟨(e:Int),av,y,rfl,af.out,ab.out,a9.out⟩
              case measure=>simp [intOf];have:=ac.out;omega
          · have aT:decide (W < 0)=false:=zBy aS;have j:=lhd (ae.out oM);clear ad ae;obtain ⟨c,a4⟩:∃c:Int,W=c:=⟨_,rfl⟩;rw [a4] at j aT⊢;have l:=C;have u:=F;clear C F;generalize w1=D at l u⊢;have bb:=j.out.1;have ba:c<=((N+1:Nat):Int):=(by rcases j.out.2.2 with g |⟨ax,ao,g⟩;omega;have:=i.out.fg.le ax ao;omega);have b3:IntKind.i64.wrap (c - b)=c - b:=(by rw [IntKind.wrap_i64];omega);have a2:D.cell? ⟨d,2,none⟩=some (.int .i64 (a:Int)):=(l.out.live.blk.cell 2).trans rfl;have b8:=l.out.live.blk.lt;by_cases J:c - b<=(a:Int)
            · have ai:decide (c - b > (a:Int))=false:=zBy oM;have aj:¬(a:Int) < c - b:=oM;have K:=lC i.out.fg j.out J;have aa:=lhd K;clear K;go_wp2_with fail;go_roundw
              case rel=>exact ⟨c,p,m,by first | rfl |(congr 1 <;> omega),l.out,aa.out,u.out⟩
              case measure=>simp [intOf];omega
            · have ai:decide (c - b > (a:Int))=true:=zBz oM;have aj:(a:Int) < c - b:=oM;obtain ⟨e,M,al,w,_⟩:=fP (S':=Smp m) i.out.fg j.out O X J;have b4:IntKind.i64.wrap (b+(a:Int))=(e:Int):=(by rw [IntKind.wrap_i64];omega);have s:=kK D k p d gk n a a6 Y a0 N a7 m e l.out Z.out a3 al (fun q Q g=>w ⟨q,Q,g⟩);unfold jJ at s;obtain ⟨G,b1⟩:=hqq2 M w;clear M w;go_wp2_with fail;refine s.mono ?_;clear s;rintro g bf ⟨rfl,av,y,R,P,I⟩;have L:FG (Smp y) a N at_ (e:Int):=(by obtain ⟨aw,bc,_,_,ak⟩:=fP (S':=Smp y) i.out.fg j.out O X oM;have:aw=e:=(by have:=G.out;omega);subst this;exact ak P);obtain ⟨ab,af,a9⟩:=hqq3 L R (u.out.trans I);have ac:=lhd (show b < (e:Int) by have:=G.out;omega);clear L R P I;go_wp2_with fail;go_roundw
              case rel=>exact ⟨(e:Int),av,y,rfl,af.out,ab.out,a9.out⟩
              case measure=>simp [intOf];have:=ac.out;omega
        · have bd:decide (b<=au)=false:=zBy am;have aI:=yB i.out.fg (by rw [b0.out];exact am);have aX:=lhd aI;clear aI;go_wp2_with fail;go_quiet ((with_reducible exact a5 _))
          rename_i nq
          have x:VB k wr (wr.drewN nq):=VisK.of_below (below_drewN bR nq);have A:=i.out.tx.vis x.1;have z:=i.out.lf.trans (LF.of_vb (own:=p) x);obtain ⟨C,F⟩:=hqq2 A z;clear x A z a5 aE a2 aM;go_wp2_with fail;go_end0;exact ⟨rfl,p,m,C.out,i.out.fg.zero,aX.out,F.out⟩
end
section
def aCy (b:List UInt8) {a:Nat} (c:UInt8) (d:a<=b.length):aY (aI b a c)=aI (aY b) a (c.toNat+1):=by
 unfold aY oU aI;rw [zAz,List.map_cons,List.map_take,List.map_drop,List.take_append_of_le_length (by simpa using d),List.drop_append_of_le_length (by simpa using d)];simp
def aCz (b:List UInt8) {a:Nat} (c:a < b.length):aY (aC b a)=aC (aY b) a:=by
 unfold aY oU aC;rw [zAz,List.map_take,List.map_drop,List.take_append_of_le_length (by simp;omega),List.drop_append_of_le_length (by simp;omega)];simp
def aCx (b:List UInt8) {a:Nat} (c:UInt8) (d:a < b.length):aY (b.set a c)=(aY b).set a (c.toNat+1):=by
 unfold aY oU;rw [List.map_set];exact (List.set_append_left _ _ (by simpa using d)).symm
def pS {a:List Nat} {b s c:Nat} (f:a[b]?=some c):(c::a.set b s).Perm (s::a):=by
 obtain ⟨d,e⟩:=zAc.1 f;have g:a.set b s=a.take b++s::a.drop (b+1):=List.set_eq_take_append_cons_drop .. |>.trans (by rw [zBx d]);have i:a=a.take b++c::a.drop (b+1):=by
  conv=>lhs;rw [<-zAu b a]
  rw [zAx d,e]
 rw [g]
 conv=>rhs;rw [i]
 refine ((List.perm_middle).cons c).trans ?_;refine (List.Perm.swap s c _).trans ?_;exact ((List.perm_middle).symm.cons s)
section
variable {S S' : Nat -> Prop} {r N at_ : Nat}
def aAn (o:uC S r N) (t:S 0) (v:∀a,S a->a<=N) (x:1<=r) (w:at_<=N) (n:∀c,S' c↔∃a,S a/\c=sh at_ a):PreGap S' r (N+1) at_:=by
 have mk:∀a,S a->S' (sh at_ a):=fun a d=>(n _).2 ⟨a,d,rfl⟩;have u:S' 0∨(at_=0/\S' 1):=by by_cases e:at_=0;right;have:=mk 0 t;unfold sh at this;rw [zBw oM] at this;exact ⟨e,this⟩;left;have:=mk 0 t;unfold sh at this;rw [zBx oM] at this;exact this
 refine ⟨fun c l=>?_,fun c l q g=>?_,fun c l g=>?_⟩
 · obtain ⟨a,d,rfl⟩:=(n c).1 l;have:=v a d;unfold sh;split <;> omega
 by_cases i:S' c;obtain ⟨a,d,rfl⟩:=(n c).1 i;unfold sh at q g⊢;by_cases e:a < at_;rw [zBx e] at q g⊢;obtain ⟨b,j,k,m⟩:=o a d oM;have:=mk b j;unfold sh at this;rw [zBx oM] at this;exact ⟨b,this,k,m⟩;rw [zBw e] at q g⊢;obtain ⟨b,j,k,m⟩:=o a d oM;have:=mk b j;unfold sh at this;rw [zBw oM] at this;exact ⟨b+1,this,by omega,by omega⟩;have p:c=0:=l.resolve_left i;subst p;rcases u with f |⟨_,f⟩;exact absurd f i;exact ⟨1,f,by omega,by omega⟩;by_cases i:S' c;obtain ⟨a,d,rfl⟩:=(n c).1 i;unfold sh at g⊢;by_cases e:a < at_;rw [zBx e] at g⊢;obtain ⟨b,j,k,m⟩:=o a d oM;have:=mk b j;unfold sh at this;by_cases s:b < at_;rw [zBx s] at this;exact ⟨b,this,k,by omega⟩;rw [zBw s] at this;exact ⟨b+1,this,by omega,by omega⟩;rw [zBw e] at g⊢;obtain ⟨b,j,k,m⟩:=o a d oM;have:=mk b j;unfold sh at this;rw [zBw oM] at this;exact ⟨b+1,this,by omega,by omega⟩;have p:c=0:=l.resolve_left i;subst p;rcases u with f |⟨_,f⟩;exact absurd f i;exact ⟨1,f,by omega,by omega⟩
def aAo (m:uC S r (N+1)) (w:S 0) (B:∀a,S a->a<=N+1) (G:1<=r) (F:at_<=N) (q:∀d,S' d↔∃a,S a/\a≠at_/\d=ush at_ a):PreGap S' r N at_:=by
 have mk:∀a,S a->a≠at_->S' (ush at_ a):=fun a c s=>(q _).2 ⟨a,c,s,rfl⟩;have v:∀a,S a->a < at_->S' a:=fun a c x=>by have:=mk a c oM;unfold ush at this;rwa [zBx x] at this
 have o:∀a,S a->at_ < a->S' (a - 1):=fun a c x=>by have:=mk a c oM;unfold ush at this;rwa [zBw oM] at this
 have z:¬S' 0->1<=N+1 - 0->0+r<=N+1->∃b,S' b/\0 < b/\b+1<=r:=fun y _ j=>by
  have E:at_=0:=by by_cases g:at_=0;exact g;exact absurd (v 0 w oM) y
  obtain ⟨b,e,f,i⟩:=m 0 w j;have l:=o b e oM;by_cases g:b=1;subst g;exact absurd l y;exact ⟨b - 1,l,by omega,by omega⟩
 refine ⟨fun d p=>?_,fun d p u j=>?_,fun d p j=>?_⟩
 · obtain ⟨a,c,s,rfl⟩:=(q d).1 p;have:=B a c;unfold ush;split <;> omega
 by_cases k:S' d;obtain ⟨a,c,s,rfl⟩:=(q d).1 k;unfold ush at u j⊢;by_cases g:a < at_;rw [zBx g] at u j⊢;obtain ⟨b,e,f,i⟩:=m a c oM;exact ⟨b,v b e oM,f,i⟩;rw [zBw g] at u j⊢;obtain ⟨b,e,f,i⟩:=m a c oM;exact ⟨b - 1,o b e oM,by omega,by omega⟩;have t:d=0:=p.resolve_left k;subst t;obtain ⟨b,f,i,l⟩:=z k oM oM;exact ⟨b,f,i,by omega⟩;by_cases k:S' d;obtain ⟨a,c,s,rfl⟩:=(q d).1 k;unfold ush at j⊢;by_cases g:a < at_;rw [zBx g] at j⊢;obtain ⟨b,e,f,i⟩:=m a c oM;rcases Nat.lt_trichotomy b at_ with n | n | n;exact ⟨b,v b e n,f,by omega⟩;subst n;obtain ⟨A,C,l,D⟩:=m b e oM;exact ⟨A - 1,o A C l,by omega,by omega⟩;exact ⟨b - 1,o b e n,by omega,by omega⟩;rw [zBw g] at j⊢;obtain ⟨b,e,f,i⟩:=m a c oM;exact ⟨b - 1,o b e oM,by omega,by omega⟩;have t:d=0:=p.resolve_left k;subst t;obtain ⟨b,f,i,l⟩:=z k oM oM;exact ⟨b,f,i,by omega⟩
end
end
end Go.Proofs.YtnmapianpjamnaaGreatDoor
