/- Lemmas of the walk. Conditions: each its own. -/
import Derived.Test.YtnmapianpjamnaaGreatDoorPk16
import Derived.Test.YtnmapianpjamnaaGreatDoorPk19
import Derived.Test.YtnmapianpjamnaaGreatDoorPk20
import Derived.Test.YtnmapianpjamnaaGreatDoorProg
import Derived.Test.YtnmapianpjamnaaGreatDoorShl
import Derived.Test.YtnmapianpjamnaaGreatDoorShi
import Derived.Test.YtnmapianpjamnaaGreatDoorSht
set_option linter.all false
set_option maxRecDepth 100000
set_option maxHeartbeats 4000000
open Go.Proofs.Tryz
namespace Go.Proofs.YtnmapianpjamnaaGreatDoor
section
open Go.RowKit Go.Shelf
def VisF.mono {c G:Nat->Prop} {w w':World} (b:VisF c w w') (f:∀a,a < w.heap.size->c a->G a):VisF G w w':=⟨b.os,b.tape,b.output,b.size,fun a d g=>b.block a d fun e=>g (f a d e)⟩
def VisF.trans' {b d:Nat->Prop} {w w1 w':World} (g:VisF b w w1) (k:VisF d w1 w') (j:∀a,a < w.heap.size->d a->b a):VisF b w w':=by
 have i:=VisF.trans (F:=fun a=>b a∨w.heap.size<=a) (g.mono fun a _ c=>.inl c) (k.mono fun a _ f=>by
  by_cases e:a < w.heap.size;exact .inl (j a e f)
  · exact .inr oM)
 exact i.mono fun a m c=>c.elim id fun l=>by omega
structure LF (B:Nat) (w w':World) (own own':Nat->Nat):Prop where
 old:∀b,b < w.heap.size->own' b=own b
 vis:VisF (fun b=>own b≠0) w w'
 keep:Keep (fun b=>B<=b) w w'
def LF.refl (B:Nat) (w:World) (own:Nat->Nat):LF B w w own own:=⟨fun _ _=>rfl,VisF.of_vis (Vis.refl w),Keep.refl _ _⟩
def LF.trans {B:Nat} {w w1 w':World} {own e own':Nat->Nat} (a:LF B w w1 own e) (d:LF B w1 w' e own'):LF B w w' own own':=by
 have g:=a.keep.size;refine ⟨fun b c=>(d.old b oM).trans (a.old b c),a.vis.trans' d.vis fun b c f=>?_,a.keep.trans d.keep⟩;rw [<-a.old b c];exact f
def LF.of_vb {B:Nat} {w w':World} {own:Nat->Nat} (a:VB B w w'):LF B w w' own own:=⟨fun _ _=>rfl,VisF.of_vis a.1,a.2⟩
structure LiveM (w:World) (B:Nat) (own:Nat->Nat) (gl gk gp rate:Nat) (mv:Int) (R P:Nat) (L T:List Nat) (pr:List (Nat×Nat)):Prop where
 blk:Bk w gl 109 #[gk,gp,(rate:Int),.int .i64 mv]
 col:own gl=3
 walk:WalkE w B own gk L T
 perm:PermE w (fun b=>own b=1) gp R P pr
section
variable {w w' : World} {B : Nat} {own own' : Nat -> Nat} {gl gk gp rate : Nat} {mv : Int} {R P R' P' : Nat} {L T L' T' : List Nat} {pr pr' : List (Nat × Nat)}
def LiveM.bnd (b:LiveM w B own gl gk gp rate mv R P L T pr):∀a,own a≠0->B<=a/\a < w.heap.size:=b.walk.bnd
def LiveM.lo (a:LiveM w B own gl gk gp rate mv R P L T pr):B<=gl:=(a.bnd gl (by rw [a.col];decide)).1
def LiveM.gw (c:LiveM w B own gl gk gp rate mv R P L T pr):∃a b,Bk w gk 148 #[.pointer (some ⟨a,0,none⟩),.pointer (some ⟨b,0,none⟩)]/\WaveAt w B a L:=by
 obtain ⟨a,b,d,_,e,_⟩:=c.walk;exact ⟨a,b,d,e.at⟩
def LiveM.vis (a:LiveM w B own gl gk gp rate mv R P L T pr) (b:Vis w w'):LiveM w' B own gl gk gp rate mv R P L T pr:=
 ⟨b.bk a.blk dC dC,a.col,a.walk.vis b,a.perm.vis b⟩
def LiveM.len (b:LiveM w B own gl gk gp rate mv R P L T pr):LvW w B gl L∨¬T.Perm L:=by
 by_cases a:T.Perm L;exact .inl ⟨gk,_,_,_,b.blk,b.walk.at a⟩;exact .inr a
def LiveM.permR (g:LiveM w B own gl gk gp rate mv R P L T pr):PermR w gp R P pr:=by
 obtain ⟨⟨f,m,n,o,l,j,d,k,e,a,b⟩,c,p⟩:=g.perm;rw [b] at c;have i:=List.pairwise_map.1 c;have q:=wS a.nd a.at_.lt;exact ⟨0,f,m,n,o,l,j,d,k,e,a.at_,i,a.sz,by have:=a.sz;omega,b⟩
def LiveM.g (a:LiveM w B own gl gk gp rate mv R R L T pr) (b:T.Perm L):LiveG w B gl gk gp rate R L pr:=⟨⟨mv,a.blk⟩,a.walk.at b,a.permR⟩
end
section
variable {w : World} {B : Nat} {own : Nat -> Nat} {gl gk gp rate : Nat} {mv : Int} {R P : Nat} {L T : List Nat} {pr : List (Nat × Nat)}
end
def PermE.len {w:World} {c:Nat->Prop} {gp R P:Nat} {pr:List (Nat×Nat)} (b:PermE w c gp R P pr):pr.length<=R:=by
 have d:(pr.map fun a=>a.1).Nodup:=by rw [List.Nodup,List.pairwise_map];exact b.2.1.imp fun {j k} f=>Nat.ne_of_lt f
 have e:=wS (n:=R) d fun l g=>by obtain ⟨a,i,rfl⟩:=zAy.1 g;exact (b.2.2 a i).1
 simpa using e
def Smp (pr:List (Nat×Nat)) (a:Nat):Prop:=∃b∈pr,b.2=a
structure FG (S:Nat->Prop) (r N at_:Nat) (q:Int):Prop where
 zero:S 0
 le:∀s,S s->s<=N
 at_q:q=-1∨q=((N+1:Nat):Int)∨∃s:Nat,S s/\q=(s:Int)
 fine:∀s:Nat,S s->((s:Int) < q∨at_<=s)->s+r<=N->∃s',S s'/\s < s'/\s'<=s+r
 gap2:∀s:Nat,S s->s+2*r<=N->∃s',S s'/\s < s'/\s'<=s+2*r
def aCM (c:Nat->Prop) (d e:Nat):Prop:=∀a:Nat,c a->a+d<=e->∃b,c b/\a < b/\b<=a+d
def FG.congr {b c:Nat->Prop} {g d e:Nat} {f:Int} (j:FG b g d e f) (i:∀a,c a↔b a):FG c g d e f:=by
 have:c=b:=funext fun a=>propext (i a);rw [this];exact j
structure TxM (w:World) (B:Nat) (own:Nat->Nat) (gl gk gp rate:Nat) (mv:Int) (S T:List Nat) (N:Nat) (rs:List Nat) (pr:List (Nat×Nat)):Prop where
 suf:IsSuf S rs
 live:LiveM w B own gl gk gp rate mv (N+1) (N+1) (aL S rs) T pr
 tal:T.Perm (aL S rs)
 right:∀x∈pr,rs[x.1]?=some x.2
def TxM.vis {w w':World} {B:Nat} {own:Nat->Nat} {gl gk gp rate:Nat} {mv:Int} {c T:List Nat} {b:Nat} {d:List Nat} {pr:List (Nat×Nat)} (a:TxM w B own gl gk gp rate mv c T b d pr) (e:Vis w w'):TxM w' B own gl gk gp rate mv c T b d pr:=⟨a.suf,a.live.vis e,a.tal,a.right⟩
def LiveE (w:World) (B:Nat) (own:Nat->Nat) (gl:Nat) (a:List UInt8) (rate:Nat):Prop:=
 ∃gk gp mv T b pr,TxM w B own gl gk gp rate mv (aE a) T a.length b pr/\Smp pr 0/\aCM (Smp pr) rate a.length
def LiveE.vis {w w':World} {B:Nat} {own:Nat->Nat} {gl:Nat} {a:List UInt8} {rate:Nat} (b:LiveE w B own gl a rate) (e:Vis w w'):LiveE w' B own gl a rate:=by
 obtain ⟨gk,gp,mv,T,f,pr,c,d⟩:=b;exact ⟨gk,gp,mv,T,f,pr,c.vis e,d⟩
def LiveE.bnd {w:World} {B:Nat} {own:Nat->Nat} {gl:Nat} {d:List UInt8} {rate:Nat} (b:LiveE w B own gl d rate):∀a,own a≠0->B<=a/\a < w.heap.size:=by
 obtain ⟨gk,gp,mv,T,f,pr,c,e⟩:=b;exact c.live.bnd
def TxM.len {w:World} {B:Nat} {own:Nat->Nat} {gl gk gp rate:Nat} {mv:Int} {c:List UInt8} {T:List Nat} {a:Nat} {b:List Nat} {pr:List (Nat×Nat)} (e:TxM w B own gl gk gp rate mv (aE c) T a b pr) (g:c.length=a):(aL (aE c) b).length=a+1/\T.length=a+1/\b.length=a+1:=by
 have d:=e.suf.len;rw [aK,g] at d;have f:(aL (aE c) b).length=a+1:=by rw [dB,d]
 exact ⟨f,by rw [e.tal.length_eq,f],d⟩
def WaveS.low {w:World} {B B':Nat} {own:Nat->Nat} {f:Nat} {d:Nat->Value} {c:Nat->List Nat} {i j:Int} (a:WaveS w B own f d c i j) (b:B'<=B):WaveS w B' own f d c i j:=by
 refine ⟨a.blk,⟨zAk b a.base.1,a.base.2⟩,fun lv o=>?_,fun e g=>⟨zAk b (a.bnd e g).1,(a.bnd e g).2⟩⟩;obtain ⟨k,l,m,n⟩:=a.rows lv o;exact ⟨k,cU l b,m,n⟩
def WalkE.low {w:World} {B B':Nat} {own:Nat->Nat} {gk:Nat} {L T:List Nat} (d:WalkE w B own gk L T) (k:B'<=B):WalkE w B' own gk L T:=by
 obtain ⟨c,b,e,f,⟨a,l,g⟩,i,j⟩:=d;exact ⟨c,b,e,f,⟨a,l,g.low k⟩,i,j⟩
def aA8 (own:Nat->Nat) (b gk a:Nat):Nat:=if a=b then 2 else if a=gk then 2 else own a
def uR (d:Option Addr) (c j B:Nat) (L:List Nat) (w:World) (z:Rd w B 1 d c (L.map sv)) (t:B<=w.heap.size) (G:c<=896) (u:∀J∈L,J < 257):
 Calls prog 147 #[.slice d c j] w fun k w'=>∃gk own,k=.returned (.pointer (some ⟨gk,0,none⟩))/\w.heap.size<=gk/\WalkE w' w.heap.size own gk L L/\Below w.heap.size w w':=by
 obtain ⟨n,m⟩:=hqq2 z u;clear z u;go_enter func147,ntmps147;go_wp2_with fail;refine (rT d c j B L _ n.out t G m.out).mono ?_;rintro k w1 ⟨s,own,rfl,C,v⟩;obtain ⟨p,a⟩:=hqq2 C v;clear C v;go_wp2_with fail;refine (lH d c j B L w1 (n.out.below (a.out.mono t)) (by have:=a.out.size;omega) oM m.out).mono ?_;rintro k l ⟨e,rfl,O,A,f⟩;have D:=p.out.vis (Vis.of_below f);have x:=a.out.trans (f.mono a.out.size);obtain ⟨F,o,i,E⟩:=hqq4 D A x f.size;clear D A x f;go_wp2_with fail;go_ret;have I:=F.out.vis (w':=l.alloc (.cells #[s,e] 148)) ((Vis.refl _).alloc _);have y:=p.out.bnd;have S:=o.out.lt;have N:=a.out.size;have Q:=E.out;have H:=I.paint (own':=aA8 own e l.heap.size) (fun b M K=>by
  have:=(y b oM).2;unfold aA8;rw [zBv oM,zBv oM]) (fun b g=>by
  unfold aA8 at g;by_cases q:b=e;subst q;exact ⟨by omega,by simp;omega⟩
  · rw [zBv q] at g;by_cases r:b=l.heap.size;subst r;exact ⟨by omega,by simp⟩
    · rw [zBv r] at g;have:=y b g;exact ⟨this.1,by simp;omega⟩)
 refine ⟨_,_,rfl,i.out.size,⟨s,e,Bk.new _ _ _,?_,H,o.out.alloc _,?_⟩,i.out.alloc i.out.size _⟩
 · unfold aA8;rw [zBv oM,zBw rfl]
 · unfold aA8;rw [zBw rfl]
def rU (d:Option Addr) (b g B:Nat) (a:List UInt8) (w:World) (k:Rd w B 1 d b (a.map bv)) (t:B<=w.heap.size) (z:b<=895):
 Calls prog 70 #[.slice d b g] w fun f w'=>∃gk c,IsSuf (aE a) c/\f=.returned (.pointer (some ⟨gk,0,none⟩))/\w.heap.size<=gk/\(∃own,WalkE w' w.heap.size own gk (aL (aE a) c) (aL (aE a) c))/\Below w.heap.size w w':=by
 have p:=lhd k;clear k;go_enter func70,ntmps70;go_wp2_with fail;refine (iQ d b g B a _ p.out t oM).mono ?_;rintro f w1 ⟨c,n,s,l,rfl,j,i⟩;obtain ⟨q,o,e⟩:=hqq3 l j.rd i;clear l j i;go_wp2_with fail;refine (uR n (b+1) s _ _ w1 o.out nL oM (fY (gI a))).mono ?_;rintro f A ⟨gk,own,rfl,y,m,u⟩;have v:=e.out.trans (u.mono e.out.size);have x:=e.out.size;have r:=lhd m;clear m;go_wp2_with fail;go_ret;exact ⟨gk,c,q.out,rfl,by omega,⟨own,r.out.low x⟩,v⟩
def LiveE.far0 {w w':World} {B:Nat} {own:Nat->Nat} {gl:Nat} {g:List UInt8} {rate:Nat} {f:Nat->Prop} (j:LiveE w B own gl g rate) (e:Keep f w w') (d:∀a,f a->own a=0):LiveE w' B own gl g rate:=by
 obtain ⟨gk,gp,mv,T,o,pr,⟨k,b,l,m⟩,n⟩:=j;refine ⟨gk,gp,mv,T,o,pr,⟨k,⟨e.bk b.blk fun c=>?_,b.col,b.walk.far e fun a c=>?_,b.perm.keep e fun a c i=>?_⟩,l,m⟩,n⟩;have:=d _ c;have:=b.col;omega;have:=d a c;omega;have:=d a i;omega
def LiveE.low {w:World} {B B':Nat} {own:Nat->Nat} {gl:Nat} {b:List UInt8} {rate:Nat} (c:LiveE w B own gl b rate) (i:B'<=B):LiveE w B' own gl b rate:=by
 obtain ⟨gk,gp,mv,T,j,pr,⟨d,a,e,f⟩,g⟩:=c;exact ⟨gk,gp,mv,T,j,pr,⟨d,⟨a.blk,a.col,a.walk.low i,a.perm⟩,e,f⟩,g⟩
def LiveE.tp {w:World} {B:Nat} {own:Nat->Nat} {gl:Nat} {a:List UInt8} {rate:Nat} (b:LiveE w B own gl a rate) (j:a.length<=895):TpAt w B gl a rate:=by
 obtain ⟨gk,gp,mv,T,k,pr,⟨c,d,e,f⟩,i,l⟩:=b;exact ⟨k,gk,gp,pr,c,d.g e,f,i,j⟩
open Classical in
noncomputable def ownL (own:Nat->Nat) (gp b:Nat) (c d e:Value) (gl a:Nat):Nat:=if PF gp b c d e a then 1 else if a=gl then 3 else own a
def PermAt.low {w:World} {B gp d:Nat} {i j k g:Value} {R P:Nat} {e:List Nat} {b:List (Nat×Nat)} {f:List Bool} {c:List Nat} (a:PermAt w B gp d i j k g R P e b f c):PermAt w 0 gp d i j k g R P e b f c:=
 ⟨a.blk,cU a.lrow (zAp _),cU a.orow (zAp _),a.ar,cU a.trow (zAp _),cU a.frow (zAp _),a.apart,a.lt,⟨zAp _,zAp _⟩⟩
def wE (a:List (Nat×Nat)):(List.range a.length).map (fun b=>(aY a b,dM a b))=a:=(mO a).symm
def aAS {d:List Nat} {rate c b:Nat} (e:∃a,d[a]?=some b/\a < c) (i:b % rate=0):Smp (bG d rate c) b:=by
 obtain ⟨a,f,g⟩:=e;exact ⟨(a,b),(aAU _ _ _ _ _).2 ⟨g,by rw [zAb,f];rfl,i⟩,rfl⟩
def aAT {b:List UInt8} {d:List Nat} {rate:Nat} (c:IsSuf (aE b) d) (r:1<=rate):aCM (Smp (bG d rate (b.length+1))) rate b.length:=fun m ⟨n,k,e⟩ q=>by
 obtain ⟨o,a⟩:=n;have i:=(aAU _ _ _ _ _).1 k;have f:a=m:=e;subst f;refine ⟨a+rate,aAS ?_ (by rw [Nat.add_mod_right];exact i.2.2),by omega,zAs _⟩;obtain ⟨l,j,g⟩:=c.row (p:=a+rate) (by rw [aK];omega);refine ⟨l,by rw [zAa j,g],?_⟩;have:=c.len;rw [aK] at this;omega
def zW {w wr:World} {u w2s t:Nat} {own:Nat->Nat} {gl gk gp f rate k:Nat} {g i j:Value} {e:List UInt8} {c:List Nat} {o:List Bool} (K:e.length=k) (q:IsSuf (aE e) c) (Q:1<=rate) (X:k<=895) (I:WalkE wr u own gk (aL (aE e) c) (aL (aE e) c)) (M:∀a,own a≠0->a < w2s) (W:gl=w2s) (U:w2s < t) (E:Bk wr gl 109 #[gk,gp,(rate:Int),.int .i64 0])
 (l:PermAt wr t gp f g i j (.slice none 0 0) (k+1) (k+1) (List.range (bG c rate (k+1)).length) (bG c rate (k+1)) o []) (H:o.length=(bG c rate (k+1)).length) (S:∀a∈o,a=true) (V:u<=w2s):∃own',LiveE wr u own' gl e rate:=by
 subst K;have x:∀a,PF gp f g i j a->t<=a/\a < wr.heap.size:=fun a b=>by refine ⟨l.foot b,?_⟩;rcases b with rfl | rfl | b | b | b;exact l.blk.lt;exact l.ar.lt;exact (l.lrow.lt _ b).2;exact (l.orow.lt _ b).2;exact (l.trow.lt _ b).2
 have p:∀a,PF gp f g i j a->ownL own gp f g i j gl a=1:=fun a b=>by unfold ownL;rw [zBw b]
 have N:ownL own gp f g i j gl gl=3:=by unfold ownL;rw [zBv (fun d=>by have:=(x _ d).1;omega),zBw rfl]
 have O:∀a,a < w2s->ownL own gp f g i j gl a=own a:=fun a b=>by unfold ownL;rw [zBv (fun d=>by have:=(x _ d).1;omega),zBv oM]
 have Y:c.length=e.length+1:=by rw [q.len,aK]
 refine ⟨ownL own gp f g i j gl,gk,gp,0,_,c,bG c rate (e.length+1),⟨q,⟨E,N,I.paint (fun a _ C=>O a (M a oM)) (fun a r=>?_),⟨⟨f,g,i,j,.slice none 0 0,List.range (bG c rate (e.length+1)).length,bG c rate (e.length+1),o, [],?_,(wE _).symm⟩,kN _ _ _,fun y s=>?_⟩⟩,List.Perm.refl _,nX oM⟩,?_,aAT q Q⟩;unfold ownL at r;by_cases z:PF gp f g i j a;have:=x a z;exact ⟨by omega,this.2⟩;rw [zBv z] at r;by_cases A:a=gl;subst A;exact ⟨by omega,E.lt⟩;rw [zBv A] at r;exact I.bnd a r
 · have G:∀m,m < o.length->o[m]?=some true:=fun m F=>by rw [zAa F];congr 1;exact S _ (zBj F)
   refine ⟨l.low,p _ (.inl rfl),p _ (.inr (.inl rfl)),fun a b=>p _ (.inr (.inr (.inl b))),fun a b=>p _ (.inr (.inr (.inr (.inl b)))),fun a b=>p _ (.inr (.inr (.inr (.inr b)))),fun a b=>(by cases b),List.nodup_range,H,fun m=>?_,List.nodup_nil,fun m=>?_,by have:=aAV c rate (e.length+1);omega⟩
   · rw [zCg,<-H];constructor
     · intro d;exact (zAc.1 d).1
     exact G m
   · constructor
     · intro d;cases d
     · intro d;have v:=G m (zAc.1 d).1;rw [v] at d;cases d
 have v:=iX s;have C:=nX (rs:=c) (rate:=rate) (n:=e.length+1) oM y s;have D:=q.lt (zAd C);rw [aK] at D;exact ⟨v.1,D⟩;obtain ⟨y,s,J⟩:=zK (rate:=rate) q;exact ⟨y,s,J⟩
def gW (rate:Nat) (a1:Option Addr) (V av B:Nat) (W:List Sl) (s:List UInt8) (o:Nat) (bj:eW W=s) (J:s.length=o) (w:World) (aT:Rd w B 1 a1 V (W.map slV)) (aW:∀al∈W,Rd w B 1 al.A al.n (al.l.map bv)) (bh:B<=w.heap.size) (bN:V<=1000000) (aN:o<=895) (bw:1<=rate) (bP:rate<=64):
 Calls prog 17 #[(rate:Int),.slice a1 V av] w fun m w'=>∃gl own,m=.returned (.tuple #[.pointer (some ⟨gl,0,none⟩),.int .i64 0])/\w.heap.size<=gl/\LiveE w' w.heap.size own gl s rate/\Below w.heap.size w w':=by
 have bl:=J;have aG:=kE a1 V av B W s o bj J w aT aW bh oM oM;have bQ:¬((rate:Int) < 1):=oM;have bS:¬((rate:Int) > 64):=oM;clear aT aW;go_enter func17,ntmps17;go_wp2_with fail;refine aG.mono ?_;clear aG;rintro m w1 ⟨am,aw,rfl,aL,aa⟩;have bm:=aa;have az:=aL.rd;obtain ⟨a2,F⟩:=hqq2 az aa;clear aL aa bm az;go_wp2_with fail;refine (rU am o aw w1.heap.size s w1 a2.out nL aN).mono ?_;rintro m e ⟨gk,c,aX,rfl,bp,D,t⟩;have aB:=a2.out.below t;have aE:=F.out.trans (t.mono F.out.size);have x:=lhd aX;obtain ⟨bU,D⟩:=D;have aP:=D.bnd;have b5:=lhd aP;clear aP;obtain ⟨b9,b3,G⟩:=hqq3 (D.low F.out.size) (aB.mono t.size) aE;clear aX D aB aE t a2 F bp;go_wp2_with fail;obtain ⟨f,aO⟩:=eqx (o+1);have bs:(o:Int)+1=(f:Int):=oM;rw [bs];have N:=Bk.new e 109 #[gk,.pointer none,(rate:Int),.int .i64 0];have ac:Below e.heap.size e (e.alloc (.cells #[gk,.pointer none,(rate:Int),.int .i64 0] 109)):=bR.alloc nL _;obtain ⟨gl,M⟩:=eqx e.heap.size;rw [M] at N;rw [M];have H:=lhd M;generalize e.alloc (.cells #[gk,.pointer none,(rate:Int),.int .i64 0] 109)=w3 at N ac⊢;obtain ⟨I,a4,E⟩:=hqq3 N ac aO;clear N ac aO M;refine (vC f w3 oM).mono ?_;rintro m a0 ⟨gp,a7,rfl,aR,ab⟩;have O:=I.out.below ab I.out.lt;have bc:a0.cell? ⟨gl,1,none⟩=some (.pointer none):=(O.cell 1).trans rfl;have bd:=O.frozen 1;obtain ⟨ao,b7,b4⟩:=hqq3 O aR ab;clear O aR ab;go_wp2_with fail;have aH:=(Keep.refl (fun i=>i=gl) a0).setCell (p:=⟨gl,1,none⟩) (.inl rfl) (.pointer (some gp));have ah:=ao.out.set 1 (.pointer (some gp));have ai:=b7.out.keep aH (fun i s bb d k=>by
  subst d;have:=(aU k ao.out).1;subst this;decide)
 have y:Below e.heap.size e (a0.setCell ⟨gl,1,none⟩ (.pointer (some gp))):=(a4.out.trans (b4.out.mono a4.out.size)).setCell (by rw [H.out];exact zAs _) _;have bL:=H.out;have b2:=lhd (show e.heap.size < w3.heap.size by have:=I.out.lt;omega);have bI:e.heap.size<=w3.heap.size:=a4.out.size;clear bc bd;generalize a0.setCell ⟨gl,1,none⟩ (.pointer (some gp))=w5 at ah ai y⊢;have aj:=iP am o aw e.heap.size s w5 (b3.out.below y) y.size oM;rw [E.out] at aj;obtain ⟨a5,aq,a3⟩:=hqq3 ah ai y;clear aH ah ai y;refine aj.mono ?_;clear aj;rintro m bC ⟨bx,an,ax,aZ,rfl,aM,K⟩;obtain rfl:c=bx:=x.out.unique aZ;have aJ:c.length=f:=by rw [x.out.len,aK,J,E.out]
 have a:LvInv e w3.heap.size w5.heap.size gl gk gp a7 f rate an ax c 0 (.slice none 0 0) (.slice none 0 0) (.slice none 0 0) [] bC:=
  ⟨aq.out.below K,rfl,fun ba _ k=>(by cases k),aM.own,a5.out.below K a5.out.lt,a3.out.trans (K.mono a3.out.size)⟩
 obtain ⟨ap,g⟩:=hqq2 aJ a;clear a aM K aZ aJ a5 aq a3;go_wp2_with fail;go_loopw [8,9,36] (fun _ _ ak wr=>∃b:Nat,b<=f/\ak=.int .i64 b/\∃X Y Z u,LvInv e w3.heap.size w5.heap.size gl gk gp a7 f rate an ax c b X Y Z u wr/\∀i∈u,i=true) (fun _ _ ak _=>f -(intOf ak).toNat)
 case atStart=>exact ⟨0,by omega,rfl,_,_,_,_,g.out,fun i k=>by cases k⟩
 case round=>
  clear g;obtain ⟨b,bM,rfl,X,Y,Z,u,a,b0⟩:=hrel;have a6:=lhd b0;clear b0;by_cases Q:b < f
  · have ag:b < c.length:=(by rw [ap.out];exact Q);obtain ⟨j,n⟩:∃j,c[b]?=some j:=⟨_,zAa ag⟩;have bu:j < f:=(by have:=x.out.lt (zAd n);rw [aK,J,E.out] at this;exact this);have ad:c.getD b 0=j:=(by rw [zAb,n];rfl);have aV:=Rd.of_own a.row;obtain ⟨i,bT,bV,bg,aF,U,bn⟩:=aV.get Q;rw [zAf,n] at U;injection U with U;subst U bg;unfold sv at bn;have bF:=a.blk.cell 1;have br:((j:Int)).tmod (rate:Int)=((j % rate:Nat):Int):=(by rw [Int.tmod_eq_emod_of_nonneg oM];simp);have bq:((j:Int))%(rate:Int)=((j % rate:Nat):Int):=(by simp);obtain ⟨b1,S⟩:=eqx (j % rate);rw [S] at br bq;have q:=vY c rate b;rw [ad,S] at q;obtain ⟨bD,b6,bE,g,b8⟩:=hqq5 ad n S a aF;clear ad n S a aV ag aF;by_cases aS:b1=0
    · subst aS;rw [zBw rfl] at q;have v:=lhd q;clear q;go_wp2_with fail;have aC:=vE w3.heap.size gp a7 X Y Z f f (List.range (bG c rate b).length) (bG c rate b) u b j wr g.out.perm (tJ (kN c rate b)) (fun r ae=>(iX (tK (by simpa using ae))).1) (fun r ae m=>by
       have ay:=iX (tK (C:=bG c rate b) (by simpa using ae));have be:dM (bG c rate b) r=c.getD (aY (bG c rate b) r) 0:=ay.2;have bH:aY (bG c rate b) r < b:=ay.1;have ag:b < c.length:=(by rw [ap.out];exact Q);have bf:c[aY (bG c rate b) r]?=c[b]?:=(by rw [b6.out,<-m,be,zAb,zAa (show aY (bG c rate b) r < c.length by omega)];rfl);have:=(List.getElem?_inj (show aY (bG c rate b) r < c.length by omega) x.out.nodup).1 bf
       omega) Q bu g.out.len (by
        have:(bG c rate b).length<=b:=(by unfold bG;rw [zBc];exact zAk (zCq _ _) (by simp));omega) (by
        have:(bG c rate b).length<=b:=(by unfold bG;rw [zBc];exact zAk (zCq _ _) (by simp));simp;omega) (by have:=g.out.perm.blk.lt;have:=g.out.perm.lo.1;omega)
      refine aC.mono ?_;clear aC;rintro m bW ⟨rfl,af,bz,bA,bB,bt,bo,bJ,bK⟩;go_wp2_with fail;go_roundw
      case rel=>
       have a:=g.out;refine ⟨b+1,by omega,by go_num,bz,bA,bB,u++ [true],⟨?_,?_,?_,?_,?_,?_⟩,fun i k=>by rcases zCl.1 k with a8 | a8;exact a6.out i a8;exact List.mem_singleton.1 a8⟩;rw [v.out];simpa [List.range_succ] using bt
       · rw [v.out];simp [a.len]
       exact a.apt.next2 bo (fun ba a9=>by injection a9 with a9;subst a9;exact b8.out);refine aA a.row fun au bb aD z=>af.bk z (fun d=>?_);rcases d with d | d | d | d | d;subst d;exact Bk.ne z a.perm.blk dC rfl;subst d;exact Bk.ne z a.perm.ar dC rfl;exact aQ a.perm.lrow z dC d.symm;have t:i=au:=(by simpa [Value.ownBlock] using aD);subst t;exact a.apt _ rfl d;exact aQ a.perm.trow z dC d.symm;refine af.bk a.blk (fun d=>?_);have:=a.perm.foot d;have:=I.out.lt;omega;exact a.below.trans (af.to_below a.below.size (fun au aD d=>by have:=a.perm.foot d;omega))
      case measure=>simp [intOf];omega
    · rw [zBv aS] at q;have v:=lhd q;have bO:((b1:Int)==0)=false:=(by simp;omega);clear q;go_wp2_with fail;go_roundw
      case rel=>have a:=g.out;exact ⟨b+1,by omega,by go_num,X,Y,Z,u,⟨by rw [v.out];exact a.perm,by rw [v.out];exact a.len,a.apt,a.row,a.blk,a.below⟩,a6.out⟩
      case measure=>simp [intOf];omega
  · obtain rfl:f=b:=oM;have g:=lhd a;clear a;go_wp2_with fail;go_ret2;have a:=g.out;have n:=a.perm;have aI:=a.len;rw [<-E.out] at n aI;obtain ⟨own',bi⟩:=zW (w:=w) (w2s:=e.heap.size) bl x.out bw aN (b9.out.vis (Vis.of_below a.below)) (fun i k=>(b5.out i k).2) H.out.symm b2.out a.blk n aI a6.out G.out.size;exact ⟨gl,own',rfl,by have:=G.out.size;have:=H.out;omega,bi,G.out.trans (a.below.mono G.out.size)⟩
end
section
open Go.RowKit
@[irreducible] def zerC (n:Nat):Array Value:=fO .i64 n fun _=>0
@[irreducible] def filC (L:List Nat) (k:Nat):Array Value:=fO .i64 257 fun s=>if s < k then dZ L s 0 else 0
@[irreducible] def firC (L:List Nat) (k:Nat):Array Value:=fO .i64 257 fun s=>dZ L s k
@[irreducible] def toC (L:List Nat) (n k:Nat):Array Value:=fO .i64 n fun i=>if i < k then dZ L (L.getD i 0) i else 0
@[irreducible] def seenC (rs:List Nat) (n j:Nat):Array Value:=fO .i64 n fun i=>if j < rs.getD i 0 then 1 else 0
@[irreducible] def txtC (t:List UInt8) (j:Nat):Array Value:=fO .u8 t.length fun p=>if p < j then 0 else (t.getD p 0).toNat
def xW (a:Nat):Array.replicate a (Value.int .i64 0)=zerC a:=by unfold zerC;exact jI _ _
def aAf (L:List Nat):Array.replicate 257 (Value.int .i64 0)=filC L 0:=by
 unfold filC;rw [jI];exact bM fun b a=>by rw [zBv oM]
def aBu {L:List Nat} {a:Nat} (e:a < 257):(filC L a).setIfInBounds a (.int .i64 ((L.countP (fun f=>decide (f < a)):Nat):Int))=filC L (a+1):=by
 unfold filC;rw [gF e];refine bM fun d g=>?_;by_cases b:d=a
 · subst b;rw [zBw rfl,zBw oM];unfold dZ;simp
 · rw [zBv b];by_cases c:d < a
   · rw [zBw c,zBw oM]
   · rw [zBv c,zBv oM]
def aBw (L:List Nat):filC L 257=firC L 0:=by
 unfold filC firC;exact bM fun b a=>by rw [zBw a]
def aBv {L:List Nat} {k a:Nat} (b:a < 257):∃c,(filC L k)[a]?=some c:=by
 unfold filC;exact ⟨_,dD b⟩
def aBt {L:List Nat} {b a:Nat} (c:a < 257):(firC L b)[a]?=some (.int .i64 ((dZ L a b:Nat):Int)):=by
 unfold firC;exact dD c
def aBs {L:List Nat} {b a:Nat} (e:L[b]?=some a) (d:a < 257):(firC L b).setIfInBounds a (.int .i64 ((dZ L a b+1:Nat):Int))=firC L (b+1):=by
 unfold firC;rw [gF d];refine bM fun f g=>?_;rw [zV e];by_cases c:f=a
 · subst c;simp
 · rw [zBv c,zBv c]
def aAK (L:List Nat) (a:Nat):zerC a=toC L a 0:=by
 unfold zerC toC;exact bM fun c b=>by rw [zBv oM]
def xZ {L:List Nat} {c b a:Nat} (d:a < c):(toC L c b)[a]?=some (.int .i64 (((if a < b then dZ L (L.getD a 0) a else 0:Nat)):Int)):=by
 unfold toC;exact dD d
def aB0 {L:List Nat} {b a f:Nat} (i:L[a]?=some f) (g:a < b):(toC L b a).setIfInBounds a (.int .i64 ((dZ L f a:Nat):Int))=toC L b (a+1):=by
 unfold toC;rw [gF g];refine bM fun e j=>?_;by_cases c:e=a;subst c;rw [zBw rfl,zBw oM,zAb,i];rfl
 · rw [zBv c];by_cases d:e < a
   · rw [zBw d,zBw oM]
   · rw [zBv d,zBv oM]
def vX {b:List Nat} {d c:Nat} (f:∀a∈b,a<=c):zerC d=seenC b d c:=by
 unfold zerC seenC;refine bM fun g i=>?_;rw [zBv];rw [zAb];cases e:b[g]? with
 | none=>simp
 | some a=>simpa using f a (zAd e)
def zJ {d:List Nat} {c b a:Nat} (e:a < c) (f:d[a]?=some b):(seenC d c b)[a]?=some (.int .i64 0):=by
 unfold seenC;rw [dD e,zAb,f];simp
def zI {a:List Nat} {n b c:Nat} {o:List Nat} (m:IsSuf o a) (q:a.length=n) (l:c < n) (g:a[c]?=some (b+1)):(seenC a n (b+1)).setIfInBounds c (.int .i64 ((1:Nat):Int))=seenC a n b:=by
 unfold seenC;rw [gF l];refine bM fun j p=>?_;by_cases e:j=c
 · subst e;rw [zBw rfl,zAb,g,zBw (by simp)]
 · rw [zBv e];obtain ⟨d,i⟩:∃d,a[j]?=some d:=⟨_,zAa oM⟩;have r:d≠b+1:=fun k=>e (yB m (by rw [i,k]) g);rw [zAb,i];simp only [Option.getD_some];by_cases f:b+1 < d
   · rw [zBw f,zBw oM]
   · rw [zBv f,zBv oM]
def yR (a:List UInt8):Array.replicate a.length (Value.int .u8 0)=txtC a a.length:=by
 unfold txtC;rw [jI];exact bM fun c b=>by rw [zBw b]
def aAG {b:List UInt8} {a:Nat} {c:UInt8} (f:b[a]?=some c):(txtC b (a+1)).setIfInBounds a (bv c)=txtC b a:=by
 have i:=(zAc.1 f).1;unfold txtC bv;rw [gF i];refine bM fun g j=>?_;by_cases d:g=a;subst d;rw [zBw rfl,zBv oM,zAb,f];rfl
 · rw [zBv d];by_cases e:g < a
   · rw [zBw e,zBw oM]
   · rw [zBv e,zBv oM]
def aAH {t:List UInt8} {j a:Nat} (b:a < t.length):∃c,(txtC t j)[a]?=some c:=by
 unfold txtC;exact ⟨_,dD b⟩
def aAI (b:List UInt8):(txtC b 0).toList=b.map bv:=by
 unfold txtC;rw [aAp];apply List.ext_getElem?;intro c;rw [zAf,zAf];by_cases a:c < b.length
 · rw [zCh a,zAa a];simp [bv,a]
 rw [zBg (by simpa using a),zBg (by simpa using a)];rfl
def yS (a:List UInt8) (b:Nat):(txtC a b).size=a.length:=by unfold txtC;exact gE _ _ _
def zM (a:Nat) (i:a<=1000000) (w:World):(Instr.makeSlice 22 (.int .i64 (a:Int)) (.int .i64 (a:Int))).run prog w=.ok (.slice (some w.heap.size) a a) (w.alloc (.cells (Array.replicate a (.int .u8 0)) 5)):=by
 obtain ⟨g,c,d,e,f⟩:=info_parts kH;have:=run_make (P:=prog) w 22 5 g (.int .u8 0) underlying22 c d .i64 .i64 a a oM (Int.le_refl _) (by rw [f];omega) oM;rw [this,e];have b:madeCells #[.int .u8 0] a=Array.replicate a (.int .u8 0):=by apply Array.ext';rw [toList_madeCells_one];simp
 simp only [Value.cells,zBq,zBl];rw [b]
def oZ (aF:Option Addr) (V B:Nat) (g:List UInt8) (N:List Nat) (w:World) (ai:IsSuf (aE g) N) (a8:Rd w B 1 aF (g.length+1) ((aL (aE g) N).map sv)) (aR:B<=w.heap.size) (cq:g.length<=895):
 Calls prog 86 #[.slice aF (g.length+1) V] w fun o w'=>∃bk bp,o=.returned (.tuple #[.slice bk g.length bp,.bool true])/\Made w' w.heap.size 5 1 bk g.length bp (g.map bv)/\Below w.heap.size w w':=by
 obtain ⟨L,ay⟩:=eqx (aL (aE g) N);have z:=fY (rs:=N) (gI g);have aV:=xF ai;have b3:L.length=g.length+1:=by rw [<-ay,dB,ai.len,aK]
 rw [ay] at a8 z aV;obtain ⟨v,ae⟩:=eqx g.length;obtain ⟨b,b6⟩:=eqx (v+1);rw [ae,b6] at a8 b3;rw [ae] at cq;have bM:=lH aF b V B L w a8 aR oM z;obtain ⟨U,a0,rfl,cg,bC⟩:=a8.2 oM;have bD:∀wr,Below w.heap.size w wr->∀(a i:Nat),L[a]?=some i->wr.cell? ⟨U,a0+a,none⟩=some (.int .i64 (i:Int)):=fun wr f a i I=>(f.cell (p:=⟨U,a0+a,none⟩) (zAl cg aR)).trans (bC a _ (by rw [zAf,I];rfl));obtain ⟨c7,aJ,c4,ap,al,a3,c1⟩:=hqq7 a8 bD z b3 ay ae aV;rw [ae,b6];clear a8 bC bD z b3 ay ae aV;go_enter func86,ntmps86;go_wp2_with fail;refine bM.mono ?_;clear bM;rintro o w1 ⟨a5,rfl,cS,bz,bt⟩;obtain ⟨ao,aG⟩:=hqq2 bz bt;clear bz bt;go_wp2_with fail;have b8:=mV a5 L 0 w1 ao.out oM;rw [c1.out] at b8;refine b8.mono ?_;clear b8;rintro o a4 ⟨rfl,aT⟩;obtain ⟨aI,am⟩:=hqq2 (ao.out.below aT ao.out.lt) (aG.out.trans (aT.mono aG.out.size));clear aT ao aG;go_wp2_with fail;have cY:b<=896:=oM;refine wp_region_any kR ?_;refine nN [29,30,31,32,33,34,6,7] [31,34] 8 (Grow) (Below a4.heap.size a4) [k0 (is (.slice (some ⟨U,a0,none⟩) b V)),k0 (is (b:Int)),k0 (fun a1 a2=>∃e,a1=.slice (some ⟨e,0,none⟩) b b/\a4.heap.size<=e/\Bk a2 e 3 (zerC b)),k0 (is (.slice (some ⟨U,a0,none⟩) b V)),k0 (is (b:Int)),k0 (fun a1 a2=>∃e,a1=.slice (some ⟨e,0,none⟩) b b/\a4.heap.size<=e/\Bk a2 e 3 (zerC b)),kEq 31,kEq 34] _ _ rfl kR kR (bR.drew) (oP rfl) (fun w w' aw a=>a.elim (fun a=>aw.trans (a.mono aw.size)) (fun a=>aw.trans (a.mono aw.size))) (by repeat' (first | exact xD _ | exact yK _ |(refine zAe.2 ⟨?_,?_⟩)|(intro c D;cases D))) (by repeat' (first | exact nC _ _ | exact kK _ _ | exact eS (fun _ _ _ ⟨e,aO,aQ,ad⟩ a=>⟨e,aO,aQ,ad.below a ad.lt⟩)|(refine zAe.2 ⟨?_,?_⟩)|(intro c D;cases D))) (by simp only [List.eraseIdx_cons_zero,List.eraseIdx_cons_succ,List.eraseIdx_nil];repeat' (first | exact nC _ _ | exact kK _ _ | exact eS (fun _ _ _ ⟨e,aO,aQ,ad⟩ a=>⟨e,aO,aQ,ad.below a ad.lt⟩)|(refine zAe.2 ⟨?_,?_⟩)|(intro c D;cases D))) ?_ ?_
 · refine bN ?_;refine aB (bJ rfl rfl fun x _ _ _ _ _ l _ _ _ _ q=>?_) ?_
   · have ce:x (.tmp 0)=.slice (some ⟨U,a0,none⟩) b V:=l 0 kR;clear l;go_simp;exact q _ _ (bW bR rfl rfl) rfl
   refine aB (bJ rfl rfl fun _ _ _ _ _ _ l E _ _ _ q=>?_) ?_
   · have cG:_=_:=E 0 29 kR rfl;clear l;go_simp;exact q _ _ (bW bR rfl rfl) rfl
   refine aB (bJ rfl rfl fun _ _ aS _ _ _ l E _ _ _ q=>?_) ?_
   · obtain ⟨W,ax⟩:=aS;have cH:_=_:=E 1 30 kR rfl;clear l;have bh:=hD b oM;go_simp;exact q _ _ (eY (bR.alloc nL _) rfl (fun e ag=>by simp [blk?] at ag;subst ag;simp)) ⟨_,rfl,W.size,by rw [<-xW];exact Bk.new _ _ _⟩
   refine aB (bJ rfl rfl fun x _ _ _ _ _ l _ _ _ _ q=>?_) ?_
   · have ce:x (.tmp 0)=.slice (some ⟨U,a0,none⟩) b V:=l 0 kR;clear l;go_simp;exact q _ _ (bW bR rfl rfl) rfl
   refine aB (bJ rfl rfl fun _ _ _ _ _ _ l E _ _ _ q=>?_) ?_
   · have cI:_=_:=E 3 32 kR rfl;clear l;go_simp;exact q _ _ (bW bR rfl rfl) rfl
   refine aB (bJ rfl rfl fun _ _ aS _ _ _ l E _ _ _ q=>?_) ?_
   · obtain ⟨W,ax⟩:=aS;have cJ:_=_:=E 4 33 kR rfl;clear l;have bh:=hD b oM;go_simp;exact q _ _ (eY (bR.alloc nL _) rfl (fun e ag=>by simp [blk?] at ag;subst ag;simp)) ⟨_,rfl,W.size,by rw [<-xW];exact Bk.new _ _ _⟩
   refine aB (bJ rfl rfl fun _ _ _ _ _ _ l _ _ _ _ q=>?_) ?_
   · clear l;go_simp;exact q _ _ (bW bR rfl rfl) rfl
   refine aB (bJ rfl rfl fun _ _ _ _ _ _ l _ _ _ _ q=>?_) ?_
   · clear l;go_simp;exact q _ _ (bW bR rfl rfl) rfl
   exact aP
 · intro x ak W ax E cf;have br:x (.tmp 6)=x (.tmp 31):=E 6 6 rfl;have bs:x (.tmp 7)=x (.tmp 34):=E 7 7 rfl;have ct:(fun a1 a2=>∃e,a1=.slice (some ⟨e,0,none⟩) b b/\a4.heap.size<=e/\Bk a2 e 3 (zerC b)) (x (.tmp 31)) ak:=E 2 31 rfl;have cu:(fun a1 a2=>∃e,a1=.slice (some ⟨e,0,none⟩) b b/\a4.heap.size<=e/\Bk a2 e 3 (zerC b)) (x (.tmp 34)) ak:=E 5 34 rfl;simp only [zqq];clear E cf;obtain ⟨y,bb,bc,bU⟩:=ct;obtain ⟨m,O,ah,bO⟩:=cu;have bE:y≠m:=fun o=>ax.2 31 (by simp) 34 (by simp) dC y (by rw [bb];rfl) (by rw [O,o];rfl);have bu:=am.out.trans (W.mono am.out.size);have bA:=aI.out.below W aI.out.lt;have cP:=am.out.size;rw [br,bs,bb,O];generalize x (.tmp 29)=u29;generalize x (.tmp 30)=u30;generalize x (.tmp 32)=u32;generalize x (.tmp 33)=u33;obtain ⟨ar,aq,aH,ab⟩:=hqq4 bU bO bu bA;clear bU bO bu bA ax br bs bb O W;go_wp2_with fail;obtain ⟨C,a6⟩:=eqx ak.heap.size;have aX:Bk (ak.alloc (.cells Tryz.zeroCells202 202)) C 202 (filC L 0):=(by rw [<-a6,<-aAf];exact Bk.new _ _ _);have Q:=ar.out.alloc (.cells Tryz.zeroCells202 202);have Y:=aq.out.alloc (.cells Tryz.zeroCells202 202);have bf:=ab.out.alloc (.cells Tryz.zeroCells202 202);have X:=aH.out.alloc aH.out.size (.cells Tryz.zeroCells202 202);have cj:y < C:=(by rw [<-a6];exact ar.out.lt);have cQ:m < C:=(by rw [<-a6];exact aq.out.lt);have cR:a5 < C:=(by rw [<-a6];exact ab.out.lt);have cU:a5≠y:=Bk.ne ab.out ar.out dC;have cT:a5≠m:=Bk.ne ab.out aq.out dC;rw [a6];generalize ak.alloc (.cells Tryz.zeroCells202 202)=W1 at aX Q Y bf X⊢;clear ar aq aH ab aI am a6;go_loopw [35] (fun J wr=>∃a:Nat,a<=257/\J=.int .i64 (a:Int)/\Bk wr C 202 (filC L a)/\Bk wr y 3 (zerC b)/\Bk wr m 3 (zerC b)/\Bk wr a5 236 (tcells L)/\Below w.heap.size w wr) (fun J _=>257 -(intOf J).toNat)
   case atStart=>exact ⟨0,by omega,rfl,aX,Q,Y,bf,X⟩
   case round=>
    clear aX Q Y bf X;obtain ⟨a,aY,rfl,H,F,r,ht,f⟩:=hrel;by_cases z:a < 257
    · have cX:((a:Int) < 257):=oM;have aU:=iN a5 L a wr ht z (by rw [ap.out];omega);obtain ⟨d,Z⟩:∃d,L.countP (fun i=>decide (i < a))=d:=⟨_,rfl⟩;have bd:=aBu (L:=L) z;rw [Z] at aU bd;obtain ⟨S,u,s,bn,c8⟩:=hqq5 H F r ht bd;clear H F r ht bd Z;go_wp2_with fail;refine aU.mono ?_;clear aU;rintro o d1 ⟨rfl,af⟩;have az:=S.out.below af S.out.lt;obtain ⟨cw,aj⟩:=aBv (L:=L) (k:=a) z;have cA:=(az.cell a).trans aj;have cM:=az.frozen a;have c2:=lhd az;clear az aj;go_wp2_with fail;go_roundw
      case rel=>exact ⟨a+1,by omega,by go_num,by rw [<-c8.out];exact c2.out.set a _,(u.out.below af u.out.lt).far (by simp;omega) _,(s.out.below af s.out.lt).far (by simp;omega) _,(bn.out.below af bn.out.lt).far (by simp;omega) _,(f.trans (af.mono f.size)).setCell (by simp;omega) _⟩
      case measure=>simp [intOf];omega
    · have aZ:a=257:=oM;subst aZ;rw [aBw] at H;have bq:((257:Nat):Int)=257:=rfl;rw [bq];clear bq;obtain ⟨S,u,s,A⟩:=hqq4 H F r f;clear H F r ht f z aY;go_wp2_with fail;have ck:w.heap.size<=m:=oM;have cm:w.heap.size<=y:=oM;have ci:w.heap.size<=C:=oM;have bK:C≠m:=oM;have bL:m≠C:=oM;go_loopw [46] (fun J wr=>∃a:Nat,a<=b/\J=.int .i64 (a:Int)/\Bk wr C 202 (firC L a)/\Bk wr y 3 (zerC b)/\Bk wr m 3 (toC L b a)/\Below w.heap.size w wr) (fun J _=>b -(intOf J).toNat)
      case atStart=>exact ⟨0,by omega,rfl,S.out,u.out,by rw [<-aAK];exact s.out,A.out⟩
      case round=>
         clear S u s A;obtain ⟨a,aY,rfl,H,F,r,f⟩:=hrel;by_cases z:a < b
         · obtain ⟨i,I⟩:∃i,L[a]?=some i:=⟨_,zAa (by rw [ap.out];exact z)⟩;have bX:=c4.out i (zAd I);have au:=aJ.out wr f a i I;obtain ⟨d,Z⟩:=eqx (dZ L i a);have cZ:d<=1000:=(by have:=yF L i a;rw [Z,ap.out] at this;omega);have cy:wr.cell? ⟨C,i,none⟩=some (.int .i64 (d:Int)):=(by rw [<-Z];exact (H.cell i).trans (aBt bX));have cK:=H.frozen i;have cz:wr.cell? ⟨m,a,none⟩=some (.int .i64 (((if a < a then dZ L (L.getD a 0) a else 0:Nat)):Int)):=(r.cell a).trans (xZ z);have cL:=r.frozen a;have a9:=aB0 I z;have aa:=aBs I bX;rw [Z] at a9 aa;have cO:IntKind.i64.wrap ((d:Int)+1)=((d+1:Nat):Int):=(by rw [IntKind.wrap_i64];omega);obtain ⟨S,u,s,aM,aN⟩:=hqq5 H F r a9 aa;clear H F r a9 aa Z;go_wp2_with fail;go_roundw
           case rel=>exact ⟨a+1,by omega,by go_num,by rw [<-aN.out];exact (S.out.far (p:=⟨m,a,none⟩) bK _).set i _,(u.out.far (p:=⟨m,a,none⟩) bE _).far (p:=⟨C,i,none⟩) (Nat.ne_of_lt cj) _,by rw [<-aM.out];exact (s.out.set a _).far (p:=⟨C,i,none⟩) bL _,(f.setCell (p:=⟨m,a,none⟩) ck _).setCell (p:=⟨C,i,none⟩) ci _⟩
           case measure=>simp [intOf];omega
         · have aZ:b=a:=oM;subst aZ;obtain ⟨u,s,A⟩:=hqq3 F r f;have ch:=f.size;clear H F r f z aY bK bL;have cN:((b:Int) - 1)=(v:Int):=oM;have bh:=zM v oM;go_wp2_with fail;obtain ⟨G,a7⟩:=eqx wr.heap.size;have bg:Bk (wr.alloc (.cells (Array.replicate v (.int .u8 0)) 5)) G 5 (txtC g v):=(by rw [<-a7,<-a3.out,<-yR];exact Bk.new _ _ _);have Q:=u.out.alloc (.cells (Array.replicate v (.int .u8 0)) 5);have Y:=s.out.alloc (.cells (Array.replicate v (.int .u8 0)) 5);have X:=A.out.alloc A.out.size (.cells (Array.replicate v (.int .u8 0)) 5);have bI:y≠G:=Nat.ne_of_lt (by rw [<-a7];exact u.out.lt);have bH:m≠G:=Nat.ne_of_lt (by rw [<-a7];exact s.out.lt);have bG:w.heap.size<=G:=(by rw [<-a7];exact A.out.size);rw [a7];generalize wr.alloc (.cells (Array.replicate v (.int .u8 0)) 5)=W2 at bg Q Y X⊢;clear u s A a7 bh ch;have bT:N.length=b:=(by have:=congrArg List.length al.out;rw [dB,ap.out] at this;exact this);have b2:∀c∈N,c<=v:=fun c D=>by have:=ai.lt D;rw [aK,a3.out] at this;omega
           rw [vX b2] at Q;have ba:=tI ai;rw [a3.out] at ba;obtain ⟨bm,cx,ac⟩:=hqq3 bT b2 ai;clear bT b2;go_loopw [13,14] (fun cv J wr=>∃M c:Nat,M<=v/\N[c]?=some M/\cv=.int .i64 (c:Int)/\J=.int .i64 ((M:Int) - 1)/\Bk wr y 3 (seenC N b M)/\Bk wr m 3 (toC L b b)/\Bk wr G 5 (txtC g M)/\Below w.heap.size w wr) (fun _ J _=>(intOf J+1).toNat)
           case atStart=>exact ⟨v,0,by omega,ba,rfl,by first | rfl | go_num,Q,Y,bg,X⟩
           case round=>
            clear Q Y bg X ba;obtain ⟨M,c,cW,D,rfl,rfl,F,r,I,f⟩:=hrel;have aA:c < b:=(by rw [<-bm.out];exact (zAc.1 D).1);by_cases co:M=0
            · subst co;have b0:=zX ac.out D;rw [al.out] at b0;have au:=aJ.out wr f c 0 b0;have cp:(((0:Nat):Int) - 1)=-1:=rfl;rw [cp];have b5:=yG (B:=w.heap.size) I bG ((yS g 0).trans a3.out) (by unfold maxLen;omega);rw [aAI] at b5;obtain ⟨bl,A⟩:=hqq2 b5 f;clear F r I f b5 b0;have b1:=iQ (some ⟨G,0,none⟩) v v wr.heap.size g wr bl.out.rd nL oM;rw [b6] at b1;go_wp2_with fail;refine b1.mono ?_;clear b1;rintro o bj ⟨d0,bZ,cd,bc,rfl,b4,K⟩;have cs:=bc.unique ac.out;subst cs;rw [al.out] at b4;have bV:=oY bZ (some ⟨U,a0,none⟩) b cd V bj.heap.size L bj b4.rd (((c7.out.below (A.out.mono aR)).below (K.mono (by have:=A.out.size;omega))).mono (by have:=A.out.size;have:=K.size;omega)) nL oM;have an:=lhd K;clear K b4 bc au;go_wp2_with fail;refine bV.mono ?_;clear bV;rintro o d2 ⟨rfl,bx⟩;have c0:=lhd bx;clear bx;go_wp2_with fail;go_ret2;have bw:=an.out.trans (c0.out.mono an.out.size);exact ⟨_,_,rfl,bl.out.below bw,A.out.trans (bw.mono A.out.size)⟩
            · obtain ⟨d,rfl⟩:∃d,M=d+1:=⟨M - 1,by omega⟩;have cr:(((d+1:Nat):Int) - 1)=(d:Int):=oM;rw [cr];have bS:d < g.length:=(by rw [a3.out];omega);obtain ⟨av,aW⟩:∃av,g[d]?=some av:=⟨_,zAa bS⟩;obtain ⟨bi,bQ,bP⟩:=ac.out.row (p:=d) (by rw [aK,a3.out];omega);have b9:N[bi]?=some d:=(by rw [zAa bQ,bP]);obtain ⟨O,ah⟩:=aBd ac.out D b9 aW;rw [al.out] at O ah;have au:=aJ.out wr f c _ O;obtain ⟨bY,be⟩:=eqx (av.toNat+1);have bB:=mW av bY be.symm wr;rw [be] at O ah au;have a9:=zI (n:=b) ac.out bm.out aA D;have aa:=aAG aW;have bF:(toC L b b)[c]?=some (.int .i64 (bi:Int)):=(by rw [xZ aA,zBw aA,zAb,O];show some (Value.int .i64 ((dZ L bY c:Nat):Int))=_;rw [ah]);obtain ⟨cw,aj⟩:=aAH (t:=g) (j:=d+1) bS;obtain ⟨c6,aM,aN,c3,u,s,bo,ca,c9⟩:=hqq9 b9 a9 aa bF F r I aj (zJ aA D);clear b9 bP bQ O ah be a9 aa bF F r I aj aW;go_wp2_with fail;refine bB.mono ?_;clear bB;rintro o bj ⟨rfl,K⟩;have aD:=u.out.below K u.out.lt;have b7:=s.out.below K s.out.lt;have aC:=bo.out.below K bo.out.lt;have cB:=(aD.cell c).trans c9.out;have cC:=aD.frozen c;have cD:=(b7.cell c).trans c3.out;have cE:=(aC.cell d).trans ca.out;have cF:=aC.frozen d;have cl:m≠y:=fun o=>bE o.symm;have cn:G≠y:=fun o=>bI o.symm;have cV:G≠m:=fun o=>bH o.symm;obtain ⟨cc,c5,cb,an⟩:=hqq4 aD b7 aC (f.trans (K.mono f.size));clear aD b7 aC K f;unfold bv;go_wp2_with fail;go_roundw
              case rel=>
               refine ⟨d,bi,by omega,c6.out,rfl,?_,?_,?_,?_,?_⟩
               · first | rfl | go_num
               rw [<-aM.out];exact (cc.out.set c _).far (p:=⟨G,d,none⟩) bI _;exact (c5.out.far (p:=⟨y,c,none⟩) cl _).far (p:=⟨G,d,none⟩) bH _;rw [<-aN.out];exact (cb.out.far (p:=⟨y,c,none⟩) cn _).set d _;exact (an.out.setCell (p:=⟨y,c,none⟩) cm _).setCell (p:=⟨G,d,none⟩) bG _
              case measure=>simp [intOf]
end
end Go.Proofs.YtnmapianpjamnaaGreatDoor
