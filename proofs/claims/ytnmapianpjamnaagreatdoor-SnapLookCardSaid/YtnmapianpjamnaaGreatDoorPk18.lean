/- Lemmas of the walk. Conditions: each its own. -/
import Derived.Test.YtnmapianpjamnaaGreatDoorPk15
import Derived.Test.YtnmapianpjamnaaGreatDoorProg
import Derived.Test.YtnmapianpjamnaaGreatDoorShl
set_option linter.all false
set_option maxRecDepth 100000
set_option maxHeartbeats 2000000
open Go.Proofs.Tryz
namespace Go.Proofs.YtnmapianpjamnaaGreatDoor
section
open Go.RowKit
def kH:(prog.info? 5).map (fun a=>(a.zero,a.size,a.bytes))=some (some (.int .u8 0),1,1):=by kernel_rfl
def aBS (a:Nat) (w:World) (q:a<=1099511627776):
 Calls prog 146 #[.slice none 0 0,(a:Int)] w fun i w'=>∃e,i=.returned e/\w'.ownsRow w.heap.size 5 1 e 0 []/\Below w.heap.size w w':=by
 obtain ⟨n,j,l,r,m⟩:=info_parts kH;rcases zBa a with b | b
 · subst b;go_enter func146,ntmps146;go_wp2;go_ret;exact ⟨_,rfl,World.ownsRow_nil _ _ _ _,Below.refl _ _⟩
 · have c:=Lib.run_append_nil_zeros (P:=prog) w 22 3 22 5 n (.int .u8 0) .i64 .i64 underlying22 underlying3 j l a b oM oM (by rw [m];omega);have p:=grownCap_ge w a 0 5;have k:=grownCap_le_maxLen w a 0 5 (by unfold maxLen;omega);generalize grownCap w a 0 5=cp at*
   have d:(Builtin.zeroCells (Value.int .u8 0).cells a++Builtin.zeroCells (Value.int .u8 0).cells (cp - a)).size=cp*1:=(by simp [Builtin.zeroCells,Value.cells];omega);obtain ⟨g,f⟩:=hqq2 d c;clear d c;have o:¬((a:Int) < 0):=oM;go_enter func146,ntmps146;go_wp2_with (at_builtin;refine Lib.wpList_append_run _ rfl (.tmp 20) (.tmp 21) _ _ rfl _ _ rfl rfl _ _ f.out ?_);go_ret;exact ⟨_,rfl,World.ownsRow_made _ _ _ nL k g.out,bR.drew.alloc nL _⟩
structure Sl where
 A:Option Addr
 n:Nat
 c:Nat
 l:List UInt8
def slV (a:Sl):Value:=.slice a.A a.n a.c
def eW (a:List Sl):List UInt8:=a.flatMap (·.l)
def qJ (b:List Sl) (a:Nat) (c:Sl) (d:b[a]?=some c):eW (b.take (a+1))=eW (b.take a)++c.l:=by
 rw [zAv,d];simp [eW]
def rQ (a:List Sl) (b:Nat):(eW (a.take b)).length<=(eW a).length:=by
 have:eW a=eW (a.take b)++eW (a.drop b):=by unfold eW;rw [<-List.flatMap_append,zAu]
 rw [this,zAi];omega
def kE (J:Option Addr) (f a4 B:Nat) (d:List Sl) (T:List UInt8) (m:Nat) (x:eW d=T) (W:T.length=m) (w:World) (D:Rd w B 1 J f (d.map slV)) (E:∀b∈d,Rd w B 1 b.A b.n (b.l.map bv)) (V:B<=w.heap.size) (ap:f<=1099511627776) (ad:m<=1099511627776):
 Calls prog 69 #[.slice J f a4] w fun U w'=>∃s t,U=.returned (.slice s m t)/\Made w' w.heap.size 5 1 s m t (T.map bv)/\Below w.heap.size w w':=by
 obtain ⟨al,aa,ai,aj,ak⟩:=info_parts kH;have X:d.length=f:=by simpa using D.1
 have Y:∀a,(eW (d.take a)).length<=1099511627776:=fun a=>by have:=rQ d a;rw [x] at this;omega
 have a0:∀a b,d[a]?=some b->b.l.length=b.n/\(eW (d.take (a+1))).length=(eW (d.take a)).length+b.n:=fun a b e=>by
  have o:=(E b (zAd e)).1;have g:b.l.length=b.n:=by simpa using o
  rw [qJ d a b e,zAi,g];exact ⟨rfl,rfl⟩
 obtain ⟨k,O,S,Q,a2,M,K⟩:=hqq7 X Y a0 (D.mono V) (fun b e=>(E b e).mono V) x W;clear X Y a0 D E x W;go_enter func69,ntmps69;go_wp2;go_loopw [3,11] (fun I j wr=>∃a:Nat,a<=f/\j=.int .i64 a/\I=.int .i64 ((eW (d.take a)).length:Int)/\w=wr) (fun _ j _=>f -(intOf j).toNat)
 case atStart=>exact ⟨0,zAp _,rfl,by simp [eW],rfl⟩
 case round=>
  obtain ⟨a,ab,rfl,rfl,rfl⟩:=hrel;by_cases C:a < f
  · obtain ⟨b,e⟩:∃b,d[a]?=some b:=⟨d[a]'(by have:=k.out;omega),zAa (by have:=k.out;omega)⟩;obtain ⟨a3,am,an,rfl,a7,i,y⟩:=Q.out.get C;rw [zAf,e] at i;simp at i;subst i;unfold slV at y;obtain ⟨o,g⟩:=S.out a b e;have v:=O.out (a+1);generalize Z:(eW (d.take a)).length=H at*
    have u:=lhd g;rw [g] at v;clear o g e Z;have aq:¬((H:Int)+(b.n:Int) < 0):=oM;go_wp2;go_roundw
    case rel=>exact ⟨a+1,by omega,by go_num,by rw [u.out];go_num,trivial⟩
    case measure=>simp [intOf];omega
  · have z:a=f:=oM;have a9:f<=a:=oM;have r:d.take a=d:=zAg (by have:=k.out;omega);rw [r,M.out,K.out];clear z r;go_wp2_with fail;refine (aBS m _ ad).mono ?_;rintro U w1 ⟨ar,rfl,ae,a6⟩;go_wp2_with fail;go_loopw [6,27] (fun I j wr=>∃a:Nat,a<=f/\j=.int .i64 a/\wr.ownsRow w.heap.size 5 1 I (eW (d.take a)).length ((eW (d.take a)).map bv)/\Below w.heap.size w wr) (fun _ j _=>f -(intOf j).toNat)
    case atStart=>exact ⟨0,zAp _,rfl,ae,a6⟩
    case round=>
        obtain ⟨a,ab,rfl,q,p⟩:=hrel;have a1:=p.size;by_cases C:a < f
        · obtain ⟨b,e⟩:∃b,d[a]?=some b:=⟨d[a]'(by have:=k.out;omega),zAa (by have:=k.out;omega)⟩;obtain ⟨a3,am,an,rfl,a7,i,y⟩:=(Q.out.below p).get C;rw [zAf,e] at i;simp at i;subst i;unfold slV at y;have ag:=lhd ((a2.out b (zAd e)).below p);obtain ⟨o,g⟩:=S.out a b e;have v:=O.out (a+1);obtain ⟨ah,u⟩:=hqq2 (qJ d a b e) g;generalize Z:(eW (d.take a)).length=H at*
          rw [g] at v;have N:=lhd q;clear o g e q;go_wp2_with (at_builtin;refine bK _ rfl (.tmp 31) (.tmp 32) _ rfl w.heap.size 5 al (.int .u8 0) 1 1 underlying22 aa ai aj ak rfl dC _ H _ rfl N.out w.heap.size b.A b.n b.c _ rfl ag.out (gO _) (by unfold maxLen;omega) oM a1 ?_;intro au av af a8 ao);have a5:=aS p N.out a8 a1;go_roundw
          case rel=>refine ⟨a+1,by omega,by go_num,?_,a5⟩;rw [u.out,ah.out,zAz];exact af
          case measure=>simp [intOf];omega
        · have z:a=f:=oM;have a9:f<=a:=oM;have r:d.take a=d:=zAg (by have:=k.out;omega);rw [r,M.out,K.out] at q;obtain ⟨s,t,rfl,ac⟩:=aO q;clear z r q;go_wp2;go_ret;exact ⟨s,t,rfl,ac,p⟩
def WalkT (w:World) (B gk:Nat) (L T:List Nat):Prop:=
 ∃b a,Bk w gk 148 #[.pointer (some ⟨b,0,none⟩),.pointer (some ⟨a,0,none⟩)]/\WaveAt w B b L/\Bk w a 236 (tcells T)
def WalkT.vis {w w':World} {B gk:Nat} {L T:List Nat} (d:WalkT w B gk L T) (a:Vis w w'):WalkT w' B gk L T:=by
 obtain ⟨c,b,e,f,g⟩:=d;exact ⟨c,b,a.bk e dC dC,f.vis a,a.bk g dC dC⟩
def WalkE (w:World) (B:Nat) (own:Nat->Nat) (gk:Nat) (L T:List Nat):Prop:=
 ∃b a,Bk w gk 148 #[.pointer (some ⟨b,0,none⟩),.pointer (some ⟨a,0,none⟩)]/\own gk=2/\WaveE w B own b L/\Bk w a 236 (tcells T)/\own a=2
section
variable {w w' : World} {B : Nat} {own own' : Nat -> Nat} {gk : Nat} {L T : List Nat}
def WalkE.at (d:WalkE w B own gk L T) (g:T.Perm L):WalkAt w B gk L:=by
 obtain ⟨c,b,e,_,f,a,_⟩:=d;rw [mL g] at a;exact ⟨c,b,e,f.at,a⟩
def WalkE.vis (d:WalkE w B own gk L T) (a:Vis w w'):WalkE w' B own gk L T:=by
 obtain ⟨c,b,e,f,g,i,j⟩:=d;exact ⟨c,b,a.bk e dC dC,f,g.vis a,a.bk i dC dC,j⟩
def WalkE.far (i:WalkE w B own gk L T) {e:Nat->Prop} (d:Keep e w w') (c:∀a,e a->own a≠2/\own a < 16):WalkE w' B own gk L T:=by
 obtain ⟨g,f,j,k,l,m,n⟩:=i;exact ⟨g,f,d.bk j (fun b=>by have:=c _ b;omega),k,l.far d c,d.bk m (fun b=>by have:=c _ b;omega),n⟩
def WalkE.paint (k:WalkE w B own gk L T) (b:∀a,a < w.heap.size->2<=own a->own' a=own a) (l:∀a,own' a≠0->B<=a/\a < w.heap.size):WalkE w B own' gk L T:=by
 obtain ⟨j,i,c,e,f,d,g⟩:=k;exact ⟨j,i,c,by rw [b _ c.lt oM];exact e,f.paint b l,d,by rw [b _ d.lt oM];exact g⟩
def WalkE.tally {a:List Nat} (j:WalkE w B own gk L T) (k:T.Perm a):WalkE w B own gk L a:=by
 obtain ⟨i,g,c,d,e,b,f⟩:=j;rw [mL k] at b;exact ⟨i,g,c,d,e,b,f⟩
def WaveE.bnd (b:WaveE w B own gk L):∀a,own a≠0->B<=a/\a < w.heap.size:=by
 obtain ⟨c,d,b⟩:=b;exact b.bnd
def WalkE.bnd (c:WalkE w B own gk L T):∀a,own a≠0->B<=a/\a < w.heap.size:=by
 obtain ⟨j,i,d,e,b,f,g⟩:=c;exact b.bnd
end
structure Grew (w w':World) (own own':Nat->Nat):Prop where
 old:∀b,b < w.heap.size->own' b=own b
 new:∀b,w.heap.size<=b->own' b≠1
 keep:Keep (fun b=>own b=2∨16<=own b) w w'
def Grew.refl {w:World} {own:Nat->Nat} (b:∀a,own a≠0->a < w.heap.size):Grew w w own own:=⟨fun _ _=>rfl,fun a d c=>by have:=b a oM;omega,Keep.refl _ _⟩
def Grew.trans {w w1 w':World} {own e own':Nat->Nat} (b:Grew w w1 own e) (d:Grew w1 w' e own'):Grew w w' own own':=by
 have i:=b.keep.size;refine ⟨fun a c=>(d.old a oM).trans (b.old a c),fun a c=>?_,b.keep.trans' d.keep fun a c g=>by rw [<-b.old a c];exact g⟩;by_cases f:a < w1.heap.size;rw [d.old a f];exact b.new a c;exact d.new a oM
def Grew.of_vb {B:Nat} {w w':World} {own:Nat->Nat} (c:Keep (fun a=>own a=2∨16<=own a) w w') (b:∀a,own a≠0->a < w.heap.size):Grew w w' own own:=⟨fun _ _=>rfl,fun a e d=>by have:=b a oM;omega,c⟩
end
section
open Go.RowKit Go.Shelf
def lM (w:World) (a:List (Nat×Nat)) (d:Ending) (w':World):Prop:=
 ∃b c,d=.returned (.slice b a.length c)/\Made w' w.heap.size 179 2 b a.length c (cJ a)/\Below w.heap.size w w'
end
section
open Go.RowKit
def PermAt.vis {w w':World} {B gp e:Nat} {j k l i:Value} {R P:Nat} {f:List Nat} {c:List (Nat×Nat)} {g:List Bool} {d:List Nat} (a:PermAt w B gp e j k l i R P f c g d) (b:Vis w w'):PermAt w' B gp e j k l i R P f c g d:=
 ⟨b.bk a.blk dC dC,b.own a.lrow dC dC,b.own a.orow dC dC,b.bk a.ar dC dC,b.own a.trow dC dC,b.own a.frow dC dC,a.apart,a.lt,a.lo⟩
def LiveAt.vis {w w':World} {c f gk gp e:Nat} {k l m:Value} {B g i:Nat} {L:List Nat} {d:List (Nat×Nat)} {j:List Bool} (a:LiveAt w c f gk gp e k l m B g i L d j) (b:Vis w w'):LiveAt w' c f gk gp e k l m B g i L d j:=
 ⟨b.bk a.blk dC dC,a.walk.vis b,a.perm.vis b⟩
def aAU (f:List Nat) (e d a c:Nat):(a,c)∈bG f e d↔a < d/\f.getD a 0=c/\c % e=0:=by
 unfold bG;rw [zAy];constructor;rintro ⟨k,b,g⟩;rw [zCr,zCg] at b;cases g;exact ⟨b.1,rfl,by simpa using b.2⟩;rintro ⟨i,rfl,j⟩;exact ⟨a,zCr.2 ⟨zCg.2 i,by simpa using j⟩,rfl⟩
def rA (a:List (Nat×Nat)) (f:a.Pairwise (fun b c=>b.1 < c.1)):(List.range a.length).Pairwise (fun b c=>aY a b < aY a c):=by
 rw [zAr];intro i j d e g;rw [zCf] at d e;rw [List.getElem_range,List.getElem_range];have:=zAr.1 f i j d e g;unfold aY;rw [zAb,zAb,zAa d,zAa e];exact this
def aAV (c:List Nat) (b a:Nat):(bG c b a).length<=a:=by
 unfold bG;rw [zBc];exact zAk (zCq _ _) (by simp)
def tI {a:List UInt8} {c:List Nat} (d:IsSuf (aE a) c):c[0]?=some a.length:=by
 obtain ⟨n,k,l⟩:=fV a;obtain ⟨i,g,f⟩:=d.row (p:=a.length) oM;rcases zBa i with e | e
 · subst e;rw [zAa g,f]
 · exfalso;have b:=zAr.1 d.sorted 0 i oM g e;rw [f] at b;have m:=d.lt (zBj (show 0 < c.length by omega));have o:c[0]' oM≠a.length:=fun j=>by exact (zAr.1 d.nodup 0 i oM g e) (by rw [j,f])
   rw [nU,fS (by omega:a.length < (aE a).length),fS m,k] at b;have:=l (c[0]' oM) oM;rcases b with b | b;omega;omega
def yB {n d:List Nat} (e:IsSuf n d) {b c k:Nat} (l:d[b]?=some k) (m:d[c]?=some k):b=c:=by
 obtain ⟨f,g⟩:=zAc.1 l;obtain ⟨i,j⟩:=zAc.1 m;rcases Nat.lt_trichotomy b c with a | a | a;exact absurd (by rw [g,j]) (zAr.1 e.nodup b c f i a);exact a;exact absurd (by rw [g,j]) (zAr.1 e.nodup c b i f a)
structure PermX (w:World) (F:Nat->Prop) (gp ga:Nat) (vl vo vt vf:Value) (R P:Nat) (ks:List Nat) (C:List (Nat×Nat)) (tk:List Bool) (fr:List Nat):Prop where
 at_:PermAt w 0 gp ga vl vo vt vf R P ks C tk fr
 fp:F gp
 fa:F ga
 fl:OwnF F vl
 fo:OwnF F vo
 ft:OwnF F vt
 ff:OwnF F vf
 nd:ks.Nodup
 tkl:tk.length=C.length
 tkk:∀k,tk[k]?=some true↔k∈ks
 frn:fr.Nodup
 frk:∀k,k∈fr↔tk[k]?=some false
 sz:C.length<=1000
def PermE (w:World) (F:Nat->Prop) (gp R P:Nat) (pr:List (Nat×Nat)):Prop:=
 (∃i l m n k c a j g,PermX w F gp i l m n k R P c a j g/\pr=c.map fun b=>(aY a b,dM a b))/\pr.Pairwise (fun e f=>e.1 < f.1)/\∀d∈pr,d.1 < R/\d.2 < P
def PermAt.vis2 {w w':World} {B gp e:Nat} {j k l i:Value} {R P:Nat} {f:List Nat} {c:List (Nat×Nat)} {g:List Bool} {d:List Nat} (a:PermAt w B gp e j k l i R P f c g d) (b:Vis w w'):PermAt w' B gp e j k l i R P f c g d:=
 ⟨b.bk a.blk dC dC,b.own a.lrow dC dC,b.own a.orow dC dC,b.bk a.ar dC dC,b.own a.trow dC dC,b.own a.frow dC dC,a.apart,a.lt,a.lo⟩
section
variable {w w' : World} {F G : Nat -> Prop} {gp R P : Nat} {pr : List (Nat × Nat)}
def PermE.vis (f:PermE w F gp R P pr) (j:Vis w w'):PermE w' F gp R P pr:=by
 obtain ⟨⟨e,n,o,p,m,k,b,l,d,a,c⟩,g,i⟩:=f;exact ⟨⟨e,n,o,p,m,k,b,l,d,⟨a.at_.vis2 j,a.fp,a.fa,a.fl,a.fo,a.ft,a.ff,a.nd,a.tkl,a.tkk,a.frn,a.frk,a.sz⟩,c⟩,g,i⟩
def PermE.mono (k:PermE w F gp R P pr) (e:∀a,a < w.heap.size->F a->G a):PermE w G gp R P pr:=by
 obtain ⟨⟨j,q,r,s,p,n,f,o,i,b,g⟩,l,m⟩:=k;have d:=b.at_;exact ⟨⟨j,q,r,s,p,n,f,o,i,⟨d,e _ d.blk.lt b.fp,e _ d.ar.lt b.fa,fun a c=>e a (d.lrow.lt a c).2 (b.fl a c),fun a c=>e a (d.orow.lt a c).2 (b.fo a c),fun a c=>e a (d.trow.lt a c).2 (b.ft a c),fun a c=>e a (d.frow.lt a c).2 (b.ff a c),b.nd,b.tkl,b.tkk,b.frn,b.frk,b.sz⟩,g⟩,l,m⟩
def PermE.keep (n:PermE w F gp R P pr) (g:Keep G w w') (f:∀b,F b->¬G b):PermE w' F gp R P pr:=by
 obtain ⟨⟨m,t,u,v,s,q,j,r,l,a,k⟩,o,p⟩:=n;have c:=a.at_;refine ⟨⟨m,t,u,v,s,q,j,r,l,⟨⟨g.bk c.blk (f _ a.fp),aA c.lrow fun b i d e=>g.bk e (f _ (a.fl b d)),aA c.orow fun b i d e=>g.bk e (f _ (a.fo b d)),g.bk c.ar (f _ a.fa),aA c.trow fun b i d e=>g.bk e (f _ (a.ft b d)),aA c.frow fun b i d e=>g.bk e (f _ (a.ff b d)),c.apart,c.lt,c.lo⟩,a.fp,a.fa,a.fl,a.fo,a.ft,a.ff,a.nd,a.tkl,a.tkk,a.frn,a.frk,a.sz⟩,k⟩,o,p⟩
def PermE.below (b:PermE w F gp R P pr) (c:Below w.heap.size w w'):PermE w' F gp R P pr:=b.keep (G:=fun _=>False) (Keep.of_below c) fun _ _ a=>a
end
def wS:∀ {n:Nat} {a:List Nat},a.Nodup->(∀b∈a,b < n)->a.length<=n
 | 0,a,_,hl=>by
   cases a with
   | nil=>exact zAs _
   | cons b a=>exact absurd (hl b (by simp)) oM
 | n+1,a,h,hl=>by
   have d:=wS (n:=n) (h.erase n) fun b f=>by have e:=(h.mem_erase_iff).1 f;have:=hl b e.2;omega
   by_cases c:n∈a;have:=List.length_erase_of_mem c;omega;rw [List.erase_of_not_mem c] at d;omega
end
section
open Go.RowKit Go.Shelf
def PermR (w:World) (gp R P:Nat) (pr:List (Nat×Nat)):Prop:=
 ∃B g k l m j b a i f,PermAt w B gp g k l m j R P b a i f/\b.Pairwise (fun d e=>aY a d < aY a e)/\a.length<=1000/\b.length<=1000/\pr=b.map fun c=>(aY a c,dM a c)
def PermR.le {w:World} {gp R P:Nat} {pr:List (Nat×Nat)} (a:PermR w gp R P pr):pr.length<=1000:=by
 obtain ⟨B,e,m,n,o,l,j,c,k,d,f,g,i,b,rfl⟩:=a;rw [zBc];exact b
def PermR.vis {w w':World} {gp R P:Nat} {pr:List (Nat×Nat)} (d:PermR w gp R P pr) (g:Vis w w'):PermR w' gp R P pr:=by
 obtain ⟨B,c,l,m,n,k,i,a,j,b,e,f⟩:=d;exact ⟨B,c,l,m,n,k,i,a,j,b,e.vis g,f⟩
def PermR.lt {w:World} {gp R P:Nat} {pr:List (Nat×Nat)} (a:PermR w gp R P pr):gp < w.heap.size:=by
 obtain ⟨B,e,k,l,m,j,g,c,i,d,b,f⟩:=a;exact b.blk.lt
def sE (B gp ad:Nat) (ax ay az aw:Value) (R P:Nat) (d:List Nat) (c:List (Nat×Nat)) (ar:List Bool) (ab:List Nat) (w:World) (e:PermAt w B gp ad ax ay az aw R P d c ar ab) (ae:c.length<=1000) (af:d.length<=1000):
 Calls prog 207 #[gp] w (lM w (d.map fun a=>(aY c a,dM c a))):=by
 obtain ⟨aq,aj,an,ao,ap⟩:=info_parts qA;have Q:=e.orow;obtain ⟨Y,a5,rfl,_,_⟩:=aJ Q;obtain ⟨X,H,rfl,_,_⟩:=aJ e.lrow;have s:w.cell? ⟨gp,1,none⟩=some (.slice X c.length H):=(e.blk.cell 1).trans rfl;have I:w.cell? ⟨gp,2,none⟩=some (.slice Y d.length a5):=(e.blk.cell 2).trans rfl;have ai:=e.blk.lt;obtain ⟨E,u⟩:=eqx c.length;obtain ⟨j,l⟩:=eqx d.length;obtain ⟨pr,m⟩:∃pr,(d.map fun a=>(aY c a,dM c a))=pr:=⟨_,rfl⟩;have S:pr.length=j:=by rw [<-m,zBc,l]
 rw [m];obtain ⟨C,Hn,a0,a4,o⟩:=hqq5 e l u m S;rw [u] at s ae;rw [l] at I af;clear e Q l u m S;unfold lM;go_enter func207,ntmps207;go_wp2_with fail;go_loopw [3,13] (fun au A wr=>∃a:Nat,a<=j/\A=.int .i64 (a:Int)/\wr.ownsRow w.heap.size 179 2 au a (cJ (pr.take a))/\Below w.heap.size w wr) (fun _ A _=>j -(intOf A).toNat)
 case atStart=>exact ⟨0,zAp _,rfl,World.ownsRow_nil _ _ _ _,Below.refl _ _⟩
 case round=>
  obtain ⟨a,aF,rfl,g,f⟩:=hrel;have U:=f.size;by_cases ak:a < j
  · have M:a < d.length:=(by rw [Hn.out];exact ak);obtain ⟨b,k⟩:∃b,d[a]?=some b:=⟨_,zAa M⟩;have y:b < c.length:=C.out.lt b (zAd k);have aE:b < E:=(by rw [<-a0.out];exact y);have i:=C.out.below f;have z:=i.orow;obtain ⟨ac,aI,aa,_,aD⟩:=World.ownsRow.form z oM;obtain ⟨t,aH,a9,_,aC⟩:=World.ownsRow.form i.lrow oM;injection aa with e2a _ _;injection a9 with e1a _ _;subst e2a;subst e1a;have aA:wr.cell? ⟨ac,a,none⟩=some (.int .i64 (b:Int)):=(World.ownsRow.cellAt z a oM).trans (by rw [zAf,k];rfl);obtain ⟨V,W⟩:=gM c b y;have a7:wr.cell? ⟨t,b*2,none⟩=_:=(World.ownsRow.cellAt i.lrow (b*2) oM).trans V;have a8:wr.cell? ⟨t,b*2+1,none⟩=_:=(World.ownsRow.cellAt i.lrow (b*2+1) oM).trans W;have aB:wr.cell? ⟨gp,1,none⟩=some (.slice (some t) E H):=(f.cell (p:=⟨gp,1,none⟩) ai).trans s;obtain ⟨q,v⟩:=eqx (aY c b);obtain ⟨r,x⟩:=eqx (dM c b);have O:cJ (pr.take (a+1))=cJ (pr.take a)++ [.int .i64 (q:Int),.int .i64 (r:Int)]:=(by have ah:pr[a]?=some (q,r):=(by rw [<-a4.out,zAf,k,<-v,<-x];rfl);rw [zAv,ah];show cJ (pr.take a++ [(q,r)])=_;rw [iB];rfl);rw [v] at a7;rw [x] at a8;obtain ⟨D,n,a3⟩:=hqq3 g f O;clear g f O i z V W s I v x k y M;go_wp2_with (at_builtin;refine aZ _ rfl (.tmp 17) (.tmp 25) _ rfl w.heap.size 179 aq (.agg #[.int .i64 0,.int .i64 0]) 2 16 underlying99 aj an ao ap rfl dC _ a _ rfl D.out rfl rfl (by simp [Value.oneCell']) (by unfold maxLen;omega) oM U ?_;intro av aK al K aG ag);have J:=aS n.out D.out K U;have a1:=lhd J;clear J K ag;exact ⟨⟨av,_,_,⟨a+1,by omega,by go_num,by rw [a3.out];exact al,a1.out⟩,rfl,rfl,rfl⟩,by simp [intOf];omega⟩
  · obtain rfl:a=j:=oM;have am:pr.take a=pr:=zAg (by rw [o.out];exact zAs _);rw [am] at g;obtain ⟨Z,a6,rfl,N⟩:=aO g;obtain ⟨a2,n⟩:=hqq2 N f;clear g N f;go_wp2_with fail;go_ret;exact ⟨Z,a6,by rw [o.out];rfl,by rw [o.out];exact a2.out,n.out⟩
def sD (gp R P:Nat) (pr:List (Nat×Nat)) (w:World) (d:PermR w gp R P pr):
 Calls prog 207 #[gp] w (lM w pr):=by
 obtain ⟨B,c,l,m,n,k,i,a,j,b,e,o,f,g,rfl⟩:=d;exact sE B gp c l m n k R P i a j b w e f g
def eX (pr:List (Nat×Nat)) (b:Nat) (d:Int):Prop:=(d=-1/\∀a∈pr,a.2 < b)∨∃a∈pr,d=((a.2:Nat):Int)/\b<=a.2/\∀c∈pr,b<=c.2->a.2<=c.2
def wR {l:List (Nat×Nat)} {f:Nat} {m:Int} (p:eX l f m) (g a:Nat):eX (l++(some (g,a)).toList) f (if f<=a/\(m < 0∨(a:Int) < m) then (a:Int) else m):=by
 have e:∀b:Nat×Nat,b∈l++(some (g,a)).toList↔b∈l∨b=(g,a):=fun b=>by simp
 rcases p with ⟨rfl,k⟩|⟨j,q,rfl,k,n⟩;by_cases d:f<=a;rw [zBw ⟨d,.inl oM⟩];refine .inr ⟨(g,a),(e _).2 (.inr rfl),rfl,d,fun b c i=>?_⟩;rcases (e b).1 c with c | rfl;have:=k b c;omega;exact zAs _;rw [zBv (fun o=>d o.1)];refine .inl ⟨rfl,fun b c=>?_⟩;rcases (e b).1 c with c | rfl;exact k b c;show a < f;omega;by_cases d:f<=a/\((j.2:Int) < 0∨(a:Int) < (j.2:Int));rw [zBw d];have r:a < j.2:=oM;refine .inr ⟨(g,a),(e _).2 (.inr rfl),rfl,d.1,fun b c i=>?_⟩;rcases (e b).1 c with c | rfl;have:=n b c i;show a<=_;omega;exact zAs _;rw [zBv d];refine .inr ⟨j,(e _).2 (.inl q),rfl,k,fun b c i=>?_⟩;rcases (e b).1 c with c | rfl;exact n b c i;have s:f<=a:=i;show j.2<=a;omega
def mK (w:World) (b:List (Nat×Nat)) (d:Nat) (c:Ending) (w':World):Prop:=∃a,c=.returned (.int .i64 a)/\eX b d a/\Below w.heap.size w w'
def pK (gp R P:Nat) (b:List (Nat×Nat)) (e:Nat) (w:World) (q:PermR w gp R P b):
 Calls prog 161 #[gp,(e:Int)] w (mK w b e):=by
 have n:=sD gp R P b w q;have Y:=q.le;unfold lM at n;obtain ⟨o,u⟩:=eqx b.length;rw [u] at n Y;have Hn:=lhd u;clear q u;unfold mK;go_enter func161,ntmps161;go_wp2_with fail;refine n.mono ?_;rintro a9 w1 ⟨a5,a8,rfl,J,C⟩;clear n;obtain ⟨U,y⟩:=hqq2 J C;clear J C;go_wp2_with fail;go_loopw [5,11] (fun a4 v wr=>∃(a:Nat) (d:Int),a<=o/\v=.int .i64 (a:Int)/\a4=.int .i64 d/\eX (b.take a) e d/\Below w1.heap.size w1 wr) (fun _ v _=>o -(intOf v).toNat)
 case atStart=>exact ⟨0,-1,zAp _,rfl,rfl,.inl ⟨rfl,fun af a1=>by simp at a1⟩,Below.refl _ _⟩
 case round=>
  obtain ⟨a,d,ab,rfl,rfl,j,i⟩:=hrel;have a0:=i.size;by_cases Z:a < o
  · have I:a < b.length:=(by rw [Hn.out];exact Z);have M:=U.out.rd.below (i.mono (B:=w1.heap.size) nL);obtain ⟨a7,ae,rfl,aa,t⟩:=M.2 oM;obtain ⟨O,Q⟩:=gM b a I;have W:=t _ _ O;have X:=t _ _ Q;obtain ⟨p,r⟩:=eqx (aY b a);obtain ⟨c,s⟩:=eqx (dM b a);rw [r] at W;rw [s,<-Nat.add_assoc] at X;have H:b[a]?=some (p,c):=(by rw [<-r,<-s];unfold aY dM;rw [zAb,zAa I];rfl);have K:∀x:Int,x=(if e<=c/\(d < 0∨(c:Int) < d) then (c:Int) else d)->eX (b.take (a+1)) e x:=fun x a2=>by rw [zAv,H,a2];exact wR j p c
    obtain ⟨l,a6⟩:=hqq2 K i;have D:Below w1.heap.size w1 (wr.alloc (.cells #[(p:Int),(c:Int)] 179)):=i.alloc a0 _;have k:=lhd D;clear j i M t O Q r s D K H;by_cases m:e<=c
    · have a3:decide (e<=c)=true:=zBy m;by_cases z:d < 0
      · have f:eX (b.take (a+1)) e (c:Int):=l.out (c:Int) (by rw [zBw ⟨m,.inl z⟩]);have g:=lhd f;clear f;go_wp2_with fail;go_roundw
        case rel=>exact ⟨a+1,(c:Int),by omega,by go_num,by first | rfl | trivial,g.out,k.out⟩
        case measure=>simp [intOf];omega
      · have ac:decide (d < 0)=false:=zBx z;by_cases A:(c:Int) < d
        · have f:eX (b.take (a+1)) e (c:Int):=l.out (c:Int) (by rw [zBw ⟨m,.inr A⟩]);have g:=lhd f;clear f;go_wp2_with fail;go_roundw
          case rel=>exact ⟨a+1,(c:Int),by omega,by go_num,by first | rfl | trivial,g.out,k.out⟩
          case measure=>simp [intOf];omega
        · have ad:decide ((c:Int) < d)=false:=zBx A;have f:eX (b.take (a+1)) e d:=l.out d (by rw [zBv oM]);have g:=lhd f;clear f;go_wp2_with fail;go_roundw
          case rel=>exact ⟨a+1,d,by omega,by go_num,by first | rfl | trivial,g.out,k.out⟩
          case measure=>simp [intOf];omega
    · have a3:decide (e<=c)=false:=zBx m;have f:eX (b.take (a+1)) e d:=l.out d (by rw [zBv oM]);have g:=lhd f;clear f;go_wp2_with fail;go_roundw
      case rel=>exact ⟨a+1,d,by omega,by go_num,by first | rfl | trivial,g.out,k.out⟩
      case measure=>simp [intOf];omega
  · obtain rfl:a=o:=oM;have E:=y.out.trans (i.mono y.out.size);have S:=lhd E;have N:b.take a=b:=zAg (by rw [Hn.out];exact zAs _);rw [N] at j;have V:=lhd j;clear E j i N;go_wp2_with fail;go_ret;exact ⟨d,rfl,V.out,S.out⟩
def vB (w:World) (d:List Nat) (b:List (Nat×Nat)) (e:Nat) (c:Ending) (w':World):Prop:=∃a,a∈d/\dM b a=e/\c=.returned (.int .i64 ((aY b a:Nat):Int))/\Below w.heap.size w w'
def sA (B gp u:Nat) (E H I D:Value) (R P:Nat) (d:List Nat) (a:List (Nat×Nat)) (C:List Bool) (r:List Nat) (g:Nat) (w:World) (e:PermAt w B gp u E H I D R P d a C r) (X:d.length<=1099511627776) (a7:a.length<=1099511627776) (v:∃j∈d,dM a j=g):
 Calls prog 162 #[gp,(g:Int)] w (vB w d a g):=by
 have n:=mY B gp u E H I D R P d a C r g w e X;obtain ⟨k,c,y,m,z⟩:=uB (p:=fun j=>decide (dM a j=g)) (l:=d) (by obtain ⟨j,Y,Z⟩:=v;exact ⟨j,Y,zBy Z⟩) 0;rw [y,zBi] at n;have A:dM a c=g:=of_decide_eq_true z;have af:k < d.length:=(zAc.1 m).1;have a2:c < a.length:=e.lt c (zAd m);obtain ⟨s,S,a1,ab,V⟩:=World.ownsRow.form e.orow oM;obtain ⟨t,U,a0,ac,W⟩:=World.ownsRow.form e.lrow oM;subst a1;subst a0;have x:=(gM a c a2).1;obtain ⟨J,q,O,M⟩:=hqq4 e m A x;have ae:(k:Int) < (d.length:Int):=oM;have ag:(c:Int) < (a.length:Int):=oM;have ad:decide ((k:Int) < 0)=false:=by simp
 clear e y m z A x v;unfold vB;go_enter func162,ntmps162;go_wp2_with fail;refine n.mono ?_;rintro a6 w1 ⟨rfl,i⟩;have f:=J.out.below i;have a3:∀b,(w1.drewN b).cell? ⟨gp,1,none⟩=some (.slice (some t) a.length U):=fun b=>(f.blk.cell 1).trans rfl;have a4:∀b,(w1.drewN b).cell? ⟨gp,2,none⟩=some (.slice (some s) d.length S):=fun b=>(f.blk.cell 2).trans rfl;have aa:=f.blk.lt;have a5:∀b,(w1.drewN b).cell? ⟨s,k,none⟩=some (.int .i64 (c:Int)):=fun b=>(World.ownsRow.cellAt f.orow k oM).trans (by rw [zAf,q.out];rfl);have Q:∀b,(w1.drewN b).cell? ⟨t,c*2,none⟩=some (.int .i64 ((aY a c:Nat):Int)):=fun b=>(World.ownsRow.cellAt f.lrow (c*2) oM).trans M.out;have K:=lhd i;have a8:=zAl V i.size;have a9:=zAl W i.size;obtain ⟨ah,o⟩:=eqx (aY a c);rw [o] at Q;have N:=lhd o;clear n i f o;go_wp2_with fail;go_quiet (fail);go_wp2_with fail;go_ret;exact ⟨c,zAd q.out,O.out,by rw [N.out];rfl,below_drewN K.out _⟩
def vA (w:World) (pr:List (Nat×Nat)) (c:Nat) (b:Ending) (w':World):Prop:=∃a,(a,c)∈pr/\b=.returned (.int .i64 (a:Int))/\Below w.heap.size w w'
def rZ (gp R P:Nat) (pr:List (Nat×Nat)) (b:Nat) (w:World) (k:PermR w gp R P pr) (n:∃g∈pr,g.2=b):
 Calls prog 162 #[gp,(b:Int)] w (vA w pr b):=by
 obtain ⟨B,j,u,v,x,t,f,d,s,i,l,y,z,A,rfl⟩:=k;have o:∃a∈f,dM d a=b:=by obtain ⟨g,r,e⟩:=n;obtain ⟨a,c,rfl⟩:=zAy.1 r;exact ⟨a,c,e⟩
 have q:=sA B gp j u v x t R P f d s i b w l oM oM o;refine q.mono ?_;rintro e w' ⟨a,c,p,rfl,m⟩;exact ⟨_,zAy.2 ⟨a,c,by rw [p]⟩,rfl,m⟩
end
section
open Go.RowKit
def dR (a b:Nat) (e:a < 4294967296) (f:b < 4294967296):bits .xor .u32 (a:Int) (b:Int)=((a ^^^ b:Nat):Int):=by
 have g:a ^^^ b < 2 ^ 32:=Nat.xor_lt_two_pow oM oM;have c:(BitVec.ofInt 32 (a:Int)).toNat=a:=by rw [BitVec.ofInt_natCast,BitVec.toNat_ofNat];exact zBt oM
 have d:(BitVec.ofInt 32 (b:Int)).toNat=b:=by rw [BitVec.ofInt_natCast,BitVec.toNat_ofNat];exact zBt oM
 show IntKind.u32.wrap ((BitVec.ofInt 32 (a:Int)^^^ BitVec.ofInt 32 (b:Int)).toNat:Int)=_;rw [BitVec.toNat_xor,c,d,IntKind.wrap_u32];omega
def uL (a b:Nat) (e:a < 256) (f:b < 256):bits .xor .u8 (a:Int) (b:Int)=((a ^^^ b:Nat):Int):=by
 have g:a ^^^ b < 2 ^ 8:=Nat.xor_lt_two_pow oM oM;have c:(BitVec.ofInt 8 (a:Int)).toNat=a:=by rw [BitVec.ofInt_natCast,BitVec.toNat_ofNat];exact zBt oM
 have d:(BitVec.ofInt 8 (b:Int)).toNat=b:=by rw [BitVec.ofInt_natCast,BitVec.toNat_ofNat];exact zBt oM
 show IntKind.u8.wrap ((BitVec.ofInt 8 (a:Int)^^^ BitVec.ofInt 8 (b:Int)).toNat:Int)=_;rw [BitVec.toNat_xor,c,d,IntKind.wrap_u8];omega
def gR (a:Nat) (d:a < 4294967296):bits .and .u32 (a:Int) 1=((a % 2:Nat):Int):=by
 have b:(BitVec.ofInt 32 (a:Int)).toNat=a:=by rw [BitVec.ofInt_natCast,BitVec.toNat_ofNat];exact zBt oM
 show IntKind.u32.wrap ((BitVec.ofInt 32 (a:Int)&&& BitVec.ofInt 32 (1:Int)).toNat:Int)=_;rw [BitVec.toNat_and,b];have c:(BitVec.ofInt 32 (1:Int)).toNat=1:=dC;rw [c,IntKind.wrap_u32,Nat.and_one_is_mod];omega
def vK (a:Nat) (g:a < 4294967296) (w:World):
 Calls prog 260 #[.int .u32 (a:Int),.bool false] w fun d w'=>d=.returned (.int .u32 ((bI a:Nat):Int))/\Below w.heap.size w w':=by
 have i:=gR a g;go_enter func260,ntmps260;go_wp2_with fail
 · go_ret;refine ⟨?_,Below.refl _ _⟩
   rename_i b
   have c:a % 2=1:=(by have:=eq_of_beq b;omega);have e:((a:Int)/ 2)=((a / 2:Nat):Int):=oM;have f:(3988292384:Int)=((3988292384:Nat):Int):=rfl;show Ending.returned (Value.int .u32 (bits .xor .u32 ((a:Int)/ 2) 3988292384))=_;rw [e,f,dR _ _ oM oM,bI,zBw c]
 · go_ret;refine ⟨?_,Below.refl _ _⟩
   rename_i b
   have c:¬a % 2=1:=(by intro j;have:((a:Int)% 2==1)=true:=zCn.2 oM;rw [this] at b;cases b);show Ending.returned (Value.int .u32 ((a:Int)/ 2))=_;rw [bI,zBv c];rfl
def pD (b c:Nat):Nat->Nat:=fun a=>if a < b then eO a else if a=b then c else 0
def aAL (b f e:Nat):(fun c=>if c=b then e else pD b f c)=pD b e:=by
 funext c;unfold pD;by_cases a:c=b
 · rw [zBw a,zBv oM,zBw a]
 · rw [zBv a];by_cases d:c < b
   · rw [zBw d,zBw d]
   · rw [zBv d,zBv d,zBv a,zBv a]
def yY (a:Nat):pD a (eO a)=pD (a+1) 0:=by
 funext p;unfold pD;by_cases b:p < a
 · rw [zBw b,zBw oM]
 · rw [zBv b];by_cases c:p=a
   · subst c;rw [zBw rfl,zBw oM]
   · rw [zBv c,zBv oM];split <;> rfl
@[irreducible] def crcC:Array Value:=fO .u32 256 eO
@[irreducible] def tabC (a d:Nat):Array Value:=fO .u32 256 (pD a d)
def sW {a d b:Nat} (c:a < 256):(tabC a d).setIfInBounds a (.int .u32 (b:Int))=tabC a b:=by
 unfold tabC;rw [gF c,aAL]
def nR {a b:Nat} (c:a < 256):(tabC a b)[a]?=some (.int .u32 (b:Int)):=by
 unfold tabC;rw [dD c];unfold pD;rw [zBv oM,zBw rfl]
def zA (a:Nat):tabC a (bU 8 a)=tabC (a+1) 0:=by
 unfold tabC;rw [<-yY];rfl
def pX:Array.replicate 256 (Value.int .u32 0)=tabC 0 0:=by
 unfold tabC;rw [jI];exact bM fun b a=>by unfold pD;rw [zBv oM];split <;> rfl
def aAM (b:Nat):tabC 256 b=crcC:=by
 unfold tabC crcC;exact bM fun c a=>by unfold pD;rw [zBw a]
def aBH {a:Nat} (b:a < 256):crcC[a]?=some (.int .u32 ((eO a:Nat):Int)):=by
 unfold crcC;exact dD b
def jH:crcC.size=256:=by unfold crcC;exact gE _ _ _
def yZ (a b:Nat):(tabC a b).size=256:=by unfold tabC;exact gE _ _ _
def yW {w w':World} {b:Array Value} {a:Nat} (g:b.getD 0 undef=.pointer (some a)) (d:Bk w' a 233 crcC) (i:(prog.info? 233).map (·.size)=some crcC.size) (e:Below w.heap.size w w'):
 bodyPost prog f220 (fun c w'=>c=.returned (.agg crcC)/\Below w.heap.size w w') .ret ⟨b, []⟩ w':=
 bodyPost_ret (results_cell_row (P:=prog) (fn:=f220) (p:=0) (ty:=233) rfl b w' a 233 crcC (0,0) _ g d underlying233 rfl i) rfl ⟨rfl,e⟩
def aAC (a:Nat) (d:a < 4294967296):bits .xor .u32 IntKind.u32.max (a:Int)=((4294967295 - a:Nat):Int):=by
 have b:IntKind.u32.max=((4294967295:Nat):Int):=dC;rw [b,dR _ _ oM d];congr 1;have c:(4294967295:Nat)^^^ a=(BitVec.allOnes 32 ^^^ BitVec.ofNat 32 a).toNat:=by rw [BitVec.toNat_xor,BitVec.toNat_ofNat,zBt (by omega:a < 2 ^ 32)];rfl
 rw [c,BitVec.allOnes_xor,BitVec.toNat_not,BitVec.toNat_ofNat,zBt (by omega:a < 2 ^ 32)]
def sI (w:World):
 Calls prog 220 #[] w fun s w'=>s=.returned (.agg crcC)/\Below w.heap.size w w':=by
 go_enter func220,ntmps220;go_wp2_with fail;go_loopw [3] (fun c wr=>∃(a:Nat) (i:Nat),a<=256/\c=.int .i64 (a:Int)/\Bk wr w.heap.size 233 (tabC 0 0)/\Bk wr (w.heap.size+1) 233 (tabC a i)/\(a < 256->i=0)/\Below w.heap.size w wr) (fun c _=>256 -(intOf c).toNat)
 case atStart=>refine ⟨0,0,by omega,rfl,?_,?_,fun _=>rfl,?_⟩;rw [<-pX];exact (Bk.new _ _ _).alloc _;rw [<-pX];have t:=Bk.new (w.alloc (.cells Tryz.zeroCells233 233)) 233 Tryz.zeroCells233;rw [show (w.alloc (.cells Tryz.zeroCells233 233)).heap.size=w.heap.size+1 by simp] at t;exact t;exact (bR.alloc nL _).alloc (by simp) _
 case round=>
  obtain ⟨a,i,Q,rfl,k,d,g,u⟩:=hrel;by_cases e:a < 256
  · have C:=g e;subst C;have M:((a:Int) < 256):=oM;have E:wr.cell? ⟨w.heap.size+1,a,none⟩=some (.int .u32 0):=(d.cell a).trans (nR e);have J:=d.frozen a;go_wp2_with fail;go_loopw [10] (fun c q=>∃b:Nat,b<=8/\c=.int .i64 (b:Int)/\Bk q w.heap.size 233 (tabC 0 0)/\Bk q (w.heap.size+1) 233 (tabC a (bU b a))/\Below w.heap.size w q) (fun c _=>8 -(intOf c).toNat)
    case atStart=>refine ⟨0,by omega,rfl,k.far (by simp) _,?_,u.setCell (by simp) _⟩;have:=d.set a (.int .u32 (a:Int));rw [sW e] at this;exact this
    case round=>
        obtain ⟨b,N,rfl,n,f,m⟩:=hrel;by_cases S:b < 8
        · have O:((b:Int) < 8):=oM;have H:wr.cell? ⟨w.heap.size+1,a,none⟩=some (.int .u32 ((bU b a:Nat):Int)):=(f.cell a).trans (nR e);go_wp2_with fail;refine (vK (bU b a) (lC oM b) _).mono ?_;rintro s D ⟨rfl,l⟩;have o:=f.below l f.lt;have A:=n.below l n.lt;have I:D.cell? ⟨w.heap.size+1,a,none⟩=some (.int .u32 ((bU b a:Nat):Int)):=(o.cell a).trans (nR e);have K:=o.frozen a;go_wp2_with fail;go_roundw
          case rel=>refine ⟨b+1,by omega,by go_num,A.far (by simp) _,?_,(m.trans (l.mono m.size)).setCell (by simp) _⟩;have:=o.set a (.int .u32 ((bI (bU b a):Nat):Int));rw [sW e] at this;exact this
          case measure=>simp [intOf];omega
        · have p:b=8:=oM;subst p;go_wp2_with fail;go_roundw
          case rel=>rw [zA] at f;exact ⟨a+1,0,by omega,by go_num,n,f,fun _=>rfl,m⟩
          case measure=>simp [intOf];omega
  · have p:a=256:=oM;subst p;rw [aAM] at d;obtain ⟨r,y⟩:=hqq2 k d;clear k d;have x:(prog.info? 233).map (·.size)=some crcC.size:=(by rw [jH];kernel_rfl);have v:crcC.all (·.oneCell')=true:=(by unfold crcC fO;rw [Array.all_eq_true_iff_forall_mem];intro i g;rw [List.mem_toArray,zAy] at g;obtain ⟨U,_,rfl⟩:=g;rfl);obtain ⟨j,z⟩:=hqq2 x v;clear x v;go_wp2_with (first |(refine wpList_load_row (P:=prog) rfl 233 (.tmp 1) rfl (w.heap.size+1) rfl 233 crcC (0,0) _ y.out underlying233 rfl j.out ?_)|(refine wpList_store_row (P:=prog) rfl 233 (.tmp 0) (.tmp 20) rfl w.heap.size crcC rfl rfl 233 (tabC 0 0) r.out j.out (by rw [yZ,jH]) z.out ?_));exact yW rfl (setRow_heap wr w.heap.size _ crcC _ _ r.out) j.out (below_setRow u nL _)
def vL (d:Nat) (K:d < 4294967296) (p:Option Addr) (f D:Nat) (b:List UInt8) (w:World) (n:Rd w w.heap.size 1 p f (b.map bv)) (Y:f<=1099511627776):
 Calls prog 164 #[.int .u32 (d:Int),.slice p f D] w fun q w'=>q=.returned (.int .u32 ((rK d b:Nat):Int))/\Below w.heap.size w w':=by
 have W:b.length=f:=by have:=n.1;simpa using this
 have z:=lhd n;clear n;have v:(prog.info? 233).map (·.size)=some crcC.size:=by rw [jH];kernel_rfl
 have u:crcC.all (·.oneCell')=true:=by unfold crcC fO;rw [Array.all_eq_true_iff_forall_mem];intro c i;rw [List.mem_toArray,zAy] at i;obtain ⟨a0,_,rfl⟩:=i;rfl
 obtain ⟨C,A⟩:=hqq2 v u;clear v u;go_enter func164,ntmps164;go_wp2_with fail;refine (sI _).mono ?_;rintro q w1 ⟨rfl,s⟩;go_wp2_with (refine wpList_store_row (P:=prog) rfl 233 (.tmp 5) (.tmp 8) rfl w1.heap.size crcC rfl rfl 233 Tryz.zeroCells233 (heap_alloc_new _ _) C.out (by rw [jH];kernel_rfl) A.out ?_;rw [World.setRow_alloc_new]);rw [aAC d K];have I:=s.size;go_loopw [0,13] (fun c o wr=>∃a:Nat,a<=f/\o=.int .i64 (a:Int)/\c=.int .u32 ((fR (b.take a) (4294967295 - d):Nat):Int)/\Bk wr w1.heap.size 233 crcC/\Below w.heap.size w wr) (fun _ o _=>f -(intOf o).toNat)
 case atStart=>exact ⟨0,by omega,rfl,by rw [List.take_zero];rfl,Bk.new _ _ _,s.alloc I _⟩
 case round=>
  obtain ⟨a,X,rfl,rfl,t,l⟩:=hrel;by_cases J:a < f
  · obtain ⟨Q,Z,a1,rfl,V,g,E⟩:=(z.out.below l).get J;rw [zAf] at g;obtain ⟨e,y⟩:∃e,b[a]?=some e:=⟨_,zAa oM⟩;rw [y] at g;injection g with g;subst g;have M:b.take (a+1)=b.take a++ [e]:=(by rw [zAv,y];rfl);have k:=kA (b.take a) e (4294967295 - d);rw [<-M] at k;have x:=iJ (b.take a) (4294967295 - d) oM;obtain ⟨c,i⟩:=eqx (fR (b.take a) (4294967295 - d));rw [i] at k x;rw [i];have m:=aBF x e;have N:=e.toNat_lt;have r:bits .xor .u8 ((c:Int)% 256) (e.toNat:Int)=(((c % 256)^^^ e.toNat:Nat):Int):=(by have:((c:Int)% 256)=((c % 256:Nat):Int):=oM;rw [this,uL _ _ oM N]);obtain ⟨j,O⟩:=eqx ((c % 256)^^^ e.toNat);rw [O] at k m r;have S:wr.cell? ⟨w1.heap.size,j,none⟩=some (.int .u32 ((eO j:Nat):Int)):=(t.cell j).trans (aBH m);have U:bits .xor .u32 ((eO j:Nat):Int) ((c:Int)/ 256)=((eO j ^^^(c / 256):Nat):Int):=(by have:((c:Int)/ 256)=((c / 256:Nat):Int):=oM;rw [this,dR _ _ (qI m) oM]);unfold bv at E;go_wp2_with fail;go_roundw
    case rel=>exact ⟨a+1,by omega,by go_num,by rw [k],t,l⟩
    case measure=>simp [intOf];omega
  · have H:a=f:=oM;subst H;rw [zAg (by omega:b.length<=a)];have r:=aAC _ (iJ b (4294967295 - d) oM);go_wp2_with fail;go_ret;exact ⟨rfl,l⟩
def jJ (d l:Option Addr) (c f p:Nat) (e:List UInt8) (w:World) (u:Rd w w.heap.size 1 d c (e.map bv)) (s:c<=1099511627776) (t:Rd w w.heap.size 1 l 1 [.slice d c f]):
 Calls prog 81 #[.slice l 1 p] w fun m w'=>m=.returned (.int .u32 ((dQ e:Nat):Int))/\Below w.heap.size w w':=by
 obtain ⟨o,v,A,rfl,r,i,n⟩:=t.get (k:=0) oM;injection i with i;subst i;go_enter func81,ntmps81;go_wp2_with fail;go_loopw [3,8] (fun x j wr=>∃a:Nat,a<=1/\j=.int .i64 (a:Int)/\x=.int .u32 (((if a=0 then 0 else dQ e):Nat):Int)/\Below w.heap.size w wr) (fun _ j _=>1 -(intOf j).toNat)
 case atStart=>exact ⟨0,by omega,rfl,rfl,Below.refl _ _⟩
 case round=>
  obtain ⟨a,y,rfl,rfl,b⟩:=hrel;by_cases z:a < 1
  · have g:a=0:=oM;subst g;have n:wr.cell? ⟨o,v,none⟩=some (.slice d c f):=(b.cell r).trans n;rw [zBw rfl];go_wp2_with fail;refine (vL 0 oM d c f e wr ((u.below b).mono b.size) s).mono ?_;rintro m w1 ⟨rfl,q⟩;go_wp2_with fail;go_roundw
    case rel=>exact ⟨1,by omega,rfl,rfl,b.trans (q.mono b.size)⟩
    case measure=>simp [intOf]
  · have g:a=1:=oM;subst g;rw [zBv oM];go_wp2_with fail;go_ret;exact ⟨rfl,b⟩
end
end Go.Proofs.YtnmapianpjamnaaGreatDoor
