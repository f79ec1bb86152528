/- Lemmas of the walk. Conditions: each its own. -/
import Derived.Test.YtihaijbgmjdhgaaGreatDoorPp14
import Derived.Test.YtihaijbgmjdhgaaGreatDoorPp15
import Derived.Test.YtihaijbgmjdhgaaGreatDoorProg
import Derived.Test.YtihaijbgmjdhgaaGreatDoorShl
import Derived.Test.YtihaijbgmjdhgaaGreatDoorShi
import Derived.Test.YtihaijbgmjdhgaaGreatDoorSht
set_option linter.all false
set_option maxRecDepth 100000
set_option maxHeartbeats 2000000
open Go.Proofs.Tryz
namespace Go.Proofs.YtihaijbgmjdhgaaGreatDoor
section
open Go.RowKit
theorem WaveS.cells {w:World} {B:Nat} {own:Nat->Nat} {c:Nat} {b:Nat->Value} {g:Nat->List Nat} {d e:Int} (f:WaveS w B own c b g d e):(∀a,a < 9->w.cell? ⟨c,a,none⟩=some (b a))/\w.cell? ⟨c,9,none⟩=some (.int .i64 d)/\w.cell? ⟨c,10,none⟩=some (.int .i64 e):=by
 obtain ⟨l,m,n,o,p,q,r,s,t,j,i⟩:=bJ b d e;exact ⟨fun a k=>(f.blk.cell a).trans (qL b d e a k),(f.blk.cell 9).trans j,(f.blk.cell 10).trans i⟩
def WalkT (w:World) (B gk:Nat) (L T:List Nat):Prop:=
 ∃b a,Bk w gk 176 #[.pointer (some ⟨b,0,none⟩),.pointer (some ⟨a,0,none⟩)]/\WaveAt w B b L/\Bk w a 245 (tcells T)
theorem WalkT.vis {w w':World} {B gk:Nat} {L T:List Nat} (d:WalkT w B gk L T) (a:Vis w w'):WalkT w' B gk L T:=by
 obtain ⟨c,b,e,f,g⟩:=d;exact ⟨c,b,a.bk e dC dC,f.vis a,a.bk g dC dC⟩
def WalkE (w:World) (B:Nat) (own:Nat->Nat) (gk:Nat) (L T:List Nat):Prop:=
 ∃b a,Bk w gk 176 #[.pointer (some ⟨b,0,none⟩),.pointer (some ⟨a,0,none⟩)]/\own gk=2/\WaveE w B own b L/\Bk w a 245 (tcells T)/\own a=2
section
variable {w w' : World} {B : Nat} {own own' : Nat -> Nat} {gk : Nat} {L T : List Nat}
theorem WalkE.at (d:WalkE w B own gk L T) (g:T.Perm L):WalkAt w B gk L:=by
 obtain ⟨c,b,e,_,f,a,_⟩:=d;rw [mV g] at a;exact ⟨c,b,e,f.at,a⟩
theorem WalkE.vis (d:WalkE w B own gk L T) (a:Vis w w'):WalkE w' B own gk L T:=by
 obtain ⟨c,b,e,f,g,i,j⟩:=d;exact ⟨c,b,a.bk e dC dC,f,g.vis a,a.bk i dC dC,j⟩
theorem WalkE.far (i:WalkE w B own gk L T) {e:Nat->Prop} (d:Keep e w w') (c:∀a,e a->own a≠2/\own a < 16):WalkE w' B own gk L T:=by
 obtain ⟨g,f,j,k,l,m,n⟩:=i;exact ⟨g,f,d.bk j (fun b=>by have:=c _ b;omega),k,l.far d c,d.bk m (fun b=>by have:=c _ b;omega),n⟩
theorem WalkE.paint (k:WalkE w B own gk L T) (b:∀a,a < w.heap.size->2<=own a->own' a=own a) (l:∀a,own' a≠0->B<=a/\a < w.heap.size):WalkE w B own' gk L T:=by
 obtain ⟨j,i,c,e,f,d,g⟩:=k;exact ⟨j,i,c,by rw [b _ c.lt oM];exact e,f.paint b l,d,by rw [b _ d.lt oM];exact g⟩
theorem WalkE.tally {a:List Nat} (j:WalkE w B own gk L T) (k:T.Perm a):WalkE w B own gk L a:=by
 obtain ⟨i,g,c,d,e,b,f⟩:=j;rw [mV k] at b;exact ⟨i,g,c,d,e,b,f⟩
theorem WaveE.bnd (b:WaveE w B own gk L):∀a,own a≠0->B<=a/\a < w.heap.size:=by
 obtain ⟨c,d,b⟩:=b;exact b.bnd
theorem WalkE.bnd (c:WalkE w B own gk L T):∀a,own a≠0->B<=a/\a < w.heap.size:=by
 obtain ⟨j,i,d,e,b,f,g⟩:=c;exact b.bnd
end
structure Grew (w w':World) (own own':Nat->Nat):Prop where
 old:∀b,b < w.heap.size->own' b=own b
 new:∀b,w.heap.size<=b->own' b≠1
 keep:Keep (fun b=>own b=2∨16<=own b) w w'
theorem Grew.refl {w:World} {own:Nat->Nat} (b:∀a,own a≠0->a < w.heap.size):Grew w w own own:=⟨fun _ _=>rfl,fun a d c=>by have:=b a oM;omega,Keep.refl _ _⟩
theorem Grew.trans {w w1 w':World} {own e own':Nat->Nat} (b:Grew w w1 own e) (d:Grew w1 w' e own'):Grew w w' own own':=by
 have i:=b.keep.size;refine ⟨fun a c=>(d.old a oM).trans (b.old a c),fun a c=>?_,b.keep.trans' d.keep fun a c g=>by rw [<-b.old a c];exact g⟩;by_cases f:a < w1.heap.size;rw [d.old a f];exact b.new a c;exact d.new a oM
theorem Grew.of_vb {B:Nat} {w w':World} {own:Nat->Nat} (c:Keep (fun a=>own a=2∨16<=own a) w w') (b:∀a,own a≠0->a < w.heap.size):Grew w w' own own:=⟨fun _ _=>rfl,fun a e d=>by have:=b a oM;omega,c⟩
end
section
open Go.RowKit Go.Shelf
theorem Bk.shape {w:World} {b:Nat} {d:TypeId} {a:Array Value} (c:Bk w b d a):w.shape? b=some (d,a.size):=by
 unfold Bk at c;unfold World.shape?;rw [c]
end
section
open Go.RowKit Go.Shelf
open Go.Sort (Holds)
theorem PermX.drewN {w:World} {b:Nat->Prop} {g f:Nat} {m n o l:Value} {d c:Nat} {j:List Nat} {a:List (Nat×Nat)} {k:List Bool} {e:List Nat} (i:PermX w b g f m n o l d c j a k e) (p:Nat):PermX (w.drewN p) b g f m n o l d c j a k e:=
 { i with at_:=i.at_.below (below_drewN bR _)}
theorem PermX.sorted {w w':World} {r:Nat->Prop} {x v:Nat} {A g C z:Value} {t s:Nat} {m n:List Nat} {q:List (Nat×Nat)} {y:List Bool} {u:List Nat} (i:PermX w r x v A g C z t s m q y u) (k:n.Perm m) (f:Keep (fun c=>g.ownBlock=some c) w w') (F:w'.ownsRow 0 3 1 g m.length (n.map sv)):PermX w' r x v A g C z t s n q y u:=by
 have a:=i.at_;have j:∀c o d,Bk w c o d->o≠3->¬(g.ownBlock=some c):=fun c o d b G e=>by obtain ⟨I,D⟩:=jZ a.orow e;exact G (bL b D).1
 refine { i with at_:=⟨f.bk a.blk (j _ _ _ a.blk dC),aB a.lrow fun c d _ b=>f.bk b (j _ _ _ b dC),by rw [k.length_eq];exact F,f.bk a.ar (j _ _ _ a.ar dC),aB a.trow fun c d _ b=>f.bk b (j _ _ _ b dC),aB a.frow fun c d b E=>f.bk E fun e=>?_,a.apart,fun p H=>a.lt p (k.subset H),a.lo⟩,nd:=k.nodup_iff.2 i.nd,tkk:=fun p=>(i.tkk p).trans k.mem_iff.symm };rcases a.apart with l | l
 · rw [l] at e;cases e
 exact l (e.trans b.symm)
end
section
open Go.RowKit Go.Shelf
def PermR (w:World) (k e d:Nat) (l:List (Nat×Nat)):Prop:=
 ∃B j o p q n b a m i,PermAt w B k j o p q n e d b a m i/\b.Pairwise (fun f g=>bC a f < bC a g)/\a.length<=1000/\b.length<=1000/\l=b.map fun c=>(bC a c,eB a c)
theorem PermR.le {w:World} {d c b:Nat} {a:List (Nat×Nat)} (e:PermR w d c b a):a.length<=1000:=by
 obtain ⟨B,j,q,r,s,p,n,g,o,i,k,l,m,f,rfl⟩:=e;rw [zBb];exact f
theorem PermR.vis {w w':World} {c b a:Nat} {d:List (Nat×Nat)} (i:PermR w c b a d) (l:Vis w w'):PermR w' c b a d:=by
 obtain ⟨B,g,p,q,r,o,m,e,n,f,j,k⟩:=i;exact ⟨B,g,p,q,r,o,m,e,n,f,j.vis l,k⟩
theorem PermR.lt {w:World} {a c b:Nat} {f:List (Nat×Nat)} (d:PermR w a c b f):a < w.heap.size:=by
 obtain ⟨B,j,o,p,q,n,l,g,m,i,e,k⟩:=d;exact e.blk.lt
theorem tG (B i ae:Nat) (ay az aA ax:Value) (a5 a4:Nat) (e:List Nat) (c:List (Nat×Nat)) (au:List Bool) (ac:List Nat) (w:World) (f:PermAt w B i ae ay az aA ax a5 a4 e c au ac) (af:c.length<=1000) (ag:e.length<=1000):
 Calls prog 175 #[i] w (lZ w (e.map fun a=>(bC c a,eB c a))):=by
 obtain ⟨ar,ak,ao,ap,aq⟩:=info_parts qU;have P:=f.orow;obtain ⟨W,a6,rfl,_,_⟩:=aQ P;obtain ⟨V,H,rfl,_,_⟩:=aQ f.lrow;have u:w.cell? ⟨i,1,none⟩=some (.slice V c.length H):=(f.blk.cell 1).trans rfl;have I:w.cell? ⟨i,2,none⟩=some (.slice W e.length a6):=(f.blk.cell 2).trans rfl;have aj:=f.blk.lt;obtain ⟨G,x⟩:=eqx c.length;obtain ⟨l,n⟩:=eqx e.length;obtain ⟨d,o⟩:∃d,(e.map fun a=>(bC c a,eB c a))=d:=⟨_,rfl⟩;have Q:d.length=l:=by rw [<-o,zBb,n]
 rw [o];obtain ⟨E,a1,Y,a3,r⟩:=hqq5 f n x o Q;rw [x] at u af;rw [n] at I ag;clear f P n x o Q;unfold lZ;go_enter func175,ntmps175;go_wp2_with fail;go_loopw [3,13] (fun av D wr=>∃a:Nat,a<=l/\D=.int .i64 (a:Int)/\wr.ownsRow w.heap.size 146 2 av a (cX (d.take a))/\Below w.heap.size w wr) (fun _ D _=>l -(intOf D).toNat)
 case atStart=>exact ⟨0,zAp _,rfl,World.ownsRow_nil _ _ _ _,Below.refl _ _⟩
 case round=>
  obtain ⟨a,aH,rfl,j,g⟩:=hrel;have R:=g.size;by_cases al:a < l
  · have M:a < e.length:=(by rw [a1.out];exact al);obtain ⟨b,m⟩:∃b,e[a]?=some b:=⟨_,zAa M⟩;have A:b < c.length:=E.out.lt b (zAd m);have aG:b < G:=(by rw [<-Y.out];exact A);have k:=E.out.below g;have C:=k.orow;obtain ⟨ad,aK,ab,_,aE⟩:=World.ownsRow.form C oM;obtain ⟨v,aJ,aa,_,aD⟩:=World.ownsRow.form k.lrow oM;injection ab with e2a _ _;injection aa with e1a _ _;subst e2a;subst e1a;have aB:wr.cell? ⟨ad,a,none⟩=some (.int .i64 (b:Int)):=(World.ownsRow.cellAt C a oM).trans (by rw [zAf,m];rfl);obtain ⟨S,U⟩:=iC c b A;have a8:wr.cell? ⟨v,b*2,none⟩=_:=(World.ownsRow.cellAt k.lrow (b*2) oM).trans S;have a9:wr.cell? ⟨v,b*2+1,none⟩=_:=(World.ownsRow.cellAt k.lrow (b*2+1) oM).trans U;have aC:wr.cell? ⟨i,1,none⟩=some (.slice (some v) G H):=(g.cell (p:=⟨i,1,none⟩) aj).trans u;obtain ⟨s,y⟩:=eqx (bC c b);obtain ⟨t,z⟩:=eqx (eB c b);have O:cX (d.take (a+1))=cX (d.take a)++ [.int .i64 (s:Int),.int .i64 (t:Int)]:=(by have ai:d[a]?=some (s,t):=(by rw [<-a3.out,zAf,m,<-y,<-z];rfl);rw [zAu,ai];show cX (d.take a++ [(s,t)])=_;rw [iP];rfl);rw [y] at a8;rw [z] at a9;obtain ⟨F,q,a2⟩:=hqq3 j g O;clear j g O k C S U u I y z m A M;go_wp2_with (at_builtin;refine aY _ rfl (.tmp 17) (.tmp 25) _ rfl w.heap.size 146 ar (.agg #[.int .i64 0,.int .i64 0]) 2 16 underlying93 ak ao ap aq rfl dC _ a _ rfl F.out rfl rfl (by simp [Value.oneCell']) (by unfold maxLen;omega) oM R ?_;intro aw aM am K aI ah);have J:=aL q.out F.out K R;have Z:=lhd J;clear J K ah;exact ⟨⟨aw,_,_,⟨a+1,by omega,by go_num,by rw [a2.out];exact am,Z.out⟩,rfl,rfl,rfl⟩,by simp [intOf];omega⟩
  · obtain rfl:a=l:=oM;have an:d.take a=d:=zAg (by rw [r.out];exact zAs _);rw [an] at j;obtain ⟨X,a7,rfl,N⟩:=aF j;obtain ⟨a0,q⟩:=hqq2 N g;clear j N g;go_wp2_with fail;go_ret;exact ⟨X,a7,by rw [r.out];rfl,by rw [r.out];exact a0.out,q.out⟩
theorem tF (a c b:Nat) (d:List (Nat×Nat)) (w:World) (i:PermR w a c b d):
 Calls prog 175 #[a] w (lZ w d):=by
 obtain ⟨B,g,p,q,r,o,m,e,n,f,j,s,k,l,rfl⟩:=i;exact tG B a g p q r o c b m e n f w j k l
def fJ (c:List (Nat×Nat)) (b:Nat) (e:Int):Prop:=(e=-1/\∀a∈c,a.2 < b)∨∃a∈c,e=((a.2:Nat):Int)/\b<=a.2/\∀d∈c,b<=d.2->a.2<=d.2
theorem xG {l:List (Nat×Nat)} {f:Nat} {m:Int} (p:fJ l f m) (g a:Nat):fJ (l++(some (g,a)).toList) f (if f<=a/\(m < 0∨(a:Int) < m) then (a:Int) else m):=by
 have e:∀b:Nat×Nat,b∈l++(some (g,a)).toList↔b∈l∨b=(g,a):=fun b=>by simp
 rcases p with ⟨rfl,k⟩|⟨j,q,rfl,k,n⟩;by_cases d:f<=a;rw [zBv ⟨d,.inl oM⟩];refine .inr ⟨(g,a),(e _).2 (.inr rfl),rfl,d,fun b c i=>?_⟩;rcases (e b).1 c with c | rfl;have:=k b c;omega;exact zAs _;rw [zBu (fun o=>d o.1)];refine .inl ⟨rfl,fun b c=>?_⟩;rcases (e b).1 c with c | rfl;exact k b c;show a < f;omega;by_cases d:f<=a/\((j.2:Int) < 0∨(a:Int) < (j.2:Int));rw [zBv d];have r:a < j.2:=oM;refine .inr ⟨(g,a),(e _).2 (.inr rfl),rfl,d.1,fun b c i=>?_⟩;rcases (e b).1 c with c | rfl;have:=n b c i;show a<=_;omega;exact zAs _;rw [zBu d];refine .inr ⟨j,(e _).2 (.inl q),rfl,k,fun b c i=>?_⟩;rcases (e b).1 c with c | rfl;exact n b c i;have s:f<=a:=i;show j.2<=a;omega
def mS (w:World) (b:List (Nat×Nat)) (d:Nat) (c:Ending) (w':World):Prop:=∃a,c=.returned (.int .i64 a)/\fJ b d a/\Below w.heap.size w w'
theorem qD (q D C:Nat) (b:List (Nat×Nat)) (e:Nat) (w:World) (r:PermR w q D C b):
 Calls prog 152 #[q,(e:Int)] w (mS w b e):=by
 have n:=tF q D C b w r;have Y:=r.le;unfold lZ at n;obtain ⟨o,v⟩:=eqx b.length;rw [v] at n Y;have A:=lhd v;clear r v;unfold mS;go_enter func152,ntmps152;go_wp2_with fail;refine n.mono ?_;rintro a9 w1 ⟨a5,a8,rfl,M,G⟩;clear n;obtain ⟨U,z⟩:=hqq2 M G;clear M G;go_wp2_with fail;go_loopw [5,11] (fun a4 x wr=>∃(a:Nat) (d:Int),a<=o/\x=.int .i64 (a:Int)/\a4=.int .i64 d/\fJ (b.take a) e d/\Below w1.heap.size w1 wr) (fun _ x _=>o -(intOf x).toNat)
 case atStart=>exact ⟨0,-1,zAp _,rfl,rfl,.inl ⟨rfl,fun af a1=>by simp at a1⟩,Below.refl _ _⟩
 case round=>
  obtain ⟨a,d,ab,rfl,rfl,j,i⟩:=hrel;have a0:=i.size;by_cases Z:a < o
  · have K:a < b.length:=(by rw [A.out];exact Z);have O:=U.out.rd.below (i.mono (B:=w1.heap.size) nL);obtain ⟨a7,ae,rfl,aa,u⟩:=O.2 oM;obtain ⟨Q,R⟩:=iC b a K;have W:=u _ _ Q;have X:=u _ _ R;obtain ⟨p,s⟩:=eqx (bC b a);obtain ⟨c,t⟩:=eqx (eB b a);rw [s] at W;rw [t,<-Nat.add_assoc] at X;have J:b[a]?=some (p,c):=(by rw [<-s,<-t];unfold bC eB;rw [zAb,zAa K];rfl);have N:∀y:Int,y=(if e<=c/\(d < 0∨(c:Int) < d) then (c:Int) else d)->fJ (b.take (a+1)) e y:=fun y a2=>by rw [zAu,J,a2];exact xG j p c
    obtain ⟨l,a6⟩:=hqq2 N i;have H:Below w1.heap.size w1 (wr.alloc (.cells #[(p:Int),(c:Int)] 146)):=i.alloc a0 _;have k:=lhd H;clear j i O u Q R s t H N J;by_cases m:e<=c
    · have a3:decide (e<=c)=true:=zBx m;by_cases E:d < 0
      · have f:fJ (b.take (a+1)) e (c:Int):=l.out (c:Int) (by rw [zBv ⟨m,.inl E⟩]);have g:=lhd f;clear f;go_wp2_with fail;go_roundw
        case rel=>exact ⟨a+1,(c:Int),by omega,by go_num,by first | rfl | trivial,g.out,k.out⟩
        case measure=>simp [intOf];omega
      · have ac:decide (d < 0)=false:=zBw E;by_cases F:(c:Int) < d
        · have f:fJ (b.take (a+1)) e (c:Int):=l.out (c:Int) (by rw [zBv ⟨m,.inr F⟩]);have g:=lhd f;clear f;go_wp2_with fail;go_roundw
          case rel=>exact ⟨a+1,(c:Int),by omega,by go_num,by first | rfl | trivial,g.out,k.out⟩
          case measure=>simp [intOf];omega
        · have ad:decide ((c:Int) < d)=false:=zBw F;have f:fJ (b.take (a+1)) e d:=l.out d (by rw [zBu oM]);have g:=lhd f;clear f;go_wp2_with fail;go_roundw
          case rel=>exact ⟨a+1,d,by omega,by go_num,by first | rfl | trivial,g.out,k.out⟩
          case measure=>simp [intOf];omega
    · have a3:decide (e<=c)=false:=zBw m;have f:fJ (b.take (a+1)) e d:=l.out d (by rw [zBu oM]);have g:=lhd f;clear f;go_wp2_with fail;go_roundw
      case rel=>exact ⟨a+1,d,by omega,by go_num,by first | rfl | trivial,g.out,k.out⟩
      case measure=>simp [intOf];omega
  · obtain rfl:a=o:=oM;have I:=z.out.trans (i.mono z.out.size);have S:=lhd I;have P:b.take a=b:=zAg (by rw [A.out];exact zAs _);rw [P] at j;have V:=lhd j;clear I j i P;go_wp2_with fail;go_ret;exact ⟨d,rfl,V.out,S.out⟩
def vV (w:World) (d:List Nat) (b:List (Nat×Nat)) (e:Nat) (c:Ending) (w':World):Prop:=∃a,a∈d/\eB b a=e/\c=.returned (.int .i64 ((bC b a:Nat):Int))/\Below w.heap.size w w'
theorem tD (B i y:Nat) (H I J G:Value) (t s:Nat) (d:List Nat) (a:List (Nat×Nat)) (F:List Bool) (u:List Nat) (g:Nat) (w:World) (e:PermAt w B i y H I J G t s d a F u) (W:d.length<=1099511627776) (a6:a.length<=1099511627776) (z:∃k∈d,eB a k=g):
 Calls prog 153 #[i,(g:Int)] w (vV w d a g):=by
 have o:=nK B i y H I J G t s d a F u g w e W;obtain ⟨m,c,C,n,D⟩:=uY (p:=fun k=>decide (eB a k=g)) (l:=d) (by obtain ⟨k,X,Y⟩:=z;exact ⟨k,X,zBx Y⟩) 0;rw [C,zBh] at o;have E:eB a c=g:=of_decide_eq_true D;have ae:m < d.length:=(zAc.1 n).1;have a1:c < a.length:=e.lt c (zAd n);obtain ⟨v,R,a0,aa,U⟩:=World.ownsRow.form e.orow oM;obtain ⟨x,S,Z,ab,V⟩:=World.ownsRow.form e.lrow oM;subst a0;subst Z;have A:=(iC a c a1).1;obtain ⟨K,r,P,N⟩:=hqq4 e n E A;have ad:(m:Int) < (d.length:Int):=oM;have af:(c:Int) < (a.length:Int):=oM;have ac:decide ((m:Int) < 0)=false:=by simp
 clear e C n D E A z;unfold vV;go_enter func153,ntmps153;go_wp2_with fail;refine o.mono ?_;rintro a5 w1 ⟨rfl,j⟩;have f:=K.out.below j;have a2:∀b,(w1.drewN b).cell? ⟨i,1,none⟩=some (.slice (some x) a.length S):=fun b=>(f.blk.cell 1).trans rfl;have a3:∀b,(w1.drewN b).cell? ⟨i,2,none⟩=some (.slice (some v) d.length R):=fun b=>(f.blk.cell 2).trans rfl;have a9:=f.blk.lt;have a4:∀b,(w1.drewN b).cell? ⟨v,m,none⟩=some (.int .i64 (c:Int)):=fun b=>(World.ownsRow.cellAt f.orow m oM).trans (by rw [zAf,r.out];rfl);have Q:∀b,(w1.drewN b).cell? ⟨x,c*2,none⟩=some (.int .i64 ((bC a c:Nat):Int)):=fun b=>(World.ownsRow.cellAt f.lrow (c*2) oM).trans N.out;have M:=lhd j;have a7:=zAl U j.size;have a8:=zAl V j.size;obtain ⟨ag,q⟩:=eqx (bC a c);rw [q] at Q;have O:=lhd q;clear o j f q;go_wp2_with fail;go_quiet (fail);go_wp2_with fail;go_ret;exact ⟨c,zAd r.out,P.out,by rw [O.out];rfl,below_drewN M.out _⟩
def vU (w:World) (d:List (Nat×Nat)) (c:Nat) (b:Ending) (w':World):Prop:=∃a,(a,c)∈d/\b=.returned (.int .i64 (a:Int))/\Below w.heap.size w w'
theorem tC (c i g:Nat) (e:List (Nat×Nat)) (b:Nat) (w:World) (o:PermR w c i g e) (r:∃l∈e,l.2=b):
 Calls prog 153 #[c,(b:Int)] w (vU w e b):=by
 obtain ⟨B,n,z,A,C,y,k,f,x,m,p,D,E,F,rfl⟩:=o;have s:∃a∈k,eB f a=b:=by obtain ⟨l,v,j⟩:=r;obtain ⟨a,d,rfl⟩:=zAx.1 v;exact ⟨a,d,j⟩
 have u:=tD B c n z A C y i g k f x m b w p oM oM s;refine u.mono ?_;rintro j w' ⟨a,d,t,rfl,q⟩;exact ⟨_,zAx.2 ⟨a,d,by rw [t]⟩,rfl,q⟩
end
section
open Go.RowKit
theorem iG (a b:Nat) (e:a < 4294967296) (f:b < 4294967296):bits .xor .u32 (a:Int) (b:Int)=((a ^^^ b:Nat):Int):=by
 have g:a ^^^ b < 2 ^ 32:=Nat.xor_lt_two_pow oM oM;have c:(BitVec.ofInt 32 (a:Int)).toNat=a:=by rw [BitVec.ofInt_natCast,BitVec.toNat_ofNat];exact zBs oM
 have d:(BitVec.ofInt 32 (b:Int)).toNat=b:=by rw [BitVec.ofInt_natCast,BitVec.toNat_ofNat];exact zBs oM
 show IntKind.u32.wrap ((BitVec.ofInt 32 (a:Int)^^^ BitVec.ofInt 32 (b:Int)).toNat:Int)=_;rw [BitVec.toNat_xor,c,d,IntKind.wrap_u32];omega
theorem vI (a b:Nat) (e:a < 256) (f:b < 256):bits .xor .u8 (a:Int) (b:Int)=((a ^^^ b:Nat):Int):=by
 have g:a ^^^ b < 2 ^ 8:=Nat.xor_lt_two_pow oM oM;have c:(BitVec.ofInt 8 (a:Int)).toNat=a:=by rw [BitVec.ofInt_natCast,BitVec.toNat_ofNat];exact zBs oM
 have d:(BitVec.ofInt 8 (b:Int)).toNat=b:=by rw [BitVec.ofInt_natCast,BitVec.toNat_ofNat];exact zBs oM
 show IntKind.u8.wrap ((BitVec.ofInt 8 (a:Int)^^^ BitVec.ofInt 8 (b:Int)).toNat:Int)=_;rw [BitVec.toNat_xor,c,d,IntKind.wrap_u8];omega
theorem sT (a:Nat) (d:a < 4294967296):bits .and .u32 (a:Int) 1=((a % 2:Nat):Int):=by
 have b:(BitVec.ofInt 32 (a:Int)).toNat=a:=by rw [BitVec.ofInt_natCast,BitVec.toNat_ofNat];exact zBs oM
 show IntKind.u32.wrap ((BitVec.ofInt 32 (a:Int)&&& BitVec.ofInt 32 (1:Int)).toNat:Int)=_;rw [BitVec.toNat_and,b];have c:(BitVec.ofInt 32 (1:Int)).toNat=1:=dC;rw [c,IntKind.wrap_u32,Nat.and_one_is_mod];omega
theorem wB (a:Nat) (g:a < 4294967296) (w:World):
 Calls prog 312 #[.int .u32 (a:Int),.bool false] w fun d w'=>d=.returned (.int .u32 ((iF a:Nat):Int))/\Below w.heap.size w w':=by
 have i:=sT a g;go_enter func312,ntmps312;go_wp2_with fail
 · go_ret;refine ⟨?_,Below.refl _ _⟩
   rename_i b
   have c:a % 2=1:=(by have:=eq_of_beq b;omega);have e:((a:Int)/ 2)=((a / 2:Nat):Int):=oM;have f:(3988292384:Int)=((3988292384:Nat):Int):=rfl;show Ending.returned (Value.int .u32 (bits .xor .u32 ((a:Int)/ 2) 3988292384))=_;rw [e,f,iG _ _ oM oM,iF,zBv c]
 · go_ret;refine ⟨?_,Below.refl _ _⟩
   rename_i b
   have c:¬a % 2=1:=(by intro j;have:((a:Int)% 2==1)=true:=zCl.2 oM;rw [this] at b;cases b);show Ending.returned (Value.int .u32 ((a:Int)/ 2))=_;rw [iF,zBu c];rfl
def pS (b c:Nat):Nat->Nat:=fun a=>if a < b then fX a else if a=b then c else 0
theorem aBm (b f e:Nat):(fun c=>if c=b then e else pS b f c)=pS b e:=by
 funext c;unfold pS;by_cases a:c=b
 · rw [zBv a,zBu oM,zBv a]
 · rw [zBu a];by_cases d:c < b
   · rw [zBv d,zBv d]
   · rw [zBu d,zBu d,zBu a,zBu a]
theorem zQ (a:Nat):pS a (fX a)=pS (a+1) 0:=by
 funext p;unfold pS;by_cases b:p < a
 · rw [zBv b,zBv oM]
 · rw [zBu b];by_cases c:p=a
   · subst c;rw [zBv rfl,zBv oM]
   · rw [zBu c,zBu oM];split <;> rfl
@[irreducible] def crcC:Array Value:=gC .u32 256 fX
@[irreducible] def tabC (a d:Nat):Array Value:=gC .u32 256 (pS a d)
theorem tW {a d b:Nat} (c:a < 256):(tabC a d).setIfInBounds a (.int .u32 (b:Int))=tabC a b:=by
 unfold tabC;rw [gT c,aBm]
theorem oC {a b:Nat} (c:a < 256):(tabC a b)[a]?=some (.int .u32 (b:Int)):=by
 unfold tabC;rw [dP c];unfold pS;rw [zBu oM,zBv rfl]
theorem zS (a:Nat):tabC a (lO 8 a)=tabC (a+1) 0:=by
 unfold tabC;rw [<-zQ];rfl
theorem qP:Array.replicate 256 (Value.int .u32 0)=tabC 0 0:=by
 unfold tabC;rw [jP];exact bY fun b a=>by unfold pS;rw [zBu oM];split <;> rfl
theorem aBn (b:Nat):tabC 256 b=crcC:=by
 unfold tabC crcC;exact bY fun c a=>by unfold pS;rw [zBv a]
theorem aCd {a:Nat} (b:a < 256):crcC[a]?=some (.int .u32 ((fX a:Nat):Int)):=by
 unfold crcC;exact dP b
theorem jO:crcC.size=256:=by unfold crcC;exact gS _ _ _
theorem zR (a b:Nat):(tabC a b).size=256:=by unfold tabC;exact gS _ _ _
theorem zO {w w':World} {b:Array Value} {a:Nat} (g:b.getD 0 undef=.pointer (some a)) (d:Bk w' a 276 crcC) (i:(prog.info? 276).map (·.size)=some crcC.size) (e:Below w.heap.size w w'):
 bodyPost prog f272 (fun c w'=>c=.returned (.agg crcC)/\Below w.heap.size w w') .ret ⟨b, []⟩ w':=
 bodyPost_ret (results_cell_row (P:=prog) (fn:=f272) (p:=0) (ty:=276) rfl b w' a 276 crcC (0,0) _ g d underlying276 rfl i) rfl ⟨rfl,e⟩
theorem aDi (a:Nat) (d:a < 4294967296):bits .xor .u32 IntKind.u32.max (a:Int)=((4294967295 - a:Nat):Int):=by
 have b:IntKind.u32.max=((4294967295:Nat):Int):=dC;rw [b,iG _ _ oM d];congr 1;have c:(4294967295:Nat)^^^ a=(BitVec.allOnes 32 ^^^ BitVec.ofNat 32 a).toNat:=by rw [BitVec.toNat_xor,BitVec.toNat_ofNat,zBs (by omega:a < 2 ^ 32)];rfl
 rw [c,BitVec.allOnes_xor,BitVec.toNat_not,BitVec.toNat_ofNat,zBs (by omega:a < 2 ^ 32)]
theorem tN (w:World):
 Calls prog 272 #[] w fun s w'=>s=.returned (.agg crcC)/\Below w.heap.size w w':=by
 go_enter func272,ntmps272;go_wp2_with fail;go_loopw [3] (fun c wr=>∃(a:Nat) (i:Nat),a<=256/\c=.int .i64 (a:Int)/\Bk wr w.heap.size 276 (tabC 0 0)/\Bk wr (w.heap.size+1) 276 (tabC a i)/\(a < 256->i=0)/\Below w.heap.size w wr) (fun c _=>256 -(intOf c).toNat)
 case atStart=>refine ⟨0,0,by omega,rfl,?_,?_,fun _=>rfl,?_⟩;rw [<-qP];exact (Bk.new _ _ _).alloc _;rw [<-qP];have t:=Bk.new (w.alloc (.cells Tryz.zeroCells276 276)) 276 Tryz.zeroCells276;rw [show (w.alloc (.cells Tryz.zeroCells276 276)).heap.size=w.heap.size+1 by simp] at t;exact t;exact (bR.alloc nL _).alloc (by simp) _
 case round=>
  obtain ⟨a,i,N,rfl,k,d,g,u⟩:=hrel;by_cases e:a < 256
  · have C:=g e;subst C;have J:((a:Int) < 256):=oM;have E:wr.cell? ⟨w.heap.size+1,a,none⟩=some (.int .u32 0):=(d.cell a).trans (oC e);have H:=d.frozen a;go_wp2_with fail;go_loopw [10] (fun c q=>∃b:Nat,b<=8/\c=.int .i64 (b:Int)/\Bk q w.heap.size 276 (tabC 0 0)/\Bk q (w.heap.size+1) 276 (tabC a (lO b a))/\Below w.heap.size w q) (fun c _=>8 -(intOf c).toNat)
    case atStart=>refine ⟨0,by omega,rfl,k.far (by simp) _,?_,u.setCell (by simp) _⟩;have:=d.set a (.int .u32 (a:Int));rw [tW e] at this;exact this
    case round=>
        obtain ⟨b,K,rfl,n,f,m⟩:=hrel;by_cases O:b < 8
        · have M:((b:Int) < 8):=oM;have F:wr.cell? ⟨w.heap.size+1,a,none⟩=some (.int .u32 ((lO b a:Nat):Int)):=(f.cell a).trans (oC e);go_wp2_with fail;refine (wB (lO b a) (oY oM b) _).mono ?_;rintro s D ⟨rfl,l⟩;have o:=f.below l f.lt;have A:=n.below l n.lt;have G:D.cell? ⟨w.heap.size+1,a,none⟩=some (.int .u32 ((lO b a:Nat):Int)):=(o.cell a).trans (oC e);have I:=o.frozen a;go_wp2_with fail;go_roundw
          case rel=>refine ⟨b+1,by omega,by go_num,A.far (by simp) _,?_,(m.trans (l.mono m.size)).setCell (by simp) _⟩;have:=o.set a (.int .u32 ((iF (lO b a):Nat):Int));rw [tW e] at this;exact this
          case measure=>simp [intOf];omega
        · have p:b=8:=oM;subst p;go_wp2_with fail;go_roundw
          case rel=>rw [zS] at f;exact ⟨a+1,0,by omega,by go_num,n,f,fun _=>rfl,m⟩
          case measure=>simp [intOf];omega
  · have p:a=256:=oM;subst p;rw [aBn] at d;obtain ⟨r,y⟩:=hqq2 k d;clear k d;have x:(prog.info? 276).map (·.size)=some crcC.size:=(by rw [jO];kernel_rfl);have v:crcC.all (·.oneCell')=true:=(by unfold crcC gC;rw [Array.all_eq_true_iff_forall_mem];intro i g;rw [List.mem_toArray,zAx] at g;obtain ⟨Q,_,rfl⟩:=g;rfl);obtain ⟨j,z⟩:=hqq2 x v;clear x v;go_wp2_with (first |(refine wpList_load_row (P:=prog) rfl 276 (.tmp 1) rfl (w.heap.size+1) rfl 276 crcC (0,0) _ y.out underlying276 rfl j.out ?_)|(refine wpList_store_row (P:=prog) rfl 276 (.tmp 0) (.tmp 20) rfl w.heap.size crcC rfl rfl 276 (tabC 0 0) r.out j.out (by rw [zR,jO]) z.out ?_));exact zO rfl (setRow_heap wr w.heap.size _ crcC _ _ r.out) j.out (below_setRow u nL _)
theorem wC (d:Nat) (I:d < 4294967296) (p:Option Addr) (f D:Nat) (b:List UInt8) (w:World) (n:Rd w w.heap.size 1 p f (b.map bv)) (V:f<=1099511627776):
 Calls prog 198 #[.int .u32 (d:Int),.slice p f D] w fun q w'=>q=.returned (.int .u32 ((sO d b:Nat):Int))/\Below w.heap.size w w':=by
 have S:b.length=f:=by have:=n.1;simpa using this
 have z:=lhd n;clear n;have v:(prog.info? 276).map (·.size)=some crcC.size:=by rw [jO];kernel_rfl
 have u:crcC.all (·.oneCell')=true:=by unfold crcC gC;rw [Array.all_eq_true_iff_forall_mem];intro c i;rw [List.mem_toArray,zAx] at i;obtain ⟨X,_,rfl⟩:=i;rfl
 obtain ⟨C,A⟩:=hqq2 v u;clear v u;go_enter func198,ntmps198;go_wp2_with fail;refine (tN _).mono ?_;rintro q w1 ⟨rfl,s⟩;go_wp2_with (refine wpList_store_row (P:=prog) rfl 276 (.tmp 5) (.tmp 8) rfl w1.heap.size crcC rfl rfl 276 Tryz.zeroCells276 (heap_alloc_new _ _) C.out (by rw [jO];kernel_rfl) A.out ?_;rw [World.setRow_alloc_new]);rw [aDi d I];have G:=s.size;go_loopw [0,13] (fun c o wr=>∃a:Nat,a<=f/\o=.int .i64 (a:Int)/\c=.int .u32 ((nB (b.take a) (4294967295 - d):Nat):Int)/\Bk wr w1.heap.size 276 crcC/\Below w.heap.size w wr) (fun _ o _=>f -(intOf o).toNat)
 case atStart=>exact ⟨0,by omega,rfl,by rw [List.take_zero];rfl,Bk.new _ _ _,s.alloc G _⟩
 case round=>
  obtain ⟨a,U,rfl,rfl,t,l⟩:=hrel;by_cases H:a < f
  · obtain ⟨N,W,Y,rfl,R,g,E⟩:=(z.out.below l).get H;rw [zAf] at g;obtain ⟨e,y⟩:∃e,b[a]?=some e:=⟨_,zAa oM⟩;rw [y] at g;injection g with g;subst g;have J:b.take (a+1)=b.take a++ [e]:=(by rw [zAu,y];rfl);have k:=oZ (b.take a) e (4294967295 - d);rw [<-J] at k;have x:=lP (b.take a) (4294967295 - d) oM;obtain ⟨c,i⟩:=eqx (nB (b.take a) (4294967295 - d));rw [i] at k x;rw [i];have m:=aCc x e;have K:=e.toNat_lt;have r:bits .xor .u8 ((c:Int)% 256) (e.toNat:Int)=(((c % 256)^^^ e.toNat:Nat):Int):=(by have:((c:Int)% 256)=((c % 256:Nat):Int):=oM;rw [this,vI _ _ oM K]);obtain ⟨j,M⟩:=eqx ((c % 256)^^^ e.toNat);rw [M] at k m r;have O:wr.cell? ⟨w1.heap.size,j,none⟩=some (.int .u32 ((fX j:Nat):Int)):=(t.cell j).trans (aCd m);have Q:bits .xor .u32 ((fX j:Nat):Int) ((c:Int)/ 256)=((fX j ^^^(c / 256):Nat):Int):=(by have:((c:Int)/ 256)=((c / 256:Nat):Int):=oM;rw [this,iG _ _ (rF m) oM]);unfold bv at E;go_wp2_with fail;go_roundw
    case rel=>exact ⟨a+1,by omega,by go_num,by rw [k],t,l⟩
    case measure=>simp [intOf];omega
  · have F:a=f:=oM;subst F;rw [zAg (by omega:b.length<=a)];have r:=aDi _ (lP b (4294967295 - d) oM);go_wp2_with fail;go_ret;exact ⟨rfl,l⟩
theorem mT (d l:Option Addr) (c f p:Nat) (e:List UInt8) (w:World) (u:Rd w w.heap.size 1 d c (e.map bv)) (s:c<=1099511627776) (t:Rd w w.heap.size 1 l 1 [.slice d c f]):
 Calls prog 129 #[.slice l 1 p] w fun m w'=>m=.returned (.int .u32 ((iW e:Nat):Int))/\Below w.heap.size w w':=by
 obtain ⟨o,v,A,rfl,r,i,n⟩:=t.get (k:=0) oM;injection i with i;subst i;go_enter func129,ntmps129;go_wp2_with fail;go_loopw [3,8] (fun x j wr=>∃a:Nat,a<=1/\j=.int .i64 (a:Int)/\x=.int .u32 (((if a=0 then 0 else iW e):Nat):Int)/\Below w.heap.size w wr) (fun _ j _=>1 -(intOf j).toNat)
 case atStart=>exact ⟨0,by omega,rfl,rfl,Below.refl _ _⟩
 case round=>
  obtain ⟨a,y,rfl,rfl,b⟩:=hrel;by_cases z:a < 1
  · have g:a=0:=oM;subst g;have n:wr.cell? ⟨o,v,none⟩=some (.slice d c f):=(b.cell r).trans n;rw [zBv rfl];go_wp2_with fail;refine (wC 0 oM d c f e wr ((u.below b).mono b.size) s).mono ?_;rintro m w1 ⟨rfl,q⟩;go_wp2_with fail;go_roundw
    case rel=>exact ⟨1,by omega,rfl,rfl,b.trans (q.mono b.size)⟩
    case measure=>simp [intOf]
  · have g:a=1:=oM;subst g;rw [zBu oM];go_wp2_with fail;go_ret;exact ⟨rfl,b⟩
theorem lW (d:Option Addr) (a i B:Nat) (b:List UInt8) (w:World) (p:Rd w B 1 d a (b.map bv)) (a0:B<=w.heap.size) (a6:a<=1000000):
 Calls prog 167 #[.slice d a i] w fun e w'=>∃r C,e=.returned (.slice r (cL b).length C)/\Made w' w.heap.size 5 1 r (cL b).length C ((cL b).map bv)/\Below w.heap.size w w':=by
 have o:b.length=a:=by have:=p.1;simpa using this
 obtain ⟨k0,l⟩:=eqx ((aW a).length);have a5:k0<=11:=by rw [<-l];exact cB a
 obtain ⟨A,j⟩:=eqx ((cL b).length);have a3:A<=2000000:=by rw [<-j,fL,o,l];omega
 obtain ⟨Q,X,S,V⟩:=hqq4 (p.mono a0) l j o;have a4:=zE b;rw [j];clear p l j o;go_enter func167,ntmps167;go_wp2_with fail;refine (pN _ _ _ _ [a] _ (aW a) k0 (kG a) X.out (Rd.made _ _ 1 1 _ rfl) nL (by simp;omega) oM).mono ?_;rintro e w1 ⟨s,D,rfl,J,F⟩;have k:=((Below.refl w.heap.size w).alloc nL _).trans (F.mono (by simp));have N:=J.rd;obtain ⟨m,y,v⟩:=hqq3 (Q.out.below k) N k;have q:=k.size;clear J F k N;go_wp2_with fail;refine (mT d _ a i _ b _ (((m.out.alloc q _).mono (by simp;omega))) oM (Rd.made _ _ 1 1 _ rfl)).mono ?_;rintro e aa ⟨rfl,G⟩;have f:=((Below.refl w1.heap.size w1).alloc nL _).trans (G.mono (by simp));obtain ⟨u,z,x⟩:=hqq3 (m.out.below (f.mono q)) (y.out.below f) (v.out.trans (f.mono q));have a7:=f.size;clear f G m y v;go_wp2_with fail;refine (rN (iW b) _).mono ?_;rintro e c ⟨t,E,rfl,K,g⟩;have O:=K.rd;obtain ⟨R,Z,W,n⟩:=hqq4 (u.out.below (g.mono oM)) (z.out.below (g.mono oM)) O (x.out.trans (g.mono oM));have a8:=g.size;clear g K O u z x;go_wp2_with fail
 have I:=kL (some ⟨c.heap.size,0,none⟩) 3 3 (c.heap.size+1) [⟨s,k0,D,aW a⟩,⟨d,a,i,b⟩,⟨t,4,E,lM (iW b)⟩] (cL b) A (by unfold cL;rw [V.out];simp [fY]) S.out (c.alloc (.cells #[.slice s k0 D,.slice d a i,.slice t 4 E] 22)) ((Rd.made c _ 1 3 _ rfl).mono (by simp)) (by
  intro a9 P;simp at P;rcases P with rfl | rfl | rfl;exact (Z.out.mono oM).alloc oM _ |>.mono oM;exact (R.out.mono oM).alloc oM _ |>.mono oM
  · exact (W.out.alloc oM _).mono oM) (by simp) oM oM
 refine I.mono ?_;clear I;rintro e ab ⟨a1,a2,rfl,M,H⟩;have Y:=lhd (M.mono (B':=w.heap.size) (by simp;have:=n.out.size;omega));have U:=lhd (n.out.trans ((((Below.refl c.heap.size c).alloc nL _).trans (H.mono (by simp))).mono n.out.size));clear M H;go_wp2_with fail;go_ret;exact ⟨_,_,rfl,Y.out,U.out⟩
theorem VisF.waveC {d:Nat->Prop} {w w':World} {b:Nat} {e:Nat->Value} {f g:Int} (i:VisF d w w') (j:Bk w b 229 (wcells e f g)) (k:¬d b):∃c,Bk w' b 229 (wcells e f c):=by
 rcases VisF.wave i j k with a |⟨c,a⟩;exact ⟨g,a⟩;rw [cM] at a;exact ⟨c,a⟩
end
section
open Go.RowKit Go.Shelf
attribute [local go_sem] Oper.semAt_some
def aDk (L:List Nat) (b:Nat×Nat) (a:UInt8):Nat×Nat:=(fB L (a.toNat+1) b.1,fB L (a.toNat+1) b.2)
structure FInv (w0:World) (Bw gl gb glo gs b3:Nat) (sl:Value) (L:List Nat) (pre:List (Nat×UInt8)) (W:World):Prop where
 lo:Bk W glo 3 #[.int .i64 ((((pre.map (·.2)).foldl (aDk L) (0,L.length)).1:Nat):Int)]
 hi:Bk W (glo+1) 3 #[.int .i64 ((((pre.map (·.2)).foldl (aDk L) (0,L.length)).2:Nat):Int)]
 lv:LvW W Bw gl L
 box:Bk W gb 56 #[gl]
 bs:Bk W gs 22 #[sl]
 dat:∃t cs,Bk W b3 t cs/\t∈ [5,22]
 vis:VB Bw w0 W
theorem FInv.own {w0:World} {p t s u v r B:Nat} {C:Value} {L:List Nat} (D:w0.heap.size<=B):OwnFrom B (fun A k=>FInv w0 p t s u v r C L A k):=by
 intro F k q row a d n;have g:∀b i f,Bk k b i f->Bk q b i f:=by intro b i f e;refine (d.block b e.lt fun c=>?_).trans e;obtain ⟨_,E,j,z⟩:=n b c.symm;unfold Bk at e;rw [e] at j;injection j with j;subst j;cases z
 obtain ⟨i,f,x,y⟩:=a.dat;refine ⟨g _ _ _ a.lo,g _ _ _ a.hi,a.lv.same g,g _ _ _ a.box,g _ _ _ a.bs,⟨i,f,g _ _ _ x,y⟩,⟨d.os.trans a.vis.1.os,d.tape.trans a.vis.1.tape,d.output.trans a.vis.1.output,zAk a.vis.1.size d.size,fun b e m=>?_⟩,⟨d.os.trans a.vis.1.os,d.tape.trans a.vis.1.tape,d.output.trans a.vis.1.output,zAk a.vis.1.size d.size,fun b e m=>(d.block b (zAl e a.vis.1.size) fun c=>?_).trans (a.vis.2.block b e m)⟩⟩;rcases a.vis.1.block b e m with c |⟨f,o,c,l⟩|⟨f,o,c,l⟩;refine .inl ((d.block b (zAl e a.vis.1.size) fun c=>?_).trans c);have:=(n b c.symm).1;omega;exact .inr (.inl ⟨f,o,c,g _ _ _ l⟩);exact .inr (.inr ⟨f,o,c,g _ _ _ l⟩);have:=(n b c.symm).1;omega
end
end Go.Proofs.YtihaijbgmjdhgaaGreatDoor
