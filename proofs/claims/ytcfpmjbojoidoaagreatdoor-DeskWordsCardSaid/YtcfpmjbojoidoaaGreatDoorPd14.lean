/- Lemmas of the walk. Conditions: each its own. -/
import Derived.Test.YtcfpmjbojoidoaaGreatDoorPd11
import Derived.Test.YtcfpmjbojoidoaaGreatDoorPd13
import Derived.Test.YtcfpmjbojoidoaaGreatDoorProg
import Derived.Test.YtcfpmjbojoidoaaGreatDoorShl
import Derived.Test.YtcfpmjbojoidoaaGreatDoorShi
set_option linter.all false
set_option maxRecDepth 100000
set_option maxHeartbeats 4000000
open Go.Proofs.Tryz
namespace Go.Proofs.YtcfpmjbojoidoaaGreatDoor
section
open Go.RowKit
def WalkT (w:World) (B gk:Nat) (L T:List Nat):Prop:=
 ∃b a,Bk w gk 147 #[.pointer (some ⟨b,0,none⟩),.pointer (some ⟨a,0,none⟩)]/\WaveAt w B b L/\Bk w a 209 (tcells T)
def WalkT.vis {w w':World} {B gk:Nat} {L T:List Nat} (d:WalkT w B gk L T) (a:Vis w w'):WalkT w' B gk L T:=by
 obtain ⟨c,b,e,f,g⟩:=d;exact ⟨c,b,a.bk e dC dC,f.vis a,a.bk g dC dC⟩
def pP (L T:List Nat) (a b:Nat):Nat:=T.countP (fun c=>decide (c < a))+(L.take b).count a
def aAI (B gk:Nat) (L T:List Nat) (w:World) (d:WalkT w B gk L T):
 Calls prog 69 #[gk] w fun a w'=>a=.returned (.int .i64 (L.length:Int))/\w=w':=by
 obtain ⟨c,i,b,e,f⟩:=d;have g:=b.cell 0;clear b f;go_enter func69,ntmps69;go_wp2_with fail;refine (sV B c L _ e).mono ?_;rintro a w' ⟨rfl,rfl⟩;go_wp2_with fail;go_ret;exact ⟨rfl,rfl⟩
def vX (B gk:Nat) (L T:List Nat) (a:Nat) (w:World) (k:WalkT w B gk L T) (o:a < 257) (n:T.length<=1000):
 Calls prog 153 #[gk,(a:Int)] w fun c w'=>c=.returned (.int .i64 ((T.countP (fun b=>decide (b < a)):Nat):Int))/\Below w.heap.size w w':=by
 obtain ⟨q,j,d,l,e⟩:=k;have p:=d.cell 1;clear d l;have i:=lhd e;clear e;go_enter func153,ntmps153;go_wp2_with fail;refine (jF j T a _ i.out o n).mono ?_;rintro c w' ⟨rfl,m⟩;obtain ⟨g,f⟩:∃g,T.countP (fun b=>decide (b < a))=g:=⟨_,rfl⟩;rw [f];go_wp2_with fail;go_ret;exact ⟨by rw [f];rfl,m⟩
def aCe (B gk:Nat) (L T:List Nat) (b:Nat) (w:World) (d:WalkT w B gk L T) (g:b < L.length):
 Calls prog 150 #[gk,(b:Int)] w fun c w'=>c=.returned (.bool true)/\w=w':=by
 obtain ⟨i,a⟩:=eqx L.length;rw [a] at g;have j:(b:Int) < (i:Int):=oM;obtain ⟨f,e⟩:=hqq2 a d;clear a d;go_enter func150,ntmps150;go_wp2_with fail;refine (aAI B gk L T w e.out).mono ?_;rintro c w' ⟨rfl,rfl⟩;rw [f.out];go_wp2_with fail;go_ret;exact ⟨rfl,rfl⟩
def nU (B gk:Nat) (L T:List Nat) (d b:Nat) (w:World) (D:WalkT w B gk L T) (n:L[d]?=some b) (t:∀v∈L,v < 257) (Q:L.length<=1000) (K:T.length<=1000):
 Calls prog 148 #[gk,(d:Int)] w fun f w'=>f=.returned (.int .i64 ((pP L T b d:Nat):Int))/\VB B w w':=by
 have N:=(zAc.1 n).1;have S:b < 257:=t _ (zAd n);have J:=D;obtain ⟨l,al,m,H,a7⟩:=D;have a4:=m.cell 0;have ao:=m.lt;obtain ⟨j,u⟩:=eqx (pP L T b d);obtain ⟨q,o⟩:∃ab,T.countP (fun v=>decide (v < b))=ab:=⟨_,rfl⟩;obtain ⟨r,p⟩:=eqx ((L.take d).count b);have O:q+r=j:=by rw [<-o,<-p,<-u];rfl
 have am:q<=1000:=by rw [<-o];exact zAk zBh K
 have an:r<=1000:=by rw [<-p];exact zAk zBv (by rw [zAj];omega)
 rw [u];obtain ⟨x,U,y,s,Z,z,A,X,a1⟩:=hqq9 J m H N n t Q K o;obtain ⟨a2,a0⟩:=hqq2 p O;clear J m H a7 N n t Q o p u O;go_enter func148,ntmps148;go_wp2_with fail;refine (aCe B gk L T d w x.out s.out).mono ?_;rintro f w1 ⟨rfl,rfl⟩;go_wp2_with fail;refine (dN B l L d b w y.out s.out (zAc.1 Z.out).2 z.out A.out).mono ?_;rintro f k ⟨rfl,i⟩;have M:=x.out.vis i.1;have E:=i.1.bk U.out dC dC;have I:=y.out.vis i.1;obtain ⟨Y,V,W,a3⟩:=hqq4 M E I i;clear M E I i a4;go_wp2_with fail;refine wp_region_any kR ?_;refine aX [20,21,22,23,24,25,26,27,28,29,30,4] (VB B) (Vs [is gk,is (b:Int),is (q:Int),is gk,is gk,is gk,is l,is (d:Int),is (b:Int),is (r:Int),is (j:Int),is (j:Int)]) _ _ rfl kR vR (fun _ _=>VisK.trans) (cM tA0) ?_ ?_
 · refine aR ?_;refine pH 0 (.pointer (some gk)) ?_;refine pH 5 (.int .i64 (b:Int)) ?_;refine sC (fun _ e a _ _ _ c _ _ _ g=>?_) ?_
   · have ae:_=_:=c 0 20 kR rfl;have af:_=_:=c 1 21 kR rfl;replace a:(VB B) k e:=bD a;go_simp;refine (vX B gk L T b e (Y.out.vis a.1) S X.out).mono ?_;rintro f ad ⟨rfl,a8⟩;rw [a1.out];exact g _ _ (VisK.of_below a8) rfl
   refine pH 0 (.pointer (some gk)) ?_;refine pV 3 23 ?_;refine pV 4 24 ?_;refine pL 5 25 (fun e a=>have a:(VB B) k e:=bD a;(((a.1.bk V.out dC dC).cell 0).trans rfl:e.cell? gk=some (.pointer (some l)))) ?_;refine pH 1 (.int .i64 (d:Int)) ?_;refine pH 5 (.int .i64 (b:Int)) ?_;refine sC (fun _ e a _ _ _ c _ _ _ g=>?_) ?_
   · have ah:_=_:=c 6 26 kR rfl;have ai:_=_:=c 7 27 kR rfl;have aj:_=_:=c 8 28 kR rfl;replace a:(VB B) k e:=bD a;go_simp;refine (gF B l L d b e (W.out.vis a.1) S (zCl s.out) z.out A.out).mono ?_;rintro f ad ⟨rfl,aa⟩;rw [a2.out];exact g _ _ aa rfl
   refine sC (fun _ _ _ _ _ _ c _ _ _ g=>?_) ?_
   · have ag:_=_:=c 2 22 kR rfl;have ak:_=_:=c 9 29 kR rfl;have ap:IntKind.i64.wrap ((q:Int)+(r:Int))=(j:Int):=(by rw [IntKind.wrap_i64];have:=a0.out;omega);go_simp;exact g _ _ vR rfl
   refine pV 10 30 ?_;exact aH
 · intro a6 ac a c;replace a:(VB B) k ac:=bD a;have a5:a6 (.tmp 4)=.int .i64 (j:Int):=c 11 4 rfl;simp only [zqq];rw [a5];clear c;have a9:=a3.out.trans a;go_wp2_with fail;go_ret;exact ⟨rfl,a9⟩
def WalkE (w:World) (B:Nat) (own:Nat->Nat) (gk:Nat) (L T:List Nat):Prop:=
 ∃b a,Bk w gk 147 #[.pointer (some ⟨b,0,none⟩),.pointer (some ⟨a,0,none⟩)]/\own gk=2/\WaveE w B own b L/\Bk w a 209 (tcells T)/\own a=2
section
variable {w w' : World} {B : Nat} {own own' : Nat -> Nat} {gk : Nat} {L T : List Nat}
def WalkE.atT (c:WalkE w B own gk L T):WalkT w B gk L T:=by
 obtain ⟨b,a,d,_,e,f,_⟩:=c;exact ⟨b,a,d,e.at,f⟩
def WalkE.at (d:WalkE w B own gk L T) (g:T.Perm L):WalkAt w B gk L:=by
 obtain ⟨c,b,e,_,f,a,_⟩:=d;rw [sJ g] at a;exact ⟨c,b,e,f.at,a⟩
def WalkE.vis (d:WalkE w B own gk L T) (a:Vis w w'):WalkE w' B own gk L T:=by
 obtain ⟨c,b,e,f,g,i,j⟩:=d;exact ⟨c,b,a.bk e dC dC,f,g.vis a,a.bk i dC dC,j⟩
def WalkE.far (g:WalkE w B own gk L T) {H:Nat->Prop} (d:Keep H w w') (c:∀a,H a->own a≠2/\own a < 16):WalkE w' B own gk L T:=by
 obtain ⟨f,e,i,j,k,l,m⟩:=g;exact ⟨f,e,d.bk i (fun b=>by have:=c _ b;omega),j,k.far d c,d.bk l (fun b=>by have:=c _ b;omega),m⟩
def WalkE.paint (k:WalkE w B own gk L T) (b:∀a,a < w.heap.size->2<=own a->own' a=own a) (l:∀a,own' a≠0->B<=a/\a < w.heap.size):WalkE w B own' gk L T:=by
 obtain ⟨j,i,c,e,f,d,g⟩:=k;exact ⟨j,i,c,by rw [b _ c.lt oM];exact e,f.paint b l,d,by rw [b _ d.lt oM];exact g⟩
def WalkE.tally {a:List Nat} (j:WalkE w B own gk L T) (k:T.Perm a):WalkE w B own gk L a:=by
 obtain ⟨i,g,c,d,e,b,f⟩:=j;rw [sJ k] at b;exact ⟨i,g,c,d,e,b,f⟩
def WaveE.bnd (b:WaveE w B own gk L):∀a,own a≠0->B<=a/\a < w.heap.size:=by
 obtain ⟨c,d,b⟩:=b;exact b.bnd
def WalkE.bnd (c:WalkE w B own gk L T):∀a,own a≠0->B<=a/\a < w.heap.size:=by
 obtain ⟨j,i,d,e,b,f,g⟩:=c;exact b.bnd
end
structure Grew (w w':World) (own own':Nat->Nat):Prop where
 old:∀b,b < w.heap.size->own' b=own b
 new:∀b,w.heap.size<=b->own' b≠1
 keep:Keep (fun b=>own b=2∨16<=own b) w w'
def Grew.refl {w:World} {own:Nat->Nat} (b:∀a,own a≠0->a < w.heap.size):Grew w w own own:=⟨fun _ _=>rfl,fun a d c=>by have:=b a oM;omega,Keep.refl _ _⟩
def Grew.trans {w w1 w':World} {own e own':Nat->Nat} (b:Grew w w1 own e) (d:Grew w1 w' e own'):Grew w w' own own':=by
 have i:=b.keep.size;refine ⟨fun a c=>(d.old a oM).trans (b.old a c),fun a c=>?_,b.keep.trans' d.keep fun a c g=>by rw [<-b.old a c];exact g⟩;by_cases f:a < w1.heap.size;rw [d.old a f];exact b.new a c;exact d.new a oM
def Grew.of_vb {B:Nat} {w w':World} {own:Nat->Nat} (c:Keep (fun a=>own a=2∨16<=own a) w w') (b:∀a,own a≠0->a < w.heap.size):Grew w w' own own:=⟨fun _ _=>rfl,fun a e d=>by have:=b a oM;omega,c⟩
def eC (B gk:Nat) (own:Nat->Nat) (L T:List Nat) (f g:Nat) (w:World) (b:WalkE w B own gk L T) (S:g < 257) (O:f<=L.length) (I:∀U∈L,U < 257) (Q:L.length<=127):
 Calls prog 141 #[gk,(f:Int),(g:Int)] w fun n w'=>n=.returned (.tuple #[])/\∃own',WalkE w' B own' gk (aM L f g) T/\Grew w w' own own':=by
 obtain ⟨c,o,d,E,e,k,H⟩:=b;have D:w.cell? gk=some (.pointer (some c)):=(d.cell 0).trans rfl;have J:=d.lt;have N:own c=2:=by obtain ⟨m,v,b⟩:=e;exact b.base.2
 have K:gk≠c:=by obtain ⟨m,v,b⟩:=e;exact Bk.ne d b.blk dC
 have M:o≠c:=by obtain ⟨m,v,b⟩:=e;exact Bk.ne k b.blk dC
 obtain ⟨x,y,l⟩:=hqq3 d e k;clear d e k;go_enter func141,ntmps141;go_wp2_with fail;refine (vT B c own L f g w y.out S O I Q).mono ?_;rintro n w1 ⟨rfl,own',u,j,s,i⟩;have q:=i.bk x.out (fun a=>by rcases a with a | a;exact K a;omega);have t:=i.bk l.out (fun a=>by rcases a with a | a;exact M a;omega);have r:Grew w w1 own own':=⟨j,s,i.mono fun V _ a=>by rcases a with a | a;left;rw [a,N];right;exact a⟩;have A:=lhd r;have p:WalkE w1 B own' gk (aM L f g) T:=⟨c,o,q,by rw [j _ J];exact E,u,t,by rw [j _ l.out.lt];exact H⟩;have z:=lhd p;clear u j s i q t r p D;go_wp2_with fail;go_end0;exact ⟨rfl,own',z.out,A.out⟩
def fS (B gk:Nat) (own:Nat->Nat) (L T:List Nat) (f k:Nat) (w:World) (b:WalkE w B own gk L T) (s:L[f]?=some k) (K:∀U∈L,U < 257) (S:L.length<=128):
 Calls prog 133 #[gk,(f:Int)] w fun n w'=>n=.returned (.int .i64 (k:Int))/\∃own',WalkE w' B own' gk (aD L f) T/\Grew w w' own own':=by
 obtain ⟨c,o,d,I,e,j,J⟩:=b;have H:w.cell? gk=some (.pointer (some c)):=(d.cell 0).trans rfl;have M:=d.lt;have Q:own c=2:=by obtain ⟨m,x,b⟩:=e;exact b.base.2
 have N:gk≠c:=by obtain ⟨m,x,b⟩:=e;exact Bk.ne d b.blk dC
 have O:o≠c:=by obtain ⟨m,x,b⟩:=e;exact Bk.ne j b.blk dC
 obtain ⟨y,z,l,E⟩:=hqq4 d e j s;clear d e j s;go_enter func133,ntmps133;go_wp2_with fail;refine (vU B c own L f k w z.out E.out K S).mono ?_;rintro n w1 ⟨rfl,own',v,i,t,g⟩;have q:=g.bk y.out (fun a=>by rcases a with a | a;exact N a;omega);have u:=g.bk l.out (fun a=>by rcases a with a | a;exact O a;omega);have r:Grew w w1 own own':=⟨i,t,g.mono fun V _ a=>by rcases a with a | a;left;rw [a,Q];right;exact a⟩;have D:=lhd r;have p:WalkE w1 B own' gk (aD L f) T:=⟨c,o,q,by rw [i _ M];exact I,v,u,by rw [i _ l.out.lt];exact J⟩;have A:=lhd p;clear v i t g q u r p H;go_wp2_with fail;go_ret;exact ⟨rfl,own',A.out,D.out⟩
def jE (B gk:Nat) (own:Nat->Nat) (L T:List Nat) (a q b:Nat) (w:World) (m:WalkE w B own gk L T) (j:L[a]?=some q) (A:b < 257) (o:∀H∈L,H < 257) (z:L.length<=128):
 Calls prog 132 #[gk,(a:Int),(b:Int)] w fun c w'=>c=.returned (.tuple #[])/\∃own',WalkE w' B own' gk (L.set a b) T/\Grew w w' own own':=by
 have d:=(zAc.1 j).1;have I:=cQ L d;have p:aM (aD L a) a b=L.set a b:=by
  apply List.ext_getElem?;intro e;rw [iB _ _ oM,zBm];by_cases f:e < a
  · rw [zBx f,zBw oM,dM _ d,zBx f]
  · rw [zBw f];by_cases g:e=a
    · subst g;rw [zBx rfl,zBx rfl,zBx d]
    · rw [zBw g,zBw (fun c=>g c.symm),dM _ d,zBw oM,show e - 1+1=e by omega]
 obtain ⟨t,x,y⟩:=hqq3 m j p;clear m j p;go_enter func132,ntmps132;go_wp2_with fail;refine (fS B gk own L T a q w t.out x.out o z).mono ?_;rintro c w1 ⟨rfl,D,n,k⟩;obtain ⟨u,r⟩:=hqq2 n k;clear n k;go_wp2_with fail;refine (eC B gk D (aD L a) T a b w1 u.out A oM (nI o) oM).mono ?_;rintro c J ⟨rfl,E,i,l⟩;rw [y.out] at i;obtain ⟨v,s⟩:=hqq2 i (r.out.trans l);clear i l;go_wp2_with fail;go_end0;exact ⟨rfl,E,v.out,s.out⟩
def fK (B gk:Nat) (own:Nat->Nat) (L T:List Nat) (g:Nat) (w:World) (b:WalkE w B own gk L T) (U:g < 257) (M:T.length<=1000):
 Calls prog 134 #[gk,(g:Int),.int .i64 1] w fun d w'=>d=.returned (.tuple #[])/\WalkE w' B own gk L (T++ [g])/\Grew w w' own own:=by
 have N:=b.bnd;obtain ⟨m,e,f,K,n,l,o⟩:=b;have Y:w.cell? ⟨gk,1,none⟩=some (.pointer (some e)):=(f.cell 1).trans rfl;have Z:=f.lt;have O:gk≠e:=Bk.ne f l dC;obtain ⟨v,x,i⟩:=hqq3 f n l;clear f n l;go_enter func134,ntmps134;go_wp2_with fail;refine (qM e T g w i.out U M).mono ?_;rintro d w1 ⟨rfl,t,c⟩;have q:=c.bk v.out O;have u:WaveE w1 B own m L:=by
  obtain ⟨A,X,b⟩:=x.out;refine ⟨A,X,c.bk b.blk (Bk.ne b.blk i.out dC),b.base,fun V Q=>?_,fun a j=>⟨(b.bnd a j).1,zAl (b.bnd a j).2 c.size⟩⟩;obtain ⟨G,H,I,J⟩:=b.rows V Q;exact ⟨G,aA H fun a D _ k=>c.bk k (Bk.ne k i.out dC),I,fun W S=>(J W S).keep c fun a a0 D s k _ d=>by
   have E:a=e:=d;subst E;rw [(aK k i.out).1] at s;exact absurd s dC⟩
 have p:WalkE w1 B own gk L (T++ [g]):=⟨m,e,q,K,u,t,o⟩;have r:Grew w w1 own own:=Grew.of_vb (B:=B) (c.mono fun a _ d=>by left;rw [show a=e from d,o]) fun a j=>(N a j).2;obtain ⟨y,z⟩:=hqq2 p r;clear t c q u p r;go_wp2_with fail;go_end0;exact ⟨rfl,y.out,z.out⟩
def kO (B gk:Nat) (own:Nat->Nat) (L T i:List Nat) (l:Nat) (w:World) (b:WalkE w B own gk L T) (r:T.Perm (l::i)) (X:l < 257) (Q:T.length<=1000):
 Calls prog 134 #[gk,(l:Int),.int .i64 (-1)] w fun d w'=>d=.returned (.tuple #[])/\WalkE w' B own gk L i/\Grew w w' own own:=by
 have S:=b.bnd;obtain ⟨n,e,f,O,o,m,p⟩:=b;have a1:w.cell? ⟨gk,1,none⟩=some (.pointer (some e)):=(f.cell 1).trans rfl;have a2:=f.lt;have U:gk≠e:=Bk.ne f m dC;obtain ⟨y,z,g,E⟩:=hqq4 f o m r;clear f o m r;go_enter func134,ntmps134;go_wp2_with fail;refine (aAM e T i l w E.out g.out X Q).mono ?_;rintro d w1 ⟨rfl,v,c⟩;have s:=c.bk y.out U;have x:WaveE w1 B own n L:=by
  obtain ⟨H,a0,b⟩:=z.out;refine ⟨H,a0,c.bk b.blk (Bk.ne b.blk g.out dC),b.base,fun Y V=>?_,fun a j=>⟨(b.bnd a j).1,zAl (b.bnd a j).2 c.size⟩⟩;obtain ⟨G,K,M,N⟩:=b.rows Y V;exact ⟨G,aA K fun a I _ k=>c.bk k (Bk.ne k g.out dC),M,fun Z W=>(N Z W).keep c fun a a3 I u k _ d=>by
   have J:a=e:=d;subst J;rw [(aK k g.out).1] at u;exact absurd u dC⟩
 have q:WalkE w1 B own gk L i:=⟨n,e,s,O,x,v,p⟩;have t:Grew w w1 own own:=Grew.of_vb (B:=B) (c.mono fun a _ d=>by left;rw [show a=e from d,p]) fun a j=>(S a j).2;obtain ⟨A,D⟩:=hqq2 q t;clear v c s x q t;go_wp2_with fail;go_end0;exact ⟨rfl,A.out,D.out⟩
structure PermX (w:World) (F:Nat->Prop) (gp ga:Nat) (vl vo vt vf:Value) (R P:Nat) (ks:List Nat) (C:List (Nat×Nat)) (tk:List Bool) (fr:List Nat):Prop where
 at_:PermAt w 0 gp ga vl vo vt vf R P ks C tk fr
 fp:F gp
 fa:F ga
 fl:OwnF F vl
 fo:OwnF F vo
 ft:OwnF F vt
 ff:OwnF F vf
 nd:ks.Nodup
 tkl:tk.length=C.length
 tkk:∀k,tk[k]?=some true↔k∈ks
 frn:fr.Nodup
 frk:∀k,k∈fr↔tk[k]?=some false
 sz:C.length<=1000
def PermE (w:World) (F:Nat->Prop) (gp R P:Nat) (pr:List (Nat×Nat)):Prop:=
 (∃ga vl vo vt vf ks C tk fr,PermX w F gp ga vl vo vt vf R P ks C tk fr/\pr=ks.map fun a=>(aB C a,aG C a))/\pr.Pairwise (fun c d=>c.1 < d.1)/\∀b∈pr,b.1 < R/\b.2 < P
def PermAt.vis2 {w w':World} {B gp ga:Nat} {vl vo vt vf:Value} {R P:Nat} {ks:List Nat} {C:List (Nat×Nat)} {tk:List Bool} {fr:List Nat} (a:PermAt w B gp ga vl vo vt vf R P ks C tk fr) (b:Vis w w'):PermAt w' B gp ga vl vo vt vf R P ks C tk fr:=
 ⟨b.bk a.blk dC dC,b.own a.lrow dC dC,b.own a.orow dC dC,b.bk a.ar dC dC,b.own a.trow dC dC,b.own a.frow dC dC,a.apart,a.lt,a.lo⟩
section
variable {w w' : World} {F G : Nat -> Prop} {gp R P : Nat} {pr : List (Nat × Nat)}
def PermE.vis (c:PermE w F gp R P pr) (f:Vis w w'):PermE w' F gp R P pr:=by
 obtain ⟨⟨ga,vl,vo,vt,vf,ks,C,tk,fr,a,b⟩,d,e⟩:=c;exact ⟨⟨ga,vl,vo,vt,vf,ks,C,tk,fr,⟨a.at_.vis2 f,a.fp,a.fa,a.fl,a.fo,a.ft,a.ff,a.nd,a.tkl,a.tkk,a.frn,a.frk,a.sz⟩,b⟩,d,e⟩
def PermE.mono (g:PermE w F gp R P pr) (e:∀a,a < w.heap.size->F a->G a):PermE w G gp R P pr:=by
 obtain ⟨⟨ga,vl,vo,vt,vf,ks,C,tk,fr,b,f⟩,i,j⟩:=g;have d:=b.at_;exact ⟨⟨ga,vl,vo,vt,vf,ks,C,tk,fr,⟨d,e _ d.blk.lt b.fp,e _ d.ar.lt b.fa,fun a c=>e a (d.lrow.lt a c).2 (b.fl a c),fun a c=>e a (d.orow.lt a c).2 (b.fo a c),fun a c=>e a (d.trow.lt a c).2 (b.ft a c),fun a c=>e a (d.frow.lt a c).2 (b.ff a c),b.nd,b.tkl,b.tkk,b.frn,b.frk,b.sz⟩,f⟩,i,j⟩
def PermE.keep (k:PermE w F gp R P pr) (g:Keep G w w') (f:∀b,F b->¬G b):PermE w' F gp R P pr:=by
 obtain ⟨⟨ga,vl,vo,vt,vf,ks,C,tk,fr,a,j⟩,l,m⟩:=k;have c:=a.at_;refine ⟨⟨ga,vl,vo,vt,vf,ks,C,tk,fr,⟨⟨g.bk c.blk (f _ a.fp),aA c.lrow fun b i d e=>g.bk e (f _ (a.fl b d)),aA c.orow fun b i d e=>g.bk e (f _ (a.fo b d)),g.bk c.ar (f _ a.fa),aA c.trow fun b i d e=>g.bk e (f _ (a.ft b d)),aA c.frow fun b i d e=>g.bk e (f _ (a.ff b d)),c.apart,c.lt,c.lo⟩,a.fp,a.fa,a.fl,a.fo,a.ft,a.ff,a.nd,a.tkl,a.tkk,a.frn,a.frk,a.sz⟩,j⟩,l,m⟩
def PermE.below (b:PermE w F gp R P pr) (c:Below w.heap.size w w'):PermE w' F gp R P pr:=b.keep (G:=fun _=>False) (Keep.of_below c) fun _ _ a=>a
end
def PermAt.set_rows {w:World} {B gp ga:Nat} {vl vo vt vf:Value} {R P:Nat} {ks:List Nat} {C:List (Nat×Nat)} {tk:List Bool} {fr:List Nat} (a:PermAt w B gp ga vl vo vt vf R P ks C tk fr) (e:Nat):PermAt (w.setCell ⟨gp,3,none⟩ (.int .i64 (e:Int))) B gp ga vl vo vt vf e P ks C tk fr:=by
 have d:Keep (fun c=>c=gp) w (w.setCell ⟨gp,3,none⟩ (.int .i64 (e:Int))):=Keep.setCell (F:=fun c=>c=gp) (Keep.refl _ _) (p:=⟨gp,3,none⟩) (.inl rfl) _;exact ⟨a.blk.set 3 _,aA a.lrow fun c f _ b=>d.bk b (Bk.ne b a.blk dC),aA a.orow fun c f _ b=>d.bk b (Bk.ne b a.blk dC),d.bk a.ar (Bk.ne a.ar a.blk dC),aA a.trow fun c f _ b=>d.bk b (Bk.ne b a.blk dC),aA a.frow fun c f _ b=>d.bk b (Bk.ne b a.blk dC),a.apart,a.lt,a.lo⟩
def PermAt.set_places {w:World} {B gp ga:Nat} {vl vo vt vf:Value} {R P:Nat} {ks:List Nat} {C:List (Nat×Nat)} {tk:List Bool} {fr:List Nat} (a:PermAt w B gp ga vl vo vt vf R P ks C tk fr) (e:Nat):PermAt (w.setCell ⟨gp,4,none⟩ (.int .i64 (e:Int))) B gp ga vl vo vt vf R e ks C tk fr:=by
 have d:Keep (fun c=>c=gp) w (w.setCell ⟨gp,4,none⟩ (.int .i64 (e:Int))):=Keep.setCell (F:=fun c=>c=gp) (Keep.refl _ _) (p:=⟨gp,4,none⟩) (.inl rfl) _;exact ⟨a.blk.set 4 _,aA a.lrow fun c f _ b=>d.bk b (Bk.ne b a.blk dC),aA a.orow fun c f _ b=>d.bk b (Bk.ne b a.blk dC),d.bk a.ar (Bk.ne a.ar a.blk dC),aA a.trow fun c f _ b=>d.bk b (Bk.ne b a.blk dC),aA a.frow fun c f _ b=>d.bk b (Bk.ne b a.blk dC),a.apart,a.lt,a.lo⟩
def aAf {ks:List Nat} {C b:List (Nat×Nat)} {f:Nat×Nat->Nat×Nat} (c:∀a,a∈ks->(aB b a,aG b a)=f (aB C a,aG C a)):(ks.map fun a=>(aB b a,aG b a))=(ks.map fun a=>(aB C a,aG C a)).map f:=by
 rw [zCg];exact List.map_congr_left fun a d=>c a d
def aI6 {a b c:Nat} (d:a < b):inR a c < inR b c:=by
 unfold inR;split <;> split <;> omega
def gA:∀ {n:Nat} {ks:List Nat},ks.Nodup->(∀a∈ks,a < n)->ks.length<=n
 | 0,ks,_,hl=>by
   cases ks with
   | nil=>exact zAs _
   | cons a ks=>exact absurd (hl a (by simp)) oM
 | n+1,ks,h,hl=>by
   have c:=gA (n:=n) (h.erase n) fun a e=>by have d:=(h.mem_erase_iff).1 e;have:=hl a d.2;omega
   by_cases b:n∈ks;have:=List.length_erase_of_mem b;omega;rw [List.erase_of_not_mem b] at c;omega
def xT (F:Nat->Prop) (gp R P b:Nat) (pr:List (Nat×Nat)) (w:World) (X:PermE w F gp R P pr) (ae:b<=R) (ab:R<=100000) (aa:P<=100000):
 Calls prog 144 #[gp,(b:Int)] w fun g w'=>g=.returned (.int .i64 0)/\PermE w' F gp (R+1) P (pr.map fun d=>(inR d.1 b,d.2))/\Keep F w w':=by
 obtain ⟨⟨ga,vl,vo,vt,vf,ks,C,tk,fr,i,rfl⟩,K,A⟩:=X;have l:=i.at_;have W:w.cell? ⟨gp,3,none⟩=some (.int .i64 (R:Int)):=(l.blk.cell 3).trans rfl;have a5:=l.blk.frozen 3;have Z:=l.blk.lt;have ah:¬((b:Int) > (R:Int)):=oM;have ag:¬R < b:=oM;have af:decide ((b:Int) < 0)=false:=by simp
 have a4:wrap64 ((R:Int)+1)=((R+1:Nat):Int):=by rw [dH oM oM];rfl
 obtain ⟨a,V,o⟩:=hqq3 i K A;clear i l K A;go_enter func144,ntmps144;go_wp2_with fail;go_quiet (fail)
 rename_i nq
 have a2:∀N,((w.alloc (.cells #[(b:Int)] 3)).drewN N).cell? ⟨gp,3,none⟩=some (.int .i64 (R:Int)):=fun N=>(World.cell?_alloc_lt w _ ⟨gp,3,none⟩ Z).trans W;have ad:∀(r:Fn) (first q:Array Value) (w:World),(Instr.makeFunc r first q).run prog w=.ok (.func r first q) w:=fun _ _ _ _=>rfl;go_wp2_with fail;have z:=a.out.at_.below (bR.alloc nL (.cells #[(b:Int)] 3));have v:PermAt ((w.alloc (.cells #[(b:Int)] 3)).drewN nq) 0 gp ga vl vo vt vf R P ks C tk fr:=z.below (below_drewN bR _);have x:=v.set_rows (R+1);have E:Bk ((w.alloc (.cells #[(b:Int)] 3)).drewN nq) w.heap.size 3 #[(b:Int)]:=Bk.new w _ _;have H:=E.far (p:=⟨gp,3,none⟩) (fun g=>by have a3:w.heap.size=gp:=g;omega) (.int .i64 ((R+1:Nat):Int));have M:∀e,vl.ownBlock=some e->e≠w.heap.size:=fun e m g=>by have:=(a.out.at_.lrow.lt e m).2;omega
 have t:∀c,c∈ks->aB C c<=1000000000000/\aG C c<=1000000000000:=fun c a0=>by have:=o.out (aB C c,aG C c) (zAy.2 ⟨c,a0,rfl⟩);have a6:aB C c < R:=this.1;have a7:aG C c < P:=this.2;omega
 have ac:=gA a.out.nd a.out.at_.lt;refine (yB 0 gp ga w.heap.size b vl vo vt vf (R+1) P ks C tk fr _ x a.out.nd (by have:=a.out.sz;omega) H M t).mono ?_;rintro g O ⟨rfl,I,Q,n,D,y⟩;have J:Keep F w O:=(Keep.setCell (F:=F) (((Keep.refl _ _).alloc _).drewN _) (p:=⟨gp,3,none⟩) (.inl a.out.fp) _).trans (I.mono fun e _ m=>a.out.fl e m);have u:PermE O F gp (R+1) P ((ks.map fun c=>(aB C c,aG C c)).map fun d=>(inR d.1 b,d.2)):=by
  refine ⟨⟨ga,vl,vo,vt,vf,ks,Q,tk,fr,⟨y,a.out.fp,a.out.fa,a.out.fl,a.out.fo,a.out.ft,a.out.ff,a.out.nd,by rw [n];exact a.out.tkl,a.out.tkk,a.out.frn,a.out.frk,by rw [n];exact a.out.sz⟩,(aAf (f:=fun d=>(inR d.1 b,d.2)) D).symm⟩,?_,fun d i=>?_⟩;exact List.pairwise_map.2 (V.out.imp fun {k e} Y=>aI6 Y)
  · obtain ⟨j,a1,rfl⟩:=zAy.1 i;have:=o.out j a1;have s:∀k,inR k b<=k+1:=fun k=>by unfold inR;split <;> omega
    have a9:=s j.1;have a8:=s j.2;constructor;show inR j.1 b < _;omega;show j.2 < _;omega
 obtain ⟨S,U⟩:=hqq2 u J;clear J u y D I n t M H E x v z;go_wp2_with fail;go_ret;exact ⟨rfl,S.out,U.out⟩
def xV (F:Nat->Prop) (gp R P b:Nat) (pr:List (Nat×Nat)) (w:World) (X:PermE w F gp R P pr) (ae:b<=P) (ab:R<=100000) (aa:P<=100000):
 Calls prog 145 #[gp,(b:Int)] w fun g w'=>g=.returned (.int .i64 0)/\PermE w' F gp R (P+1) (pr.map fun d=>(d.1,inR d.2 b))/\Keep F w w':=by
 obtain ⟨⟨ga,vl,vo,vt,vf,ks,C,tk,fr,i,rfl⟩,K,A⟩:=X;have l:=i.at_;have W:w.cell? ⟨gp,4,none⟩=some (.int .i64 (P:Int)):=(l.blk.cell 4).trans rfl;have a5:=l.blk.frozen 4;have Z:=l.blk.lt;have ah:¬((b:Int) > (P:Int)):=oM;have ag:¬P < b:=oM;have af:decide ((b:Int) < 0)=false:=by simp
 have a4:wrap64 ((P:Int)+1)=((P+1:Nat):Int):=by rw [dH oM oM];rfl
 obtain ⟨a,V,o⟩:=hqq3 i K A;clear i l K A;go_enter func145,ntmps145;go_wp2_with fail;go_quiet (fail)
 rename_i nq
 have a2:∀N,((w.alloc (.cells #[(b:Int)] 3)).drewN N).cell? ⟨gp,4,none⟩=some (.int .i64 (P:Int)):=fun N=>(World.cell?_alloc_lt w _ ⟨gp,4,none⟩ Z).trans W;have ad:∀(r:Fn) (first q:Array Value) (w:World),(Instr.makeFunc r first q).run prog w=.ok (.func r first q) w:=fun _ _ _ _=>rfl;go_wp2_with fail;have z:=a.out.at_.below (bR.alloc nL (.cells #[(b:Int)] 3));have v:PermAt ((w.alloc (.cells #[(b:Int)] 3)).drewN nq) 0 gp ga vl vo vt vf R P ks C tk fr:=z.below (below_drewN bR _);have x:=v.set_places (P+1);have E:Bk ((w.alloc (.cells #[(b:Int)] 3)).drewN nq) w.heap.size 3 #[(b:Int)]:=Bk.new w _ _;have H:=E.far (p:=⟨gp,4,none⟩) (fun g=>by have a3:w.heap.size=gp:=g;omega) (.int .i64 ((P+1:Nat):Int));have M:∀e,vl.ownBlock=some e->e≠w.heap.size:=fun e m g=>by have:=(a.out.at_.lrow.lt e m).2;omega
 have t:∀c,c∈ks->aB C c<=1000000000000/\aG C c<=1000000000000:=fun c a0=>by have:=o.out (aB C c,aG C c) (zAy.2 ⟨c,a0,rfl⟩);have a6:aB C c < R:=this.1;have a7:aG C c < P:=this.2;omega
 have ac:=gA a.out.nd a.out.at_.lt;refine (yC 0 gp ga w.heap.size b vl vo vt vf R (P+1) ks C tk fr _ x a.out.nd (by have:=a.out.sz;omega) H M t).mono ?_;rintro g O ⟨rfl,I,Q,n,D,y⟩;have J:Keep F w O:=(Keep.setCell (F:=F) (((Keep.refl _ _).alloc _).drewN _) (p:=⟨gp,4,none⟩) (.inl a.out.fp) _).trans (I.mono fun e _ m=>a.out.fl e m);have u:PermE O F gp R (P+1) ((ks.map fun c=>(aB C c,aG C c)).map fun d=>(d.1,inR d.2 b)):=by
  refine ⟨⟨ga,vl,vo,vt,vf,ks,Q,tk,fr,⟨y,a.out.fp,a.out.fa,a.out.fl,a.out.fo,a.out.ft,a.out.ff,a.out.nd,by rw [n];exact a.out.tkl,a.out.tkk,a.out.frn,a.out.frk,by rw [n];exact a.out.sz⟩,(aAf (f:=fun d=>(d.1,inR d.2 b)) D).symm⟩,?_,fun d i=>?_⟩;exact List.pairwise_map.2 (V.out.imp fun {k e} Y=>Y)
  · obtain ⟨j,a1,rfl⟩:=zAy.1 i;have:=o.out j a1;have s:∀k,inR k b<=k+1:=fun k=>by unfold inR;split <;> omega
    have a9:=s j.1;have a8:=s j.2;constructor;show j.1 < _;omega;show inR j.2 b < _;omega
 obtain ⟨S,U⟩:=hqq2 u J;clear J u y D I n t M H E x v z;go_wp2_with fail;go_ret;exact ⟨rfl,S.out,U.out⟩
end
section
open Go.RowKit Go.Shelf
def nQ:∀ {l m:List Nat},l.Nodup->(∀a∈l,a∈m)->l.length<=m.length
 | [],m,_,_=>zAp _
 | a::l,m,hn,hs=>by
   obtain ⟨f,g⟩:=List.nodup_cons.1 hn;have b:=hs a (by simp);have:=nQ (l:=l) (m:=m.erase a) g fun d c=>by have i:d≠a:=fun e=>f (by rw [<-e];exact c);exact (List.mem_erase_of_ne i).2 (hs d (by simp [c]))
   have j:=List.length_erase_of_mem b;have k:=List.length_pos_of_mem b;rw [zCf];omega
def aDq {a:List Nat} {f:Nat->Nat} (k:a.Pairwise (fun g i=>f g < f i)) (e:Nat) (p:∀b∈a,f b≠f e):(aM a (a.countP fun b=>decide (f b < f e)) e).Pairwise (fun g i=>f g < f i):=by
 unfold aM;have m:=fun (d b:Nat) (j:a[d]?=some b)=>aDE k (f e) d b j;obtain ⟨c,o⟩:∃c,(a.countP fun b=>decide (f b < f e))=c:=⟨_,rfl⟩;rw [o] at m⊢;rw [List.pairwise_append];refine ⟨k.sublist (List.take_sublist c a),List.pairwise_cons.2 ⟨fun b l=>?_,k.sublist (List.drop_sublist c a)⟩,fun b l r n=>?_⟩;obtain ⟨d,j,rfl⟩:=List.getElem_of_mem l;rw [zAw] at j;rw [List.getElem_drop];have s:=m (c+d) a[c+d] (zAa oM);have t:=p a[c+d] (zBj oM);omega;have q:f b < f e:=(by obtain ⟨d,j,rfl⟩:=List.getElem_of_mem l;rw [zAj] at j;rw [List.getElem_take];exact (m d a[d] (zAa oM)).2 oM);rcases List.mem_cons.1 n with rfl | n;exact q;have:=List.pairwise_append.1 (show (a.take c++a.drop c).Pairwise (fun g i=>f g < f i) by rw [zAu];exact k);exact this.2.2 b l r n
def aB6 (tk:List Bool) (a:Nat) (b:Bool):(tk++ [true])[a]?=some b↔tk[a]?=some b∨(a=tk.length/\b=true):=by
 by_cases e:a < tk.length;rw [zAn e];constructor;exact .inl;rintro (d |⟨d,_⟩);exact d;omega
 · rw [zAo oM,zBg (show tk.length<=a by omega)];by_cases c:a=tk.length
   · subst c;cases b <;> simp
   · rw [zBg (by simp;omega)];simp [c]
def AF (ga:Nat) (vt vf:Value) (a:Nat):Prop:=a=ga∨vt.ownBlock=some a∨vf.ownBlock=some a
section
variable {w : World} {F : Nat -> Prop} {gp ga : Nat} {vl vo vt vf : Value} {R P : Nat} {ks : List Nat} {C : List (Nat × Nat)} {tk : List Bool} {fr : List Nat}
def PermX.arena (k:PermX w F gp ga vl vo vt vf R P ks C tk fr):ArenaE w (AF ga vt vf) ga tk fr:=by
 have a:=k.at_;obtain ⟨d,g,i,_⟩:=aP a.trow;obtain ⟨c,f,j,_⟩:=aP a.frow;subst i j;exact ⟨.inl rfl,d,g,c,f,a.ar,bV a.trow (zAp _),bV a.frow (zAp _),fun e b=>.inr (.inl b),fun e b=>.inr (.inr b)⟩
def PermX.af (c:PermX w F gp ga vl vo vt vf R P ks C tk fr) {b:Nat} (a:AF ga vt vf b):F b:=by
 rcases a with rfl | a | a;exact c.fa;exact c.ft b a;exact c.ff b a
def PermX.af_lt (c:PermX w F gp ga vl vo vt vf R P ks C tk fr) {b:Nat} (a:AF ga vt vf b):b < w.heap.size:=by
 rcases a with rfl | a | a;exact c.at_.ar.lt;exact (c.at_.trow.lt b a).2;exact (c.at_.frow.lt b a).2
def PermX.gp_af (e:PermX w F gp ga vl vo vt vf R P ks C tk fr):¬AF ga vt vf gp:=by
 have a:=e.at_;rintro (b | b | b);exact Bk.ne a.blk a.ar dC b;obtain ⟨d,c⟩:=eF a.trow b;exact absurd (aK c a.blk).1 dC;obtain ⟨d,c⟩:=eF a.frow b;exact absurd (aK c a.blk).1 dC
def PermX.pair_af (i:PermX w F gp ga vl vo vt vf R P ks C tk fr) {e:Nat} {f:Array Value} (c:Bk w e 106 f):¬AF ga vt vf e:=by
 have b:=i.at_;rintro (a | a | a);exact Bk.ne c b.ar dC a;obtain ⟨g,d⟩:=eF b.trow a;exact absurd (aK d c).1 dC;obtain ⟨g,d⟩:=eF b.frow a;exact absurd (aK d c).1 dC
def PermX.ord_af (g:PermX w F gp ga vl vo vt vf R P ks C tk fr) {e:Nat} (c:vo.ownBlock=some e):¬AF ga vt vf e:=by
 have b:=g.at_;obtain ⟨j,f⟩:=eF b.orow c;rintro (a | a | a);exact Bk.ne f b.ar dC a;obtain ⟨k,i⟩:=eF b.trow a;exact absurd (aK f i).1 dC
 · rcases b.apart with d | d
   · rw [d] at c;cases c
   exact d (c.trans a.symm)
end
def aCj (ga b:Nat) (vt vf:Value) (ks:List Nat) (w:World) (d:Ending) (w':World):Prop:=
 ∃(c:Nat) (tk:List Bool) (fr:List Nat),d=.returned (.tuple #[(c:Int),.int .i64 0])/\c∉ks/\ArenaE w' (Gw (AF ga vt vf) w.heap.size) ga tk fr/\((c < b/\tk.length=b)∨(c=b/\tk.length=b+1/\b<=ks.length))/\(∀a,tk[a]?=some true↔a∈ks∨a=c)/\fr.Nodup/\(∀a,a∈fr↔tk[a]?=some false)/\Keep (AF ga vt vf) w w'
def aAS (F:Nat->Prop) (gp ga R P:Nat) (vl vo vt vf:Value) (ks:List Nat) (C:List (Nat×Nat)) (tk:List Bool) (fr:List Nat) (w:World) (b:PermX w F gp ga vl vo vt vf R P ks C tk fr):
 Calls prog 61 #[ga] w (aCj ga C.length vt vf ks w):=by
 have W:=b.arena;have i:=b.at_;have ad:=b.sz;have E:∀a∈fr,a < tk.length:=fun a g=>(zAc.1 ((b.frk a).1 g)).1;rcases List.eq_nil_or_concat fr with a1 |⟨n,e,a2⟩
 · subst a1;obtain ⟨N,Q,k,_⟩:=aP i.trow;obtain ⟨z,A,s,_⟩:=aP i.frow;have D:=i.ar;have y:=i.trow;rw [k,s] at D;rw [k] at y;have t:=qN 0 ga N Q z A tk.length tk w D y (zAp _) (by have:=b.tkl;omega);refine t.mono ?_;rintro q w' ⟨rfl,o,ae,Z,M,a4⟩;have a8:tk.length∉ks:=fun v=>by have:=(b.tkk _).2 v;rw [zBg nL] at this;cases this
   obtain ⟨O,S,r,_⟩:=aP M;have a6:Keep (AF ga vt vf) w w':=o.mono fun j _ c=>by rcases c with c | c;exact .inl c;exact .inr (.inl (by rw [k];exact c))
   have H:w'.ownsRow 0 3 1 vf 0 []:=by
    have:=aA (w':=w') (bV i.frow (zAp _)) fun j aa _ d=>o.bk d fun c=>by rcases c with c | c;exact Bk.ne d i.ar dC c;obtain ⟨ab,a0⟩:=eF y c;exact absurd (aK d a0).1 dC
    exact this
   rw [s] at H;have p:(tk++ [true]).length=tk.length+1:=(by simp);have x:=b.tkl;have Y:C.length<=ks.length:=by
    have V:=nQ (l:=List.range C.length) (m:=ks) List.nodup_range fun a g=>by
        rw [zCi,<-x] at g;cases d:tk[a] with
        | true=>exact (b.tkk a).1 (by rw [zAa g,d])
        | false=>exact absurd ((b.frk a).2 (by rw [zAa g,d])) (by simp)
    simpa using V
   refine ⟨tk.length,tk++ [true], [],rfl,a8,⟨.inl (.inl rfl),O,S,z,A,?_,?_,H,?_,?_⟩,.inr ⟨x,by rw [p,x],Y⟩,fun a=>?_,List.nodup_nil,fun a=>?_,a6⟩;rw [p,<-r];exact Z;rw [p,<-r];exact M;intro j d;rw [p,<-r] at d;rcases a4 with c |⟨ac,c,U⟩;rw [c] at d;exact .inl (.inr (.inl (by rw [k];exact d)));rw [c] at d;injection d with d;subst d;exact .inr U;intro j d;exact .inl (.inr (.inr (by rw [s];exact d)))
   · rw [<-b.tkk a,aB6];simp
   · rw [b.frk a,aB6];simp
 · have a3:fr=n++ [e]:=(by simpa using a2);subst a3;have o:=(b.frk e).1 (by simp);have u:=E e (by simp);have J:=b.frn;have a7:(n++ [e]).length<=tk.length:=gA J E;have t:=sY (AF ga vt vf) ga e tk n w W u (by have:=b.tkl;omega) (by simp at a7;omega);refine t.mono ?_;rintro q w' ⟨rfl,X,a5⟩;have a9:e∉ks:=fun v=>by have:=(b.tkk e).2 v;rw [o] at this;cases this
   have K:=List.nodup_append.1 J;have I:∀a,(tk.set e true)[a]?=if a=e then some true else tk[a]?:=fun a=>by
    rw [zBm];by_cases f:e=a
    · subst f;simp [u]
    · rw [zBw f,zBw (fun q=>f q.symm)]
   refine ⟨e,tk.set e true,n,rfl,a9,X.mono fun j _ c=>.inl c,.inl ⟨by rw [<-b.tkl];exact u,by rw [zAt,b.tkl]⟩,fun a=>?_,K.1,fun a=>?_,a5⟩
   · rw [I,<-b.tkk a];by_cases f:a=e
     · simp [f]
     · simp [f]
   · rw [I];by_cases f:a=e
     · subst f;rw [zBx rfl];constructor;intro g;exact absurd rfl (K.2.2 a g a (by simp))
       · intro g;cases g
     · rw [zBw f,<-b.frk a];simp [f]
def PermX.stow {w w':World} {F:Nat->Prop} {gp ga R P k row pos i n0:Nat} {vl' vo':Value} {ks:List Nat} {C C9:List (Nat×Nat)} {tk:List Bool} {fr:List Nat} {AFF:Nat->Prop}
 (W:∀a∈ks,a < C.length) (Y:ks.Nodup) (x:k∉ks) (u:k < C9.length) (I:C.length<=C9.length) (a3:C9.length<=1000) (a5:tk.length=C9.length)
 (S:∀a∈ks,(aB C9 a,aG C9 a)=(aB C a,aG C a)) (a1:ks.Pairwise (fun d b=>aB C d < aB C b)) (t:i=ks.countP fun a=>decide (aB C a < row)) (Z:∀a∈ks,aB C a≠row)
 (m:Bk w' gp 104 #[ga,vl',vo',.int .i64 (R:Int),(P:Int)])
 (X:w'.ownsRow 0 106 2 vl' C9.length (bJ (C9.set k (row,pos)))) (a0:w'.ownsRow 0 3 1 vo' (ks.length+1) ((aM ks i k).map sv))
 (l:ArenaE w' AFF ga tk fr) (q:∀b,AFF b->F b) (Q:F ga) (U:F gp) (a7:OwnF F vl') (a8:OwnF F vo') (K:∀b,vo'.ownBlock=some b->¬AFF b)
 (a4:∀a,tk[a]?=some true↔a∈ks∨a=k) (O:fr.Nodup) (N:∀a,a∈fr↔tk[a]?=some false):
 ∃vt vf,PermX w' F gp ga vl' vo' vt vf R P (aM ks i k) (C9.set k (row,pos)) tk fr/\((aM ks i k).map fun a=>(aB (C9.set k (row,pos)) a,aG (C9.set k (row,pos)) a))=aM (ks.map fun a=>(aB C a,aG C a)) i (row,pos)/\(aM ks i k).Pairwise (fun d b=>aB (C9.set k (row,pos)) d < aB (C9.set k (row,pos)) b):=by
 obtain ⟨ad,aa,ac,a9,ab,A,D,E,H,p⟩:=l;have V:i<=ks.length:=by rw [t];exact zBh
 have r:∀a,(aB (C9.set k (row,pos)) a,aG (C9.set k (row,pos)) a)=if a=k then (row,pos) else (aB C9 a,aG C9 a):=fun a=>by
  unfold aB aG;rw [zAb,zBm];by_cases j:k=a;subst j;rw [zBx rfl,zBx rfl,zBx u];rfl
  · rw [zBw j,zBw (fun e=>j e.symm),zAb]
 have s:∀a∈ks,(aB (C9.set k (row,pos)) a,aG (C9.set k (row,pos)) a)=(aB C a,aG C a):=fun a c=>by rw [r,zBw (fun e=>x (by rw [<-e];exact c)),S a c]
 have o:=r k;rw [zBx rfl] at o;have y:(aM ks i k).Perm (k::ks):=eM _ _ _;have v:∀a,a∈aM ks i k↔a=k∨a∈ks:=fun a=>by rw [y.mem_iff,List.mem_cons]
 refine ⟨_,_,⟨⟨m,by rw [zAt];exact X,by rw [fG _ _ V];exact a0,A,D,E,?_,fun a c=>?_,⟨zAp _,zAp _⟩⟩,U,Q,a7,a8,fun b n=>q b (H b n),fun b n=>q b (p b n),y.nodup_iff.2 (List.nodup_cons.2 ⟨x,Y⟩),by rw [zAt];exact a5,fun a=>by rw [a4 a,v a];exact Or.comm,O,N,by rw [zAt];exact a3⟩,?_,?_⟩
 · cases a6:vo'.ownBlock with
   | none=>exact .inl rfl
   | some b=>exact .inr fun e=>K b a6 (p b e.symm)
 rw [zAt];rcases (v a).1 c with rfl | c;exact u;exact zAl (W a c) I;rw [mA,o];congr 1;exact List.map_congr_left fun a c=>s a c
 · have g:∀a∈ks,aB (C9.set k (row,pos)) a=aB C a:=fun a c=>(Prod.mk.inj (s a c)).1;have z:aB (C9.set k (row,pos)) k=row:=(Prod.mk.inj o).1;have a2:ks.Pairwise (fun d b=>aB (C9.set k (row,pos)) d < aB (C9.set k (row,pos)) b):=(by refine List.Pairwise.imp_of_mem (fun {d b} l m J=>?_) a1;rw [g d l,g b m];exact J);have:=aDq (f:=aB (C9.set k (row,pos))) a2 k fun a c=>by rw [g a c,z];exact Z a c
   have M:(ks.countP fun a=>decide (aB (C9.set k (row,pos)) a < aB (C9.set k (row,pos)) k))=i:=(by rw [t,z];refine List.countP_congr fun a c=>?_;rw [g a c]);rw [M] at this;exact this
def uK (w:World) (gp:Nat):Nat:=match w.cell? ⟨gp,1,none⟩ with
 | some (.slice _ a _)=>a
 | _=>0
structure AddL (F:Nat->Prop) (gp ga R P k:Nat) (vo:Value) (ks:List Nat) (C:List (Nat×Nat)) (tk:List Bool) (fr9:List Nat) (AFF:Nat->Prop) (n3:Nat) (w2 wr:World) (A9:Option Addr) (M c9:Nat) (C9:List (Nat×Nat)):Prop where
 blk:Bk wr gp 104 #[ga,.slice A9 M c9,vo,(R:Int),(P:Int)]
 own:wr.ownsRow 0 106 2 (.slice A9 M c9) M (bJ C9)
 len:C9.length=M
 lo:C.length<=M
 hi:M<=max C.length (k+1)
 get:∀x∈ks,(aB C9 x,aG C9 x)=(aB C x,aG C x)
 ord:wr.ownsRow 0 3 1 vo ks.length (ks.map sv)
 ar:ArenaE wr AFF ga tk fr9
 keep:Keep F w2 wr
 fl:OwnF (Gw F w2.heap.size) (.slice A9 M c9)
 k3:n3<=wr.heap.size
def aA1 (F:Nat->Prop) (gp R P row s:Nat) (pr:List (Nat×Nat)) (w:World) (cG:PermE w F gp R P pr) (cX:row < R) (cW:s < P) (bX:∀H∈pr,H.1≠row) (bV:∀H∈pr,H.2≠s) (bS:pr.length<=900):
 Calls prog 27 #[gp,(row:Int),(s:Int)] w fun d w'=>d=.returned (.int .i64 0)/\(∃ca,ca.Perm ((row,s)::pr)/\PermE w' (Gw F w.heap.size) gp R P ca)/\Keep F w w':=by
 obtain ⟨⟨ga,vl,vo,vt,vf,ks,C,tk,fr,v,rfl⟩,c3,bD⟩:=cG;obtain ⟨d3,cQ,d0,d1,d2⟩:=info_parts rQ;have U:=v.at_;have c2:=List.pairwise_map.1 c3;have b4:ks.Pairwise (fun U a=>aB C U < aB C a):=c2;have b2:∀c∈ks,aB C c≠row:=fun c x=>bX _ (zAy.2 ⟨c,x,rfl⟩);have bW:∀c∈ks,aG C c≠s:=fun c x=>bV _ (zAy.2 ⟨c,x,rfl⟩);have bE:∀c∈ks,aB C c < R/\aG C c < P:=fun c x=>bD _ (zAy.2 ⟨c,x,rfl⟩);have cR:ks.length<=900:=by simpa using bS
 obtain ⟨a1,aj⟩:∃a1,(ks.countP fun c=>decide (aB C c < row))=a1:=⟨_,rfl⟩;have bL:a1<=ks.length:=by rw [<-aj];exact zBh
 have bI:decide (∃c∈ks,aB C c=row)=false:=by rw [decide_eq_false_iff_not];rintro ⟨c,x,d⟩;exact b2 c x d
 have bK:iI (fun c=>decide (aG C c=s)) ks 0=-1:=jO (fun c x=>by simpa using bW c x) 0;have aN:=jH 0 gp ga vl vo vt vf R P ks C tk fr row w U b4 oM;rw [aj,bI] at aN;have aZ:=fun cw cM=>iF 0 gp ga vl vo vt vf R P ks C tk fr s cw cM oM;simp only [bK] at aZ;have cy:w.cell? ⟨gp,3,none⟩=some (.int .i64 (R:Int)):=(U.blk.cell 3).trans rfl;have cz:w.cell? ⟨gp,4,none⟩=some (.int .i64 (P:Int)):=(U.blk.cell 4).trans rfl;obtain ⟨N,b1⟩:=eqx ks.length;obtain ⟨S,aJ⟩:=eqx C.length;have dl:N<=900:=oM;have df:S<=1000:=by rw [<-aJ];exact v.sz
 obtain ⟨bp,aw,ct,cp,ch,ck,J,A⟩:=hqq8 aZ v b4 b2 bE aj b1 aJ;rw [b1] at bL;clear c2 bI bK aZ c3 bD bX bV b2 bW bE v U b4 aj bS cR b1 aJ;go_enter func27,ntmps27;go_wp2_with fail;refine aN.mono ?_;clear aN;rintro d w1 ⟨rfl,aR⟩;have ae:=aw.out.at_.below aR;obtain ⟨av,ax⟩:=hqq2 ae aR;clear ae aR cy cz;go_wp2_with fail;refine (bp.out w1 av.out).mono ?_;rintro d o ⟨rfl,aS⟩;have bC:=ax.out.trans (aS.mono ax.out.size);have be:PermX o F gp ga vl vo vt vf R P ks C tk fr:= { aw.out with at_:=av.out.below aS };have cx:o.cell? gp=some (.pointer (some ga)):=(be.at_.blk.cell 0).trans rfl;obtain ⟨l,bl⟩:=hqq2 be bC;clear be bC aS av ax bp aw;go_wp2_with fail;have aL:=aAS F gp ga R P vl vo vt vf ks C tk fr o l.out;unfold aCj at aL;refine aL.mono ?_;clear aL;rintro d t ⟨c,a9,a2,rfl,bU,bx,bF,c4,bH,bG,X⟩;have a5:=X.bk l.out.at_.blk l.out.gp_af;have an:=aA (w':=t) l.out.at_.lrow fun a e _ b=>X.bk b (l.out.pair_af b);have ao:=aA (w':=t) l.out.at_.orow fun a e b x=>X.bk x (l.out.ord_af b);obtain ⟨au,aD,c5,_⟩:=aP an;obtain ⟨aa,ad,M,_⟩:=aP ao;have b9:vl=.slice au S aD:=by rw [c5,A.out]
 have c7:vo=.slice aa N ad:=by rw [M,J.out]
 rw [A.out] at an;rw [J.out] at ao;have V:t.cell? ⟨gp,1,none⟩=some (.slice au S aD):=(a5.cell 1).trans (by rw [b9];rfl);have aH:=a5.frozen 1;have cO:=a5.lt;have dk:c<=S:=by have:=A.out;omega
 have bO:Keep F o t:=X.mono fun a _ g=>l.out.af g;obtain ⟨cl,br⟩:=hqq2 X bO;have bh:=lhd (bx.mono (G:=fun a=>Gw (AF ga vt vf) o.heap.size a/\a < t.heap.size) fun a b g=>⟨g,b⟩);obtain ⟨bm,bn,bt,bu,ay,d9,co,cu,cj⟩:=hqq9 bF a5 an ao b9 c7 bU c4 bH;have ci:=lhd bG;have bw:=(World.cell?_alloc_lt t (Obj.cells #[.int .i64 0,.int .i64 0] 106) ⟨gp,1,none⟩ cO).trans V;clear X bO bx bF a5 an ao c5 M b9 c7 bU c4 bH bG cx;have bN:AddL F gp ga R P c vo ks C a9 a2 (fun a=>Gw (AF ga vt vf) o.heap.size a/\a < t.heap.size) t.heap.size o t au S aD C:=
  ⟨by have:=bn.out;rwa [ay.out] at this,by have:=bt.out;rwa [ay.out] at this,A.out,by rw [A.out];exact zAs _,by have:=A.out;omega,fun H _=>rfl,by rw [J.out];exact bu.out,bh.out,br.out,fun a b=>.inl (l.out.fl a (by rw [ay.out];exact b)),zAs _⟩
 have bq:=lhd bN;clear bN V aH bw;go_wp2_with fail;go_loopw [] (fun wr=>∃E f y u,AddL F gp ga R P c vo ks C a9 a2 (fun a=>Gw (AF ga vt vf) o.heap.size a/\a < t.heap.size) t.heap.size o wr E f y u) (fun wr=>c+1 - uK wr gp)
 case atStart=>exact ⟨_,_,_,_,bq.out⟩
 case round=>
  obtain ⟨E,f,y,u,r⟩:=hrel;clear bq bn bt bu bh br cl;have V:wr.cell? ⟨gp,1,none⟩=some (.slice E f y):=(r.blk.cell 1).trans rfl;have aH:=r.blk.frozen 1;have cP:=r.blk.lt;have cI:=r.len;have cJ:=r.lo;have cK:=r.hi;rw [A.out] at cJ cK;by_cases bT:f<=c
  · have cS:decide (f<=c)=true:=zBz bT;have cT:(f:Int)<=(c:Int):=oM;obtain rfl:f=S:=oM;have bw:=(World.cell?_alloc_lt wr (Obj.cells #[.int .i64 0,.int .i64 0] 106) ⟨gp,1,none⟩ cP).trans V;have c0:uK wr gp=f:=(by unfold uK;rw [V]);obtain ⟨m,cr⟩:=hqq2 r c0;clear r c0;go_wp2_with (at_builtin;refine bM _ rfl (.tmp 72) (.tmp 74) _ rfl 0 106 d3 (.agg #[.int .i64 0,.int .i64 0]) 2 16 underlying81 cQ d0 d1 d2 rfl dC (.slice E f y) f _ rfl m.out.own rfl rfl (by simp [Value.oneCell']) (by unfold maxLen;omega) oM (zAp _) ?_;intro dt D b3 aW dp bB;have ag:=m.out.blk.grown aW (aT m.out.own m.out.blk dC);have db:D.cell? ⟨gp,1,none⟩=some (.slice E f y):=(ag.cell 1).trans rfl;have dd:=ag.frozen 1;obtain ⟨I,K,rfl,cU⟩:=aU b3;obtain ⟨ab,bs,Q,bi⟩:=hqq4 ag b3 aW bB;clear cU b3 aW bB ag);have a7:Keep (fun a=>(Value.slice E f y).ownBlock=some a) wr D:=⟨Q.out.os,Q.out.tape,Q.out.output,Q.out.size,fun a b am=>Q.out.block a b fun d=>am d.symm⟩
    have aI:AddL F gp ga R P c vo ks C a9 a2 (fun a=>Gw (AF ga vt vf) o.heap.size a/\a < t.heap.size) t.heap.size o (D.setCell ⟨gp,1,none⟩ (.slice I (f+1) K)) I (f+1) K (u++ [(0,0)]):=by
        have L:=m.out;have W:∀a j e,j≠104->Bk D a j e->Bk (D.setCell ⟨gp,1,none⟩ (.slice I (f+1) K)) a j e:=fun a j e n b=>b.far (p:=⟨gp,1,none⟩) (Bk.ne b ab.out n) _;have dm:∀a,(Value.slice E f y).ownBlock=some a->Gw F o.heap.size a:=fun a b=>L.fl a b;have am:∀a j e,j≠106->Bk wr a j e->¬((Value.slice E f y).ownBlock=some a):=fun a j e n b d=>by obtain ⟨cA,aV⟩:=eF L.own d;exact n (aK b aV).1
        refine ⟨ab.out.set 1 _,?_,by rw [zAi,L.len];rfl,by have:=L.lo;omega,by omega,fun H v=>?_,?_,?_,?_,?_,?_⟩;rw [jL];exact aA bs.out fun a e _ b=>W _ _ _ dC b
        · rw [<-L.get H v];have dr:=l.out.at_.lt H v;unfold aB aG;rw [zAb,zAb,zAn (by have:=L.lo;have:=L.len;omega)]
        exact aA L.ord fun a e _ b=>W _ _ _ dC (a7.bk b (am _ _ _ dC b));refine (L.ar.keep a7 fun a j e n b _=>am a j e (fun d=>by subst d;revert n;decide) b).keep (G:=fun a=>a=gp) (Keep.setCell (F:=fun a=>a=gp) (Keep.refl _ _) (p:=⟨gp,1,none⟩) (.inl rfl) _) fun a j e n b _ d=>?_;have aF:a=gp:=d;subst aF;rw [(aK b ab.out).1] at n;revert n;decide;refine Keep.setCell (F:=F) (L.keep.trans' a7 fun a b g=>?_) (p:=⟨gp,1,none⟩) (.inl l.out.fp) _;rcases L.fl a g with z | z;exact z;omega;intro a b;rcases bi.out with d | d;rw [d] at b;exact L.fl a b;rw [d] at b;injection b with b;subst b;exact .inr (by have:=L.keep.size;omega);have ae:=L.k3;have cH:=a7.size;have de:(D.setCell ⟨gp,1,none⟩ (.slice I (f+1) K)).heap.size=D.heap.size:=(by simp [World.setCell]);omega
    have c1:uK (D.setCell ⟨gp,1,none⟩ (.slice I (f+1) K)) gp=f+1:=(by have cB:(D.setCell ⟨gp,1,none⟩ (.slice I (f+1) K)).cell? ⟨gp,1,none⟩=some (.slice I (f+1) K):=(aI.blk.cell 1).trans rfl;unfold uK;rw [cB]);obtain ⟨ce,cs⟩:=hqq2 aI c1;clear aI c1 a7 ab bs Q bi m;go_roundw
    case rel=>exact ⟨_,_,_,_,ce.out⟩
    case measure=>rw [cr.out,cs.out];omega
  · have cS:decide (f<=c)=false:=zBy bT;have cT:¬(f:Int)<=(c:Int):=oM;have a8:c < f:=oM;have dj:(c:Int) < (f:Int):=oM;obtain ⟨q,ds,b5,_,dg⟩:=World.ownsRow.form r.own oM;injection b5 with b5 _ hs9c;subst b5 hs9c;obtain ⟨da,a4⟩:=eT r.own;have di:gp≠q:=Bk.ne r.blk a4 dC;have d7:=a4.frozen (c*2);have d8:=a4.frozen (c*2+1);obtain ⟨bf,bg⟩:=cC u c (by rw [cI];exact a8);have cc:=(World.ownsRow.cellAt r.own (c*2) oM).trans bf;have cd:=(World.ownsRow.cellAt r.own (c*2+1) oM).trans bg;generalize aB u c=u0 at cc bf;generalize aG u c=u1 at cd bg;obtain ⟨aa,ad,M,_⟩:=aP r.ord;rw [J.out] at M;have aE:wr.cell? ⟨gp,2,none⟩=some (.slice aa N ad):=(r.blk.cell 2).trans (by rw [M];rfl);obtain ⟨m,cg,ac⟩:=hqq3 r a4 M;clear r a4 M bf bg;go_wp2_with fail;have ba:((wr.setCell ⟨q,c*2,none⟩ (.int .i64 (row:Int))).setCell ⟨q,c*2+1,none⟩ (.int .i64 (s:Int))).ownsRow 0 106 2 (.slice (some q) f y) f (bJ (u.set c (row,s))):=(by have cb:=(World.ownsRow.stored m.out.own (c*2) (.int .i64 (row:Int))).1;rw [jM u c row (by rw [m.out.len];exact a8)] at cb;have ap:=(World.ownsRow.stored cb (c*2+1) (.int .i64 (s:Int))).1;rw [lX _ c s (by rw [zAt,m.out.len];exact a8)] at ap;rw [List.set_set] at ap;have cD:aB (u.set c (row,aG u c)) c=row:=(by unfold aB;rw [zAb,List.getElem?_set_self (by rw [m.out.len];exact a8)];rfl);rw [cD] at ap;exact ap);have Z:Keep (fun a=>a=q) wr ((wr.setCell ⟨q,c*2,none⟩ (.int .i64 (row:Int))).setCell ⟨q,c*2+1,none⟩ (.int .i64 (s:Int))):=((Keep.refl (fun a=>a=q) wr).setCell (p:=⟨q,c*2,none⟩) (.inl rfl) _).setCell (p:=⟨q,c*2+1,none⟩) (.inl rfl) _;have b7:((wr.setCell ⟨q,c*2,none⟩ (.int .i64 (row:Int))).setCell ⟨q,c*2+1,none⟩ (.int .i64 (s:Int))).heap.size=wr.heap.size:=(by simp [World.setCell]);rw [<-b7];clear cc cd d7 d8 V aE aH;generalize (wr.setCell ⟨q,c*2,none⟩ (.int .i64 (row:Int))).setCell ⟨q,c*2+1,none⟩ (.int .i64 (s:Int))=w7 at ba Z b7⊢;have al:∀a j e,j≠106->Bk wr a j e->¬(a=q):=fun a j e n b d=>by subst d;exact n (aK b cg.out).1
    have aY:=Z.bk m.out.blk (al _ _ _ dC m.out.blk);have bc:=aA (w':=w7) m.out.ord fun a e _ b=>Z.bk b (al _ _ _ dC b);have bz:=m.out.ar.keep Z fun a j e n b _=>al a j e (fun d=>by subst d;revert n;decide) b;have bP:Keep F o w7:=m.out.keep.trans' Z fun a b g=>by have cE:a=q:=g;rcases m.out.fl a (by rw [cE];rfl) with z | z;exact z;omega
    have a3:Below w7.heap.size w7 (w7.alloc (.cells #[(c:Int)] 3)):=bR.alloc nL _;have ai:=Bk.new w7 3 #[(c:Int)];have a0:=aQ bc a3;have bb:=aQ ba a3;have ah:=aY.below a3 aY.lt;have aM:=bz.keep (G:=fun _=>False) (Keep.of_below a3) fun _ _ _ _ _ _ g=>g;have ak:Keep F o (w7.alloc (.cells #[(c:Int)] 3)):=bP.alloc _;obtain ⟨cF,aX⟩:=eqx w7.heap.size;rw [aX] at ai;rw [aX];have c9:∀a,vo.ownBlock=some a->a < w7.heap.size:=fun a b=>(bc.lt a b).2;rw [J.out,ac.out] at a0;have bd:wr.heap.size<=(w7.alloc (.cells #[(c:Int)] 3)).heap.size:=(by simp;omega);have bv:=lhd bd;clear bd;generalize w7.alloc (.cells #[(c:Int)] 3)=w8 at bv ai a0 bb ah aM ak⊢;have b0:=xZ 0 aa N ad a1 ks cF c w8 a0 ai (fun a b d=>by have:=c9 a (by rw [ac.out];exact b);omega) (zAp _) bL oM;unfold qY at b0;refine b0.mono ?_;clear b0;rintro d O ⟨aq,aC,rfl,bY,Y,aO⟩;rw [<-ac.out] at Y aO a0;have b8:∀a j e,j≠3->Bk w8 a j e->¬(vo.ownBlock=some a):=fun a j e n b d=>by obtain ⟨cA,aV⟩:=eF a0 d;exact n (aK b aV).1
    have a6:=Y.bk ah (b8 _ _ _ dC ah);have c6:=aA (w':=O) bb fun a e _ b=>Y.bk b (b8 _ _ _ dC b);have c8:∀a,vo.ownBlock=some a->¬(Gw (AF ga vt vf) o.heap.size a/\a < t.heap.size):=fun a b g=>by rcases g.1 with g | g;exact l.out.ord_af b g;have:=(l.out.at_.orow.lt a b).2;omega
    have bA:=aM.keep Y fun a j e _ _ g d=>c8 a d g;have bQ:Keep F o O:=ak.trans' Y fun a _ g=>l.out.fo a g;have aE:O.cell? ⟨gp,2,none⟩=some vo:=(a6.cell 2).trans rfl;rw [ac.out] at aE;have dc:=a6.frozen 2;have dh:=a6.lt;obtain ⟨bo,cv,cf,cn,cq,bj,cm⟩:=hqq7 a6 c6 bA bQ bY aO ak;clear a6 c6 bA bQ bY aO ak Y a0 bb ah aM ai a3 bP bz bc aY Z ba b7 aX c9 b8 al;go_wp2_with fail;go_ret;have b6:Keep (fun a=>a=gp) O (O.setCell ⟨gp,2,none⟩ (.slice aq (N+1) aC)):=Keep.setCell (F:=fun a=>a=gp) (Keep.refl _ _) (p:=⟨gp,2,none⟩) (.inl rfl) _;have W:∀a j e,j≠104->Bk O a j e->¬(a=gp):=fun a j e n b d=>by subst d;exact n (aK b bo.out).1
    have dn:=bl.out.size;have dq:=cm.out.size;have bd:=bv.out;have cL:f<=1000:=(by rcases bm.out with az | az;have:=A.out;omega;have:=A.out;have:=J.out;omega);have cV:∀a,Gw F o.heap.size a->Gw F w.heap.size a:=fun a g=>by rcases g with g | g;exact .inl g;exact .inr oM
    have L:=m.out
    obtain ⟨d5,d4,cN,bZ,cY⟩:=PermX.stow (w:=w) (w':=O.setCell ⟨gp,2,none⟩ (.slice aq (N+1) aC)) (F:=Gw F w.heap.size) (gp:=gp) (ga:=ga) (R:=R) (P:=P) (k:=c) (row:=row) (pos:=s) (i:=a1) (n0:=0) (vl':=.slice (some q) f y) (vo':=.slice aq (N+1) aC) (ks:=ks) (C:=C) (C9:=u) (tk:=a9) (fr:=a2) (AFF:=fun a=>Gw (AF ga vt vf) o.heap.size a/\a < t.heap.size)
        l.out.at_.lt l.out.nd co.out (by rw [L.len];exact a8) (by rw [L.len];exact L.lo) (by rw [L.len];exact cL) (by
         rw [L.len];rcases bm.out with az | az;have:=L.lo;have:=L.hi;omega
         · have:=L.lo;have:=L.hi;omega) L.get ct.out ck.out.symm cp.out (bo.out.set 2 _)
        (by rw [L.len];exact aA cv.out fun a e _ b=>b6.bk b (W _ _ _ dC b))
        (by rw [J.out];exact aA cq.out fun a e _ b=>b6.bk b (W _ _ _ dC b))
        (cf.out.keep b6 fun a j e n b _=>W a j e (fun d=>by subst d;revert n;decide) b)
        (fun a g=>by
         rcases g.1 with z | z;exact .inl (l.out.af z)
         · exact .inr oM)
        (.inl l.out.fa) (.inl l.out.fp) (fun a b=>cV a (L.fl a b))
        (fun a b=>by
         rcases bj.out with d |⟨z,d,aF⟩;exact .inl (l.out.fo a (by rw [<-d];exact b))
         · rw [d] at b;injection b with b;subst b;exact .inr oM)
        (fun a b g=>by
         rcases bj.out with d |⟨z,d,aF⟩;exact c8 a (by rw [<-d];exact b) g
         · rw [d] at b;injection b with b;subst b;have ae:=g.2;have cH:=L.k3;omega)
        cu.out cj.out ci.out
    refine ⟨rfl,⟨_,?_,⟨ga,_,_,d5,d4,_,_,a9,a2,cN,rfl⟩,List.pairwise_map.2 cY,fun H v=>?_⟩,(Keep.of_below bl.out).trans (Keep.setCell (F:=F) cn.out (p:=⟨gp,2,none⟩) (.inl l.out.fp) _)⟩;rw [bZ];exact eM _ _ _;rw [bZ] at v;rcases List.mem_cons.1 ((eM _ _ _).subset v) with rfl | v;exact ⟨cX,cW⟩;obtain ⟨d6,cZ,rfl⟩:=zAy.1 v;exact ch.out d6 cZ
def PermE.inj {w:World} {F:Nat->Prop} {gp R P:Nat} {pr:List (Nat×Nat)} (f:PermE w F gp R P pr) {d e:Nat×Nat} (j:d∈pr) (k:e∈pr) (l:d.1=e.1):d=e:=by
 obtain ⟨b,g,rfl⟩:=List.getElem_of_mem j;obtain ⟨c,i,rfl⟩:=List.getElem_of_mem k;rcases Nat.lt_trichotomy b c with a | a | a;have:=zAr.1 f.2.1 b c g i a;omega;subst a;rfl;have:=zAr.1 f.2.1 c b i g a;omega
def PermR (w:World) (gp R P:Nat) (pr:List (Nat×Nat)):Prop:=
 ∃B ga vl vo vt vf ks C tk fr,PermAt w B gp ga vl vo vt vf R P ks C tk fr/\ks.Pairwise (fun b c=>aB C b < aB C c)/\C.length<=1000/\ks.length<=1000/\pr=ks.map fun a=>(aB C a,aG C a)
def PermR.le {w:World} {gp R P:Nat} {pr:List (Nat×Nat)} (a:PermR w gp R P pr):pr.length<=1000:=by
 obtain ⟨B,ga,vl,vo,vt,vf,ks,C,tk,fr,c,d,e,b,rfl⟩:=a;rw [zBc];exact b
def PermR.vis {w w':World} {gp R P:Nat} {pr:List (Nat×Nat)} (a:PermR w gp R P pr) (d:Vis w w'):PermR w' gp R P pr:=by
 obtain ⟨B,ga,vl,vo,vt,vf,ks,C,tk,fr,b,c⟩:=a;exact ⟨B,ga,vl,vo,vt,vf,ks,C,tk,fr,b.vis d,c⟩
def PermR.lt {w:World} {gp R P:Nat} {pr:List (Nat×Nat)} (a:PermR w gp R P pr):gp < w.heap.size:=by
 obtain ⟨B,ga,vl,vo,vt,vf,ks,C,tk,fr,b,c⟩:=a;exact b.blk.lt
def aA0 (B gp ga:Nat) (vl vo vt vf:Value) (R P:Nat) (ks:List Nat) (C:List (Nat×Nat)) (tk:List Bool) (fr:List Nat) (w:World) (c:PermAt w B gp ga vl vo vt vf R P ks C tk fr) (ac:C.length<=1000) (ad:ks.length<=1000):
 Calls prog 121 #[gp] w (qU w (ks.map fun a=>(aB C a,aG C a))):=by
 obtain ⟨ao,ah,al,am,an⟩:=info_parts rQ;have O:=c.orow;obtain ⟨X,a5,rfl,_,_⟩:=aP O;obtain ⟨W,E,rfl,_,_⟩:=aP c.lrow;have q:w.cell? ⟨gp,1,none⟩=some (.slice W C.length E):=(c.blk.cell 1).trans rfl;have H:w.cell? ⟨gp,2,none⟩=some (.slice X ks.length a5):=(c.blk.cell 2).trans rfl;have ag:=c.blk.lt;obtain ⟨D,s⟩:=eqx C.length;obtain ⟨g,j⟩:=eqx ks.length;obtain ⟨pr,k⟩:∃pr,(ks.map fun a=>(aB C a,aG C a))=pr:=⟨_,rfl⟩;have Q:pr.length=g:=by rw [<-k,zBc,j]
 rw [k];obtain ⟨z,a2,Z,a4,m⟩:=hqq5 c j s k Q;rw [s] at q ac;rw [j] at H ad;clear c O j s k Q;unfold qU;go_enter func121,ntmps121;go_wp2_with fail;go_loopw [3,13] (fun ap y wr=>∃a:Nat,a<=g/\y=.int .i64 (a:Int)/\wr.ownsRow w.heap.size 106 2 ap a (bJ (pr.take a))/\Below w.heap.size w wr) (fun _ y _=>g -(intOf y).toNat)
 case atStart=>exact ⟨0,zAp _,rfl,World.ownsRow_nil _ _ _ _,Below.refl _ _⟩
 case round=>
  obtain ⟨a,ay,rfl,e,d⟩:=hrel;have S:=d.size;by_cases ai:a < g
  · have K:a < ks.length:=(by rw [a2.out];exact ai);obtain ⟨b,i⟩:∃b,ks[a]?=some b:=⟨_,zAa K⟩;have v:b < C.length:=z.out.lt b (zAd i);have ax:b < D:=(by rw [<-Z.out];exact v);have f:=z.out.below d;have x:=f.orow;obtain ⟨ab,aC,aa,_,aw⟩:=World.ownsRow.form x oM;obtain ⟨r,aA,a9,_,av⟩:=World.ownsRow.form f.lrow oM;injection aa with e2a _ _;injection a9 with e1a _ _;subst e2a;subst e1a;have ar:wr.cell? ⟨ab,a,none⟩=some (.int .i64 (b:Int)):=(World.ownsRow.cellAt x a oM).trans (by rw [zAf,i];rfl);obtain ⟨U,V⟩:=cC C b v;have a7:wr.cell? ⟨r,b*2,none⟩=_:=(World.ownsRow.cellAt f.lrow (b*2) oM).trans U;have a8:wr.cell? ⟨r,b*2+1,none⟩=_:=(World.ownsRow.cellAt f.lrow (b*2+1) oM).trans V;have au:wr.cell? ⟨gp,1,none⟩=some (.slice (some r) D E):=(d.cell (p:=⟨gp,1,none⟩) ag).trans q;obtain ⟨n,t⟩:=eqx (aB C b);obtain ⟨o,u⟩:=eqx (aG C b);have N:bJ (pr.take (a+1))=bJ (pr.take a)++ [.int .i64 (n:Int),.int .i64 (o:Int)]:=(by have af:pr[a]?=some (n,o):=(by rw [<-a4.out,zAf,i,<-t,<-u];rfl);rw [zAv,af];show bJ (pr.take a++ [(n,o)])=_;rw [jL];rfl);rw [t] at a7;rw [u] at a8;obtain ⟨A,l,a3⟩:=hqq3 e d N;clear e d N f x U V q H t u i v K;go_wp2_with (at_builtin;refine bM _ rfl (.tmp 17) (.tmp 25) _ rfl w.heap.size 106 ao (.agg #[.int .i64 0,.int .i64 0]) 2 16 underlying81 ah al am an rfl dC _ a _ rfl A.out rfl rfl (by simp [Value.oneCell']) (by unfold maxLen;omega) oM S ?_;intro aq aD aj J az ae);have I:=bG l.out A.out J S;have a0:=lhd I;clear I J ae;exact ⟨⟨aq,_,_,⟨a+1,by omega,by go_num,by rw [a3.out];exact aj,a0.out⟩,rfl,rfl,rfl⟩,by simp [intOf];omega⟩
  · obtain rfl:a=g:=oM;have ak:pr.take a=pr:=zAg (by rw [m.out];exact zAs _);rw [ak] at e;obtain ⟨Y,a6,rfl,M⟩:=aU e;obtain ⟨a1,l⟩:=hqq2 M d;clear e M d;go_wp2_with fail;go_ret;exact ⟨Y,a6,by rw [m.out];rfl,by rw [m.out];exact a1.out,l.out⟩
def aAZ (gp R P:Nat) (pr:List (Nat×Nat)) (w:World) (a:PermR w gp R P pr):
 Calls prog 121 #[gp] w (qU w pr):=by
 obtain ⟨B,ga,vl,vo,vt,vf,ks,C,tk,fr,b,e,c,d,rfl⟩:=a;exact aA0 B gp ga vl vo vt vf R P ks C tk fr w b c d
def dS (pr:List (Nat×Nat)) (b:Nat) (d:Int):Prop:=(d=-1/\∀a∈pr,a.2 < b)∨∃a∈pr,d=((a.2:Nat):Int)/\b<=a.2/\∀c∈pr,b<=c.2->a.2<=c.2
def uY {l:List (Nat×Nat)} {f:Nat} {m:Int} (p:dS l f m) (g a:Nat):dS (l++(some (g,a)).toList) f (if f<=a/\(m < 0∨(a:Int) < m) then (a:Int) else m):=by
 have e:∀b:Nat×Nat,b∈l++(some (g,a)).toList↔b∈l∨b=(g,a):=fun b=>by simp
 rcases p with ⟨rfl,k⟩|⟨j,q,rfl,k,n⟩;by_cases d:f<=a;rw [zBx ⟨d,.inl oM⟩];refine .inr ⟨(g,a),(e _).2 (.inr rfl),rfl,d,fun b c i=>?_⟩;rcases (e b).1 c with c | rfl;have:=k b c;omega;exact zAs _;rw [zBw (fun o=>d o.1)];refine .inl ⟨rfl,fun b c=>?_⟩;rcases (e b).1 c with c | rfl;exact k b c;show a < f;omega;by_cases d:f<=a/\((j.2:Int) < 0∨(a:Int) < (j.2:Int));rw [zBx d];have r:a < j.2:=oM;refine .inr ⟨(g,a),(e _).2 (.inr rfl),rfl,d.1,fun b c i=>?_⟩;rcases (e b).1 c with c | rfl;have:=n b c i;show a<=_;omega;exact zAs _;rw [zBw d];refine .inr ⟨j,(e _).2 (.inl q),rfl,k,fun b c i=>?_⟩;rcases (e b).1 c with c | rfl;exact n b c i;have s:f<=a:=i;show j.2<=a;omega
def sF (w:World) (C:List (Nat×Nat)) (c:Nat) (b:Ending) (w':World):Prop:=∃a,b=.returned (.int .i64 a)/\dS C c a/\Below w.heap.size w w'
def nW (gp R P:Nat) (C:List (Nat×Nat)) (d:Nat) (w:World) (p:PermR w gp R P C):
 Calls prog 146 #[gp,(d:Int)] w (sF w C d):=by
 have m:=aAZ gp R P C w p;have Z:=p.le;unfold qU at m;obtain ⟨n,t⟩:=eqx C.length;rw [t] at m Z;have y:=lhd t;clear p t;unfold sF;go_enter func146,ntmps146;go_wp2_with fail;refine m.mono ?_;rintro aa w1 ⟨a6,a9,rfl,K,D⟩;clear m;obtain ⟨V,x⟩:=hqq2 K D;clear K D;go_wp2_with fail;go_loopw [5,11] (fun a5 u wr=>∃(a:Nat) (c:Int),a<=n/\u=.int .i64 (a:Int)/\a5=.int .i64 c/\dS (C.take a) d c/\Below w1.heap.size w1 wr) (fun _ u _=>n -(intOf u).toNat)
 case atStart=>exact ⟨0,-1,zAp _,rfl,rfl,.inl ⟨rfl,fun ag a2=>by simp at a2⟩,Below.refl _ _⟩
 case round=>
  obtain ⟨a,c,ac,rfl,rfl,i,g⟩:=hrel;have a1:=g.size;by_cases a0:a < n
  · have J:a < C.length:=(by rw [y.out];exact a0);have N:=V.out.rd.below (g.mono (B:=w1.heap.size) nL);obtain ⟨a8,af,rfl,ab,s⟩:=N.2 oM;obtain ⟨Q,S⟩:=cC C a J;have X:=s _ _ Q;have Y:=s _ _ S;obtain ⟨o,q⟩:=eqx (aB C a);obtain ⟨b,r⟩:=eqx (aG C a);rw [q] at X;rw [r,<-Nat.add_assoc] at Y;have I:C[a]?=some (o,b):=(by rw [<-q,<-r];unfold aB aG;rw [zAb,zAa J];rfl);have M:∀v:Int,v=(if d<=b/\(c < 0∨(b:Int) < c) then (b:Int) else c)->dS (C.take (a+1)) d v:=fun v a3=>by rw [zAv,I,a3];exact uY i o b
    obtain ⟨k,a7⟩:=hqq2 M g;have E:Below w1.heap.size w1 (wr.alloc (.cells #[(o:Int),(b:Int)] 106)):=g.alloc a1 _;have j:=lhd E;clear i g N s Q S q r E M I;by_cases l:d<=b
    · have a4:decide (d<=b)=true:=zBz l;by_cases z:c < 0
      · have e:dS (C.take (a+1)) d (b:Int):=k.out (b:Int) (by rw [zBx ⟨l,.inl z⟩]);have f:=lhd e;clear e;go_wp2_with fail;go_roundw
        case rel=>exact ⟨a+1,(b:Int),by omega,by go_num,by first | rfl | trivial,f.out,j.out⟩
        case measure=>simp [intOf];omega
      · have ad:decide (c < 0)=false:=zBy z;by_cases A:(b:Int) < c
        · have e:dS (C.take (a+1)) d (b:Int):=k.out (b:Int) (by rw [zBx ⟨l,.inr A⟩]);have f:=lhd e;clear e;go_wp2_with fail;go_roundw
          case rel=>exact ⟨a+1,(b:Int),by omega,by go_num,by first | rfl | trivial,f.out,j.out⟩
          case measure=>simp [intOf];omega
        · have ae:decide ((b:Int) < c)=false:=zBy A;have e:dS (C.take (a+1)) d c:=k.out c (by rw [zBw oM]);have f:=lhd e;clear e;go_wp2_with fail;go_roundw
          case rel=>exact ⟨a+1,c,by omega,by go_num,by first | rfl | trivial,f.out,j.out⟩
          case measure=>simp [intOf];omega
    · have a4:decide (d<=b)=false:=zBy l;have e:dS (C.take (a+1)) d c:=k.out c (by rw [zBw oM]);have f:=lhd e;clear e;go_wp2_with fail;go_roundw
      case rel=>exact ⟨a+1,c,by omega,by go_num,by first | rfl | trivial,f.out,j.out⟩
      case measure=>simp [intOf];omega
  · obtain rfl:a=n:=oM;have H:=x.out.trans (g.mono x.out.size);have U:=lhd H;have O:C.take a=C:=zAg (by rw [y.out];exact zAs _);rw [O] at i;have W:=lhd i;clear H i g O;go_wp2_with fail;go_ret;exact ⟨c,rfl,W.out,U.out⟩
def aCp (w:World) (ks:List Nat) (C:List (Nat×Nat)) (c:Nat) (b:Ending) (w':World):Prop:=∃a,a∈ks/\aG C a=c/\b=.returned (.int .i64 ((aB C a:Nat):Int))/\Below w.heap.size w w'
def aAU (B gp ga:Nat) (vl vo vt vf:Value) (R P:Nat) (ks:List Nat) (C:List (Nat×Nat)) (tk:List Bool) (fr:List Nat) (e:Nat) (w:World) (c:PermAt w B gp ga vl vo vt vf R P ks C tk fr) (M:ks.length<=1099511627776) (Z:C.length<=1099511627776) (r:∃g∈ks,aG C g=e):
 Calls prog 147 #[gp,(e:Int)] w (aCp w ks C e):=by
 have k:=iF B gp ga vl vo vt vf R P ks C tk fr e w c M;obtain ⟨i,b,t,j,u⟩:=sQ (p:=fun g=>decide (aG C g=e)) (l:=ks) (by obtain ⟨g,N,O⟩:=r;exact ⟨g,N,zBz O⟩) 0;rw [t,zBi] at k;have v:aG C b=e:=of_decide_eq_true u;have a7:i < ks.length:=(zAc.1 j).1;have U:b < C.length:=c.lt b (zAd j);obtain ⟨o,H,S,a3,J⟩:=World.ownsRow.form c.orow oM;obtain ⟨q,I,Q,a4,K⟩:=World.ownsRow.form c.lrow oM;subst S;subst Q;have s:=(cC C b U).1;obtain ⟨x,n,D,z⟩:=hqq4 c j v s;have a6:(i:Int) < (ks.length:Int):=oM;have a8:(b:Int) < (C.length:Int):=oM;have a5:decide ((i:Int) < 0)=false:=by simp
 clear c t j u v s r;unfold aCp;go_enter func147,ntmps147;go_wp2_with fail;refine k.mono ?_;rintro Y w1 ⟨rfl,f⟩;have d:=x.out.below f;have V:∀a,(w1.drewN a).cell? ⟨gp,1,none⟩=some (.slice (some q) C.length I):=fun a=>(d.blk.cell 1).trans rfl;have W:∀a,(w1.drewN a).cell? ⟨gp,2,none⟩=some (.slice (some o) ks.length H):=fun a=>(d.blk.cell 2).trans rfl;have a2:=d.blk.lt;have X:∀a,(w1.drewN a).cell? ⟨o,i,none⟩=some (.int .i64 (b:Int)):=fun a=>(World.ownsRow.cellAt d.orow i oM).trans (by rw [zAf,n.out];rfl);have E:∀a,(w1.drewN a).cell? ⟨q,b*2,none⟩=some (.int .i64 ((aB C b:Nat):Int)):=fun a=>(World.ownsRow.cellAt d.lrow (b*2) oM).trans z.out;have y:=lhd f;have a0:=zAl J f.size;have a1:=zAl K f.size;obtain ⟨a9,m⟩:=eqx (aB C b);rw [m] at E;have A:=lhd m;clear k f d m;go_wp2_with fail;go_quiet (fail);go_wp2_with fail;go_ret;exact ⟨b,zAd n.out,D.out,by rw [A.out];rfl,below_drewN y.out _⟩
def wP (w:World) (pr:List (Nat×Nat)) (c:Nat) (b:Ending) (w':World):Prop:=∃a,(a,c)∈pr/\b=.returned (.int .i64 (a:Int))/\Below w.heap.size w w'
def qS (gp R P:Nat) (pr:List (Nat×Nat)) (b:Nat) (w:World) (f:PermR w gp R P pr) (j:∃e∈pr,e.2=b):
 Calls prog 147 #[gp,(b:Int)] w (wP w pr b):=by
 obtain ⟨B,ga,vl,vo,vt,vf,ks,C,tk,fr,g,o,p,q,rfl⟩:=f;have k:∃a∈ks,aG C a=b:=by obtain ⟨e,n,d⟩:=j;obtain ⟨a,c,rfl⟩:=zAy.1 n;exact ⟨a,c,d⟩
 have m:=aAU B gp ga vl vo vt vf R P ks C tk fr b w g oM oM k;refine m.mono ?_;rintro d w' ⟨a,c,l,rfl,i⟩;exact ⟨_,zAy.2 ⟨a,c,by rw [l]⟩,rfl,i⟩
def xS (gp R P:Nat) (pr:List (Nat×Nat)) (a:Nat) (w:World) (j:PermR w gp R P pr) (g:∀n∈pr,n.2≠a):
 Calls prog 147 #[gp,(a:Int)] w fun d w'=>d=.returned (.int .i64 (-1))/\Below w.heap.size w w':=by
 obtain ⟨B,ga,vl,vo,vt,vf,ks,C,tk,fr,e,k,o,q,rfl⟩:=j;have b:=iF B gp ga vl vo vt vf R P ks C tk fr a w e oM;rw [jO (p:=fun c=>decide (aG C c=a)) (l:=ks) (fun c m=>zBy (g _ (zAy.2 ⟨c,m,rfl⟩))) 0] at b;clear e k g;go_enter func147,ntmps147;go_wp2_with fail;refine b.mono ?_;rintro d w1 ⟨rfl,f⟩;have i:=lhd f;clear b f;go_wp2_with fail;go_ret;exact ⟨rfl,i.out⟩
end
end Go.Proofs.YtcfpmjbojoidoaaGreatDoor
