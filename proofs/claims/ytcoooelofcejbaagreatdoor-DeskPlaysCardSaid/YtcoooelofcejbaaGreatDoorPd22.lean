/- Lemmas of the walk. Conditions: each its own. -/
import Derived.Test.YtcoooelofcejbaaGreatDoorPd17
import Derived.Test.YtcoooelofcejbaaGreatDoorPd18
import Derived.Test.YtcoooelofcejbaaGreatDoorPd20
import Derived.Test.YtcoooelofcejbaaGreatDoorProg
import Derived.Test.YtcoooelofcejbaaGreatDoorShl
import Derived.Test.YtcoooelofcejbaaGreatDoorShi
set_option linter.all false
set_option maxRecDepth 100000
set_option maxHeartbeats 4000000
open Go.Proofs.Tryz
namespace Go.Proofs.YtcoooelofcejbaaGreatDoor
section
open Go.RowKit
def WalkT (w:World) (B gk:Nat) (L T:List Nat):Prop:=
 ∃b a,Bk w gk 151 #[.pointer (some ⟨b,0,none⟩),.pointer (some ⟨a,0,none⟩)]/\WaveAt w B b L/\Bk w a 214 (tcells T)
def WalkT.vis {w w':World} {B gk:Nat} {L T:List Nat} (d:WalkT w B gk L T) (a:Vis w w'):WalkT w' B gk L T:=by
 obtain ⟨c,b,e,f,g⟩:=d;exact ⟨c,b,a.bk e dC dC,f.vis a,a.bk g dC dC⟩
def qU (L T:List Nat) (a b:Nat):Nat:=T.countP (fun c=>decide (c < a))+(L.take b).count a
def aBl {B gk:Nat} {L T:List Nat} {w:World} (c:WalkT w B gk L T):
 Calls prog 77 #[gk] w fun a w'=>a=.returned (.int .i64 (L.length:Int))/\w=w':=by
 obtain ⟨i,g,b,d,e⟩:=c;have f:=b.cell 0;clear b e;go_enter func77,ntmps77;go_wp2_with fail;refine (uA d).mono ?_;rintro a w' ⟨rfl,rfl⟩;go_wp2_with fail;go_ret;exact ⟨rfl,rfl⟩
def xG {B gk:Nat} {L T:List Nat} {s:Nat} {w:World} (i:WalkT w B gk L T) (m:s < 257) (l:T.length<=1000):
 Calls prog 161 #[gk,(s:Int)] w fun b w'=>b=.returned (.int .i64 ((T.countP (fun a=>decide (a < s)):Nat):Int))/\Below w.heap.size w w':=by
 obtain ⟨p,o,c,j,d⟩:=i;have n:=c.cell 1;clear c j;have g:=lhd d;clear d;go_enter func161,ntmps161;go_wp2_with fail;refine (jI g.out m l).mono ?_;rintro b w' ⟨rfl,k⟩;obtain ⟨f,e⟩:∃f,T.countP (fun a=>decide (a < s))=f:=⟨_,rfl⟩;rw [e];go_wp2_with fail;go_ret;exact ⟨by rw [e];rfl,k⟩
def aCP {B gk:Nat} {L T:List Nat} {i:Nat} {w:World} (c:WalkT w B gk L T) (f:i < L.length):
 Calls prog 158 #[gk,(i:Int)] w fun b w'=>b=.returned (.bool true)/\w=w':=by
 obtain ⟨g,a⟩:=eqx L.length;rw [a] at f;have j:(i:Int) < (g:Int):=oM;obtain ⟨e,d⟩:=hqq2 a c;clear a c;go_enter func158,ntmps158;go_wp2_with fail;refine (aBl d.out).mono ?_;rintro b w' ⟨rfl,rfl⟩;rw [e.out];go_wp2_with fail;go_ret;exact ⟨rfl,rfl⟩
def oV {B gk:Nat} {L T:List Nat} {d b:Nat} {w:World} (H:WalkT w B gk L T) (o:L[d]?=some b) (v:∀y∈L,y < 257) (W:L.length<=1000) (N:T.length<=1000):
 Calls prog 156 #[gk,(d:Int)] w fun g w'=>g=.returned (.int .i64 ((qU L T b d:Nat):Int))/\VB B w w':=by
 have Q:=(zAc.1 o).1;have X:b < 257:=v _ (zAd o);have M:=H;obtain ⟨f,ap,n,J,ab⟩:=H;have a8:=n.cell 0;have au:=n.lt;obtain ⟨l,x⟩:=eqx (qU L T b d);obtain ⟨r,p⟩:∃af,T.countP (fun y=>decide (y < b))=af:=⟨_,rfl⟩;obtain ⟨t,q⟩:=eqx ((L.take d).count b);have U:r+t=l:=by rw [<-p,<-q,<-x];rfl
 have aq:r<=1000:=by rw [<-p];exact zAk zBh N
 have ar:t<=1000:=by rw [<-q];exact zAk zBv (by rw [zAj];omega)
 rw [x];obtain ⟨z,Y,A,u,a3,D,E,a1,a5⟩:=hqq9 M n J Q o v W N p;obtain ⟨a6,a4⟩:=hqq2 q U;clear M n J ab Q o v W p q x U;go_enter func156,ntmps156;go_wp2_with fail;refine (aCP (B:=B) (gk:=gk) (L:=L) (T:=T) (i:=d) (w:=w) z.out u.out).mono ?_;rintro g w1 ⟨rfl,rfl⟩;go_wp2_with fail;refine (dR (B:=B) (gv:=f) (L:=L) (w:=w) d b A.out u.out (zAc.1 a3.out).2 D.out E.out).mono ?_;rintro g m ⟨rfl,k⟩;have O:=z.out.vis k.1;have I:=k.1.bk Y.out dC dC;have K:=A.out.vis k.1;obtain ⟨a2,Z,a0,a7⟩:=hqq4 O I K k;clear O I K k a8;go_wp2_with fail;refine wp_region_any kR ?_;refine aY (S:=(VB B)) (V:=(Vs [is gk,is (b:Int),is (r:Int),is gk,is gk,is gk,is f,is (d:Int),is (b:Int),is (t:Int),is (l:Int),is (l:Int)])) [20,21,22,23,24,25,26,27,28,29,30,4] _ rfl kR vR (fun _ _=>VisK.trans) (cK tA0) ?_ ?_
 · refine aV ?_;refine pH 0 (.pointer (some gk)) ?_;refine pH 5 (.int .i64 (b:Int)) ?_;refine sC (fun _ e a _ _ _ c _ _ _ j=>?_) ?_
   · have ai:_=_:=c 0 20 kR rfl;have aj:_=_:=c 1 21 kR rfl;replace a:(VB B) m e:=bD a;go_simp;refine (xG (B:=B) (gk:=gk) (L:=L) (T:=T) (s:=b) (w:=e) (a2.out.vis a.1) X a1.out).mono ?_;rintro g ah ⟨rfl,ac⟩;rw [a5.out];exact j _ _ (VisK.of_below ac) rfl
   refine pH 0 (.pointer (some gk)) ?_;refine pV 3 23 ?_;refine pV 4 24 ?_;refine pL 5 25 (fun e a=>have a:(VB B) m e:=bD a;(((a.1.bk Z.out dC dC).cell 0).trans rfl:e.cell? gk=some (.pointer (some f)))) ?_;refine pH 1 (.int .i64 (d:Int)) ?_;refine pH 5 (.int .i64 (b:Int)) ?_;refine sC (fun _ e a _ _ _ c _ _ _ j=>?_) ?_
   · have al:_=_:=c 6 26 kR rfl;have am:_=_:=c 7 27 kR rfl;have an:_=_:=c 8 28 kR rfl;replace a:(VB B) m e:=bD a;go_simp;refine (gM (B:=B) (gv:=f) (L:=L) (s:=b) (w:=e) d (a0.out.vis a.1) X (zCm u.out) D.out E.out).mono ?_;rintro g ah ⟨rfl,ae⟩;rw [a6.out];exact j _ _ ae rfl
   refine sC (fun _ _ _ _ _ _ c _ _ _ j=>?_) ?_
   · have ak:_=_:=c 2 22 kR rfl;have ao:_=_:=c 9 29 kR rfl;have av:IntKind.i64.wrap ((r:Int)+(t:Int))=(l:Int):=(by rw [IntKind.wrap_i64];have:=a4.out;omega);go_simp;exact j _ _ vR rfl
   refine pV 10 30 ?_;exact aH
 · intro aa ag a c;replace a:(VB B) m ag:=bD a;have a9:aa (.tmp 4)=.int .i64 (l:Int):=c 11 4 rfl;simp only [zqq];rw [a9];clear c;have ad:=a7.out.trans a;go_wp2_with fail;go_ret;exact ⟨rfl,ad⟩
def WalkE (w:World) (B:Nat) (own:Nat->Nat) (gk:Nat) (L T:List Nat):Prop:=
 ∃b a,Bk w gk 151 #[.pointer (some ⟨b,0,none⟩),.pointer (some ⟨a,0,none⟩)]/\own gk=2/\WaveE w B own b L/\Bk w a 214 (tcells T)/\own a=2
section
variable {w w' : World} {B : Nat} {own own' : Nat -> Nat} {gk : Nat} {L T : List Nat}
def WalkE.atT (c:WalkE w B own gk L T):WalkT w B gk L T:=by
 obtain ⟨b,a,d,_,e,f,_⟩:=c;exact ⟨b,a,d,e.at,f⟩
def WalkE.at (d:WalkE w B own gk L T) (g:T.Perm L):WalkAt w B gk L:=by
 obtain ⟨c,b,e,_,f,a,_⟩:=d;rw [tN g] at a;exact ⟨c,b,e,f.at,a⟩
def WalkE.vis (d:WalkE w B own gk L T) (a:Vis w w'):WalkE w' B own gk L T:=by
 obtain ⟨c,b,e,f,g,i,j⟩:=d;exact ⟨c,b,a.bk e dC dC,f,g.vis a,a.bk i dC dC,j⟩
def WalkE.far (g:WalkE w B own gk L T) {H:Nat->Prop} (d:Keep H w w') (c:∀a,H a->own a≠2/\own a < 16):WalkE w' B own gk L T:=by
 obtain ⟨f,e,i,j,k,l,m⟩:=g;exact ⟨f,e,d.bk i (fun b=>by have:=c _ b;omega),j,k.far d c,d.bk l (fun b=>by have:=c _ b;omega),m⟩
def WalkE.paint (k:WalkE w B own gk L T) (b:∀a,a < w.heap.size->2<=own a->own' a=own a) (l:∀a,own' a≠0->B<=a/\a < w.heap.size):WalkE w B own' gk L T:=by
 obtain ⟨j,i,c,e,f,d,g⟩:=k;exact ⟨j,i,c,by rw [b _ c.lt oM];exact e,f.paint b l,d,by rw [b _ d.lt oM];exact g⟩
def WalkE.tally {a:List Nat} (j:WalkE w B own gk L T) (k:T.Perm a):WalkE w B own gk L a:=by
 obtain ⟨i,g,c,d,e,b,f⟩:=j;rw [tN k] at b;exact ⟨i,g,c,d,e,b,f⟩
def WaveE.bnd (b:WaveE w B own gk L):∀a,own a≠0->B<=a/\a < w.heap.size:=by
 obtain ⟨c,d,b⟩:=b;exact b.bnd
def WalkE.bnd (c:WalkE w B own gk L T):∀a,own a≠0->B<=a/\a < w.heap.size:=by
 obtain ⟨j,i,d,e,b,f,g⟩:=c;exact b.bnd
end
structure Grew (w w':World) (own own':Nat->Nat):Prop where
 old:∀b,b < w.heap.size->own' b=own b
 new:∀b,w.heap.size<=b->own' b≠1
 keep:Keep (fun b=>own b=2∨16<=own b) w w'
def Grew.refl {w:World} {own:Nat->Nat} (b:∀a,own a≠0->a < w.heap.size):Grew w w own own:=⟨fun _ _=>rfl,fun a d c=>by have:=b a oM;omega,Keep.refl _ _⟩
def Grew.trans {w w1 w':World} {own e own':Nat->Nat} (b:Grew w w1 own e) (d:Grew w1 w' e own'):Grew w w' own own':=by
 have i:=b.keep.size;refine ⟨fun a c=>(d.old a oM).trans (b.old a c),fun a c=>?_,b.keep.trans' d.keep fun a c g=>by rw [<-b.old a c];exact g⟩;by_cases f:a < w1.heap.size;rw [d.old a f];exact b.new a c;exact d.new a oM
def Grew.of_vb {B:Nat} {w w':World} {own:Nat->Nat} (c:Keep (fun a=>own a=2∨16<=own a) w w') (b:∀a,own a≠0->a < w.heap.size):Grew w w' own own:=⟨fun _ _=>rfl,fun a e d=>by have:=b a oM;omega,c⟩
def fW {B gk:Nat} {own:Nat->Nat} {L T:List Nat} (i:Nat) {s:Nat} {w:World} (b:WalkE w B own gk L T) (S:s < 257) (O:i<=L.length) (I:∀U∈L,U < 257) (Q:L.length<=127):
 Calls prog 149 #[gk,(i:Int),(s:Int)] w fun m w'=>m=.returned (.tuple #[])/\∃own',WalkE w' B own' gk (aP L i s) T/\Grew w w' own own':=by
 obtain ⟨c,n,d,E,e,j,H⟩:=b;have D:w.cell? gk=some (.pointer (some c)):=(d.cell 0).trans rfl;have J:=d.lt;have N:own c=2:=by obtain ⟨l,v,b⟩:=e;exact b.base.2
 have K:gk≠c:=by obtain ⟨l,v,b⟩:=e;exact Bk.ne d b.blk dC
 have M:n≠c:=by obtain ⟨l,v,b⟩:=e;exact Bk.ne j b.blk dC
 obtain ⟨x,y,k⟩:=hqq3 d e j;clear d e j;go_enter func149,ntmps149;go_wp2_with fail;refine (xC y.out S O I Q).mono ?_;rintro m w1 ⟨rfl,own',u,g,r,f⟩;have p:=f.bk x.out (fun a=>by rcases a with a | a;exact K a;omega);have t:=f.bk k.out (fun a=>by rcases a with a | a;exact M a;omega);have q:Grew w w1 own own':=⟨g,r,f.mono fun V _ a=>by rcases a with a | a;left;rw [a,N];right;exact a⟩;have A:=lhd q;have o:WalkE w1 B own' gk (aP L i s) T:=⟨c,n,p,by rw [g _ J];exact E,u,t,by rw [g _ k.out.lt];exact H⟩;have z:=lhd o;clear u g r f p t q o D;go_wp2_with fail;go_end0;exact ⟨rfl,own',z.out,A.out⟩
def fX {B gk:Nat} {own:Nat->Nat} {L T:List Nat} {k s:Nat} {w:World} (b:WalkE w B own gk L T) (r:L[k]?=some s) (K:∀U∈L,U < 257) (S:L.length<=128):
 Calls prog 141 #[gk,(k:Int)] w fun m w'=>m=.returned (.int .i64 (s:Int))/\∃own',WalkE w' B own' gk (aG L k) T/\Grew w w' own own':=by
 obtain ⟨c,n,d,I,e,i,J⟩:=b;have H:w.cell? gk=some (.pointer (some c)):=(d.cell 0).trans rfl;have M:=d.lt;have Q:own c=2:=by obtain ⟨l,x,b⟩:=e;exact b.base.2
 have N:gk≠c:=by obtain ⟨l,x,b⟩:=e;exact Bk.ne d b.blk dC
 have O:n≠c:=by obtain ⟨l,x,b⟩:=e;exact Bk.ne i b.blk dC
 obtain ⟨y,z,j,E⟩:=hqq4 d e i r;clear d e i r;go_enter func141,ntmps141;go_wp2_with fail;refine (xD z.out E.out K S).mono ?_;rintro m w1 ⟨rfl,own',v,g,t,f⟩;have p:=f.bk y.out (fun a=>by rcases a with a | a;exact N a;omega);have u:=f.bk j.out (fun a=>by rcases a with a | a;exact O a;omega);have q:Grew w w1 own own':=⟨g,t,f.mono fun V _ a=>by rcases a with a | a;left;rw [a,Q];right;exact a⟩;have D:=lhd q;have o:WalkE w1 B own' gk (aG L k) T:=⟨c,n,p,by rw [g _ M];exact I,v,u,by rw [g _ j.out.lt];exact J⟩;have A:=lhd o;clear v g t f p u q o H;go_wp2_with fail;go_ret;exact ⟨rfl,own',A.out,D.out⟩
def jH {B gk:Nat} {own:Nat->Nat} {L T:List Nat} {a D c:Nat} {w:World} (m:WalkE w B own gk L T) (j:L[a]?=some D) (z:c < 257) (o:∀E∈L,E < 257) (y:L.length<=128):
 Calls prog 140 #[gk,(a:Int),(c:Int)] w fun b w'=>b=.returned (.tuple #[])/\∃own',WalkE w' B own' gk (L.set a c) T/\Grew w w' own own':=by
 have d:=(zAc.1 j).1;have H:=cM d;have p:aP (aG L a) a c=L.set a c:=by
  apply List.ext_getElem?;intro e;rw [iE _ _ oM,zBm];by_cases f:e < a
  · rw [zBx f,zBw oM,dQ d,zBx f]
  · rw [zBw f];by_cases g:e=a
    · subst g;rw [zBx rfl,zBx rfl,zBx d]
    · rw [zBw g,zBw (fun b=>g b.symm),dQ d,zBw oM,show e - 1+1=e by omega]
 obtain ⟨s,v,x⟩:=hqq3 m j p;clear m j p;go_enter func140,ntmps140;go_wp2_with fail;refine (fX s.out v.out o y).mono ?_;rintro b w1 ⟨rfl,I,n,k⟩;obtain ⟨t,q⟩:=hqq2 n k;clear n k;go_wp2_with fail;refine (fW a t.out z oM (oI o) oM).mono ?_;rintro b J ⟨rfl,A,i,l⟩;rw [x.out] at i;obtain ⟨u,r⟩:=hqq2 i (q.out.trans l);clear i l;go_wp2_with fail;go_end0;exact ⟨rfl,A,u.out,r.out⟩
def mM {B gk:Nat} {own:Nat->Nat} {L T:List Nat} {k:Nat} {w:World} (b:WalkE w B own gk L T) (U:k < 257) (M:T.length<=1000):
 Calls prog 142 #[gk,(k:Int),.int .i64 1] w fun d w'=>d=.returned (.tuple #[])/\WalkE w' B own gk L (T++ [k])/\Grew w w' own own:=by
 have N:=b.bnd;obtain ⟨m,e,f,K,n,l,o⟩:=b;have Y:w.cell? ⟨gk,1,none⟩=some (.pointer (some e)):=(f.cell 1).trans rfl;have Z:=f.lt;have O:gk≠e:=Bk.ne f l dC;obtain ⟨v,x,g⟩:=hqq3 f n l;clear f n l;go_enter func142,ntmps142;go_wp2_with fail;refine (rR g.out U M).mono ?_;rintro d w1 ⟨rfl,t,c⟩;have q:=c.bk v.out O;have u:WaveE w1 B own m L:=by
  obtain ⟨A,X,b⟩:=x.out;refine ⟨A,X,c.bk b.blk (Bk.ne b.blk g.out dC),b.base,fun V Q=>?_,fun a i=>⟨(b.bnd a i).1,zAl (b.bnd a i).2 c.size⟩⟩;obtain ⟨G,H,I,J⟩:=b.rows V Q;exact ⟨G,aA H fun a D _ j=>c.bk j (Bk.ne j g.out dC),I,fun W S=>(J W S).keep c fun a a0 D s j _ d=>by
   have E:a=e:=d;subst E;rw [(aL j g.out).1] at s;exact absurd s dC⟩
 have p:WalkE w1 B own gk L (T++ [k]):=⟨m,e,q,K,u,t,o⟩;have r:Grew w w1 own own:=Grew.of_vb (B:=B) (c.mono fun a _ d=>by left;rw [show a=e from d,o]) fun a i=>(N a i).2;obtain ⟨y,z⟩:=hqq2 p r;clear t c q u p r;go_wp2_with fail;go_end0;exact ⟨rfl,y.out,z.out⟩
def lI {B gk:Nat} {own:Nat->Nat} {L T k:List Nat} {m:Nat} {w:World} (b:WalkE w B own gk L T) (r:T.Perm (m::k)) (X:m < 257) (Q:T.length<=1000):
 Calls prog 142 #[gk,(m:Int),.int .i64 (-1)] w fun d w'=>d=.returned (.tuple #[])/\WalkE w' B own gk L k/\Grew w w' own own:=by
 have S:=b.bnd;obtain ⟨n,e,f,O,o,l,p⟩:=b;have a1:w.cell? ⟨gk,1,none⟩=some (.pointer (some e)):=(f.cell 1).trans rfl;have a2:=f.lt;have U:gk≠e:=Bk.ne f l dC;obtain ⟨y,z,g,E⟩:=hqq4 f o l r;clear f o l r;go_enter func142,ntmps142;go_wp2_with fail;refine (aBp E.out g.out X Q).mono ?_;rintro d w1 ⟨rfl,v,c⟩;have s:=c.bk y.out U;have x:WaveE w1 B own n L:=by
  obtain ⟨H,a0,b⟩:=z.out;refine ⟨H,a0,c.bk b.blk (Bk.ne b.blk g.out dC),b.base,fun Y V=>?_,fun a i=>⟨(b.bnd a i).1,zAl (b.bnd a i).2 c.size⟩⟩;obtain ⟨G,K,M,N⟩:=b.rows Y V;exact ⟨G,aA K fun a I _ j=>c.bk j (Bk.ne j g.out dC),M,fun Z W=>(N Z W).keep c fun a a3 I u j _ d=>by
   have J:a=e:=d;subst J;rw [(aL j g.out).1] at u;exact absurd u dC⟩
 have q:WalkE w1 B own gk L k:=⟨n,e,s,O,x,v,p⟩;have t:Grew w w1 own own:=Grew.of_vb (B:=B) (c.mono fun a _ d=>by left;rw [show a=e from d,p]) fun a i=>(S a i).2;obtain ⟨A,D⟩:=hqq2 q t;clear v c s x q t;go_wp2_with fail;go_end0;exact ⟨rfl,A.out,D.out⟩
structure PermX (w:World) (F:Nat->Prop) (gp ga:Nat) (vl vo vt vf:Value) (R P:Nat) (ks:List Nat) (C:List (Nat×Nat)) (tk:List Bool) (fr:List Nat):Prop where
 at_:PermAt w 0 gp ga vl vo vt vf R P ks C tk fr
 fp:F gp
 fa:F ga
 fl:OwnF F vl
 fo:OwnF F vo
 ft:OwnF F vt
 ff:OwnF F vf
 nd:ks.Nodup
 tkl:tk.length=C.length
 tkk:∀k,tk[k]?=some true↔k∈ks
 frn:fr.Nodup
 frk:∀k,k∈fr↔tk[k]?=some false
 sz:C.length<=1000
def PermE (w:World) (F:Nat->Prop) (gp R P:Nat) (pr:List (Nat×Nat)):Prop:=
 (∃ga vl vo vt vf ks C tk fr,PermX w F gp ga vl vo vt vf R P ks C tk fr/\pr=ks.map fun a=>(aC C a,aJ C a))/\pr.Pairwise (fun c d=>c.1 < d.1)/\∀b∈pr,b.1 < R/\b.2 < P
def PermAt.vis2 {w w':World} {B gp ga:Nat} {vl vo vt vf:Value} {R P:Nat} {ks:List Nat} {C:List (Nat×Nat)} {tk:List Bool} {fr:List Nat} (a:PermAt w B gp ga vl vo vt vf R P ks C tk fr) (b:Vis w w'):PermAt w' B gp ga vl vo vt vf R P ks C tk fr:=
 ⟨b.bk a.blk dC dC,b.own a.lrow dC dC,b.own a.orow dC dC,b.bk a.ar dC dC,b.own a.trow dC dC,b.own a.frow dC dC,a.apart,a.lt,a.lo⟩
section
variable {w w' : World} {F G : Nat -> Prop} {gp R P : Nat} {pr : List (Nat × Nat)}
def PermE.vis (c:PermE w F gp R P pr) (f:Vis w w'):PermE w' F gp R P pr:=by
 obtain ⟨⟨ga,vl,vo,vt,vf,ks,C,tk,fr,a,b⟩,d,e⟩:=c;exact ⟨⟨ga,vl,vo,vt,vf,ks,C,tk,fr,⟨a.at_.vis2 f,a.fp,a.fa,a.fl,a.fo,a.ft,a.ff,a.nd,a.tkl,a.tkk,a.frn,a.frk,a.sz⟩,b⟩,d,e⟩
def PermE.mono (g:PermE w F gp R P pr) (e:∀a,a < w.heap.size->F a->G a):PermE w G gp R P pr:=by
 obtain ⟨⟨ga,vl,vo,vt,vf,ks,C,tk,fr,b,f⟩,i,j⟩:=g;have d:=b.at_;exact ⟨⟨ga,vl,vo,vt,vf,ks,C,tk,fr,⟨d,e _ d.blk.lt b.fp,e _ d.ar.lt b.fa,fun a c=>e a (d.lrow.lt a c).2 (b.fl a c),fun a c=>e a (d.orow.lt a c).2 (b.fo a c),fun a c=>e a (d.trow.lt a c).2 (b.ft a c),fun a c=>e a (d.frow.lt a c).2 (b.ff a c),b.nd,b.tkl,b.tkk,b.frn,b.frk,b.sz⟩,f⟩,i,j⟩
def PermE.keep (k:PermE w F gp R P pr) (g:Keep G w w') (f:∀b,F b->¬G b):PermE w' F gp R P pr:=by
 obtain ⟨⟨ga,vl,vo,vt,vf,ks,C,tk,fr,a,j⟩,l,m⟩:=k;have c:=a.at_;refine ⟨⟨ga,vl,vo,vt,vf,ks,C,tk,fr,⟨⟨g.bk c.blk (f _ a.fp),aA c.lrow fun b i d e=>g.bk e (f _ (a.fl b d)),aA c.orow fun b i d e=>g.bk e (f _ (a.fo b d)),g.bk c.ar (f _ a.fa),aA c.trow fun b i d e=>g.bk e (f _ (a.ft b d)),aA c.frow fun b i d e=>g.bk e (f _ (a.ff b d)),c.apart,c.lt,c.lo⟩,a.fp,a.fa,a.fl,a.fo,a.ft,a.ff,a.nd,a.tkl,a.tkk,a.frn,a.frk,a.sz⟩,j⟩,l,m⟩
def PermE.below (b:PermE w F gp R P pr) (c:Below w.heap.size w w'):PermE w' F gp R P pr:=b.keep (G:=fun _=>False) (Keep.of_below c) fun _ _ a=>a
end
def PermAt.set_rows {w:World} {B gp ga:Nat} {vl vo vt vf:Value} {R P:Nat} {ks:List Nat} {C:List (Nat×Nat)} {tk:List Bool} {fr:List Nat} (a:PermAt w B gp ga vl vo vt vf R P ks C tk fr) (e:Nat):PermAt (w.setCell ⟨gp,3,none⟩ (.int .i64 (e:Int))) B gp ga vl vo vt vf e P ks C tk fr:=by
 have d:Keep (fun c=>c=gp) w (w.setCell ⟨gp,3,none⟩ (.int .i64 (e:Int))):=Keep.setCell (F:=fun c=>c=gp) (Keep.refl _ _) (p:=⟨gp,3,none⟩) (.inl rfl) _;exact ⟨a.blk.set 3 _,aA a.lrow fun c f _ b=>d.bk b (Bk.ne b a.blk dC),aA a.orow fun c f _ b=>d.bk b (Bk.ne b a.blk dC),d.bk a.ar (Bk.ne a.ar a.blk dC),aA a.trow fun c f _ b=>d.bk b (Bk.ne b a.blk dC),aA a.frow fun c f _ b=>d.bk b (Bk.ne b a.blk dC),a.apart,a.lt,a.lo⟩
def PermAt.set_places {w:World} {B gp ga:Nat} {vl vo vt vf:Value} {R P:Nat} {ks:List Nat} {C:List (Nat×Nat)} {tk:List Bool} {fr:List Nat} (a:PermAt w B gp ga vl vo vt vf R P ks C tk fr) (e:Nat):PermAt (w.setCell ⟨gp,4,none⟩ (.int .i64 (e:Int))) B gp ga vl vo vt vf R e ks C tk fr:=by
 have d:Keep (fun c=>c=gp) w (w.setCell ⟨gp,4,none⟩ (.int .i64 (e:Int))):=Keep.setCell (F:=fun c=>c=gp) (Keep.refl _ _) (p:=⟨gp,4,none⟩) (.inl rfl) _;exact ⟨a.blk.set 4 _,aA a.lrow fun c f _ b=>d.bk b (Bk.ne b a.blk dC),aA a.orow fun c f _ b=>d.bk b (Bk.ne b a.blk dC),d.bk a.ar (Bk.ne a.ar a.blk dC),aA a.trow fun c f _ b=>d.bk b (Bk.ne b a.blk dC),aA a.frow fun c f _ b=>d.bk b (Bk.ne b a.blk dC),a.apart,a.lt,a.lo⟩
def aAT {ks:List Nat} {C b:List (Nat×Nat)} {f:Nat×Nat->Nat×Nat} (c:∀a,a∈ks->(aC b a,aJ b a)=f (aC C a,aJ C a)):(ks.map fun a=>(aC b a,aJ b a))=(ks.map fun a=>(aC C a,aJ C a)).map f:=by
 rw [zCh];exact List.map_congr_left fun a d=>c a d
def aKo {a b c:Nat} (d:a < b):inR a c < inR b c:=by
 unfold inR;split <;> split <;> omega
def gG:∀ {n:Nat} {ks:List Nat},ks.Nodup->(∀a∈ks,a < n)->ks.length<=n
 | 0,ks,_,hl=>by
   cases ks with
   | nil=>exact zAs _
   | cons a ks=>exact absurd (hl a (by simp)) oM
 | n+1,ks,h,hl=>by
   have c:=gG (n:=n) (h.erase n) fun a e=>by have d:=(h.mem_erase_iff).1 e;have:=hl a d.2;omega
   by_cases b:n∈ks;have:=List.length_erase_of_mem b;omega;rw [List.erase_of_not_mem b] at c;omega
def yU {F:Nat->Prop} {gp R P b:Nat} {pr:List (Nat×Nat)} {w:World} (X:PermE w F gp R P pr) (ae:b<=R) (ab:R<=100000) (aa:P<=100000):
 Calls prog 152 #[gp,(b:Int)] w fun g w'=>g=.returned (.int .i64 0)/\PermE w' F gp (R+1) P (pr.map fun d=>(inR d.1 b,d.2))/\Keep F w w':=by
 obtain ⟨⟨ga,vl,vo,vt,vf,ks,C,tk,fr,i,rfl⟩,K,A⟩:=X;have l:=i.at_;have W:w.cell? ⟨gp,3,none⟩=some (.int .i64 (R:Int)):=(l.blk.cell 3).trans rfl;have a5:=l.blk.frozen 3;have Z:=l.blk.lt;have ah:¬((b:Int) > (R:Int)):=oM;have ag:¬R < b:=oM;have af:decide ((b:Int) < 0)=false:=by simp
 have a4:wrap64 ((R:Int)+1)=((R+1:Nat):Int):=by rw [dK oM oM];rfl
 obtain ⟨a,V,o⟩:=hqq3 i K A;clear i l K A;go_enter func152,ntmps152;go_wp2_with fail;go_quiet (fail)
 rename_i nq
 have a2:∀N,((w.alloc (.cells #[(b:Int)] 3)).drewN N).cell? ⟨gp,3,none⟩=some (.int .i64 (R:Int)):=fun N=>(World.cell?_alloc_lt w _ ⟨gp,3,none⟩ Z).trans W;have ad:∀(r:Fn) (first q:Array Value) (w:World),(Instr.makeFunc r first q).run prog w=.ok (.func r first q) w:=fun _ _ _ _=>rfl;go_wp2_with fail;have z:=a.out.at_.below (bR.alloc nL (.cells #[(b:Int)] 3));have v:PermAt ((w.alloc (.cells #[(b:Int)] 3)).drewN nq) 0 gp ga vl vo vt vf R P ks C tk fr:=z.below (below_drewN bR _);have x:=v.set_rows (R+1);have E:Bk ((w.alloc (.cells #[(b:Int)] 3)).drewN nq) w.heap.size 3 #[(b:Int)]:=Bk.new w _ _;have H:=E.far (p:=⟨gp,3,none⟩) (fun g=>by have a3:w.heap.size=gp:=g;omega) (.int .i64 ((R+1:Nat):Int));have M:∀e,vl.ownBlock=some e->e≠w.heap.size:=fun e m g=>by have:=(a.out.at_.lrow.lt e m).2;omega
 have t:∀c,c∈ks->aC C c<=1000000000000/\aJ C c<=1000000000000:=fun c a0=>by have:=o.out (aC C c,aJ C c) (zAy.2 ⟨c,a0,rfl⟩);have a6:aC C c < R:=this.1;have a7:aJ C c < P:=this.2;omega
 have ac:=gG a.out.nd a.out.at_.lt;refine (zC x a.out.nd (by have:=a.out.sz;omega) H M t).mono ?_;rintro g O ⟨rfl,I,Q,n,D,y⟩;have J:Keep F w O:=(Keep.setCell (F:=F) (((Keep.refl _ _).alloc _).drewN _) (p:=⟨gp,3,none⟩) (.inl a.out.fp) _).trans (I.mono fun e _ m=>a.out.fl e m);have u:PermE O F gp (R+1) P ((ks.map fun c=>(aC C c,aJ C c)).map fun d=>(inR d.1 b,d.2)):=by
  refine ⟨⟨ga,vl,vo,vt,vf,ks,Q,tk,fr,⟨y,a.out.fp,a.out.fa,a.out.fl,a.out.fo,a.out.ft,a.out.ff,a.out.nd,by rw [n];exact a.out.tkl,a.out.tkk,a.out.frn,a.out.frk,by rw [n];exact a.out.sz⟩,(aAT (f:=fun d=>(inR d.1 b,d.2)) D).symm⟩,?_,fun d i=>?_⟩;exact List.pairwise_map.2 (V.out.imp fun {k e} Y=>aKo Y)
  · obtain ⟨j,a1,rfl⟩:=zAy.1 i;have:=o.out j a1;have s:∀k,inR k b<=k+1:=fun k=>by unfold inR;split <;> omega
    have a9:=s j.1;have a8:=s j.2;constructor;show inR j.1 b < _;omega;show j.2 < _;omega
 obtain ⟨S,U⟩:=hqq2 u J;clear J u y D I n t M H E x v z;go_wp2_with fail;go_ret;exact ⟨rfl,S.out,U.out⟩
def yW {F:Nat->Prop} {gp R P:Nat} (b:Nat) {pr:List (Nat×Nat)} {w:World} (X:PermE w F gp R P pr) (ae:b<=P) (ab:R<=100000) (aa:P<=100000):
 Calls prog 153 #[gp,(b:Int)] w fun g w'=>g=.returned (.int .i64 0)/\PermE w' F gp R (P+1) (pr.map fun d=>(d.1,inR d.2 b))/\Keep F w w':=by
 obtain ⟨⟨ga,vl,vo,vt,vf,ks,C,tk,fr,i,rfl⟩,K,A⟩:=X;have l:=i.at_;have W:w.cell? ⟨gp,4,none⟩=some (.int .i64 (P:Int)):=(l.blk.cell 4).trans rfl;have a5:=l.blk.frozen 4;have Z:=l.blk.lt;have ah:¬((b:Int) > (P:Int)):=oM;have ag:¬P < b:=oM;have af:decide ((b:Int) < 0)=false:=by simp
 have a4:wrap64 ((P:Int)+1)=((P+1:Nat):Int):=by rw [dK oM oM];rfl
 obtain ⟨a,V,o⟩:=hqq3 i K A;clear i l K A;go_enter func153,ntmps153;go_wp2_with fail;go_quiet (fail)
 rename_i nq
 have a2:∀N,((w.alloc (.cells #[(b:Int)] 3)).drewN N).cell? ⟨gp,4,none⟩=some (.int .i64 (P:Int)):=fun N=>(World.cell?_alloc_lt w _ ⟨gp,4,none⟩ Z).trans W;have ad:∀(r:Fn) (first q:Array Value) (w:World),(Instr.makeFunc r first q).run prog w=.ok (.func r first q) w:=fun _ _ _ _=>rfl;go_wp2_with fail;have z:=a.out.at_.below (bR.alloc nL (.cells #[(b:Int)] 3));have v:PermAt ((w.alloc (.cells #[(b:Int)] 3)).drewN nq) 0 gp ga vl vo vt vf R P ks C tk fr:=z.below (below_drewN bR _);have x:=v.set_places (P+1);have E:Bk ((w.alloc (.cells #[(b:Int)] 3)).drewN nq) w.heap.size 3 #[(b:Int)]:=Bk.new w _ _;have H:=E.far (p:=⟨gp,4,none⟩) (fun g=>by have a3:w.heap.size=gp:=g;omega) (.int .i64 ((P+1:Nat):Int));have M:∀e,vl.ownBlock=some e->e≠w.heap.size:=fun e m g=>by have:=(a.out.at_.lrow.lt e m).2;omega
 have t:∀c,c∈ks->aC C c<=1000000000000/\aJ C c<=1000000000000:=fun c a0=>by have:=o.out (aC C c,aJ C c) (zAy.2 ⟨c,a0,rfl⟩);have a6:aC C c < R:=this.1;have a7:aJ C c < P:=this.2;omega
 have ac:=gG a.out.nd a.out.at_.lt;refine (zD x a.out.nd (by have:=a.out.sz;omega) H M t).mono ?_;rintro g O ⟨rfl,I,Q,n,D,y⟩;have J:Keep F w O:=(Keep.setCell (F:=F) (((Keep.refl _ _).alloc _).drewN _) (p:=⟨gp,4,none⟩) (.inl a.out.fp) _).trans (I.mono fun e _ m=>a.out.fl e m);have u:PermE O F gp R (P+1) ((ks.map fun c=>(aC C c,aJ C c)).map fun d=>(d.1,inR d.2 b)):=by
  refine ⟨⟨ga,vl,vo,vt,vf,ks,Q,tk,fr,⟨y,a.out.fp,a.out.fa,a.out.fl,a.out.fo,a.out.ft,a.out.ff,a.out.nd,by rw [n];exact a.out.tkl,a.out.tkk,a.out.frn,a.out.frk,by rw [n];exact a.out.sz⟩,(aAT (f:=fun d=>(d.1,inR d.2 b)) D).symm⟩,?_,fun d i=>?_⟩;exact List.pairwise_map.2 (V.out.imp fun {k e} Y=>Y)
  · obtain ⟨j,a1,rfl⟩:=zAy.1 i;have:=o.out j a1;have s:∀k,inR k b<=k+1:=fun k=>by unfold inR;split <;> omega
    have a9:=s j.1;have a8:=s j.2;constructor;show j.1 < _;omega;show inR j.2 b < _;omega
 obtain ⟨S,U⟩:=hqq2 u J;clear J u y D I n t M H E x v z;go_wp2_with fail;go_ret;exact ⟨rfl,S.out,U.out⟩
end
section
open Go.RowKit Go.Shelf
def oR:∀ {l m:List Nat},l.Nodup->(∀a∈l,a∈m)->l.length<=m.length
 | [],m,_,_=>zAp _
 | a::l,m,hn,hs=>by
   obtain ⟨f,g⟩:=List.nodup_cons.1 hn;have b:=hs a (by simp);have:=oR (l:=l) (m:=m.erase a) g fun d c=>by have i:d≠a:=fun e=>f (by rw [<-e];exact c);exact (List.mem_erase_of_ne i).2 (hs d (by simp [c]))
   have j:=List.length_erase_of_mem b;have k:=List.length_pos_of_mem b;rw [zCg];omega
def aD5 {a:List Nat} {f:Nat->Nat} (k:a.Pairwise (fun g i=>f g < f i)) (e:Nat) (p:∀b∈a,f b≠f e):(aP a (a.countP fun b=>decide (f b < f e)) e).Pairwise (fun g i=>f g < f i):=by
 unfold aP;have m:=fun (d b:Nat) (j:a[d]?=some b)=>aEk k (f e) d b j;obtain ⟨c,o⟩:∃c,(a.countP fun b=>decide (f b < f e))=c:=⟨_,rfl⟩;rw [o] at m⊢;rw [List.pairwise_append];refine ⟨k.sublist (List.take_sublist c a),List.pairwise_cons.2 ⟨fun b l=>?_,k.sublist (List.drop_sublist c a)⟩,fun b l r n=>?_⟩;obtain ⟨d,j,rfl⟩:=List.getElem_of_mem l;rw [zAw] at j;rw [List.getElem_drop];have s:=m (c+d) a[c+d] (zAa oM);have t:=p a[c+d] (zBj oM);omega;have q:f b < f e:=(by obtain ⟨d,j,rfl⟩:=List.getElem_of_mem l;rw [zAj] at j;rw [List.getElem_take];exact (m d a[d] (zAa oM)).2 oM);rcases List.mem_cons.1 n with rfl | n;exact q;have:=List.pairwise_append.1 (show (a.take c++a.drop c).Pairwise (fun g i=>f g < f i) by rw [zAu];exact k);exact this.2.2 b l r n
def aCH (tk:List Bool) (a:Nat) (b:Bool):(tk++ [true])[a]?=some b↔tk[a]?=some b∨(a=tk.length/\b=true):=by
 by_cases e:a < tk.length;rw [zAn e];constructor;exact .inl;rintro (d |⟨d,_⟩);exact d;omega
 · rw [zAo oM,zBg (show tk.length<=a by omega)];by_cases c:a=tk.length
   · subst c;cases b <;> simp
   · rw [zBg (by simp;omega)];simp [c]
def AF (ga:Nat) (vt vf:Value) (a:Nat):Prop:=a=ga∨vt.ownBlock=some a∨vf.ownBlock=some a
section
variable {w : World} {F : Nat -> Prop} {gp ga : Nat} {vl vo vt vf : Value} {R P : Nat} {ks : List Nat} {C : List (Nat × Nat)} {tk : List Bool} {fr : List Nat}
def PermX.arena (k:PermX w F gp ga vl vo vt vf R P ks C tk fr):ArenaE w (AF ga vt vf) ga tk fr:=by
 have a:=k.at_;obtain ⟨d,g,i,_⟩:=aQ a.trow;obtain ⟨c,f,j,_⟩:=aQ a.frow;subst i j;exact ⟨.inl rfl,d,g,c,f,a.ar,cD a.trow (zAp _),cD a.frow (zAp _),fun e b=>.inr (.inl b),fun e b=>.inr (.inr b)⟩
def PermX.af (c:PermX w F gp ga vl vo vt vf R P ks C tk fr) {b:Nat} (a:AF ga vt vf b):F b:=by
 rcases a with rfl | a | a;exact c.fa;exact c.ft b a;exact c.ff b a
def PermX.af_lt (c:PermX w F gp ga vl vo vt vf R P ks C tk fr) {b:Nat} (a:AF ga vt vf b):b < w.heap.size:=by
 rcases a with rfl | a | a;exact c.at_.ar.lt;exact (c.at_.trow.lt b a).2;exact (c.at_.frow.lt b a).2
def PermX.gp_af (e:PermX w F gp ga vl vo vt vf R P ks C tk fr):¬AF ga vt vf gp:=by
 have a:=e.at_;rintro (b | b | b);exact Bk.ne a.blk a.ar dC b;obtain ⟨d,c⟩:=eI a.trow b;exact absurd (aL c a.blk).1 dC;obtain ⟨d,c⟩:=eI a.frow b;exact absurd (aL c a.blk).1 dC
def PermX.pair_af (i:PermX w F gp ga vl vo vt vf R P ks C tk fr) {e:Nat} {f:Array Value} (c:Bk w e 112 f):¬AF ga vt vf e:=by
 have b:=i.at_;rintro (a | a | a);exact Bk.ne c b.ar dC a;obtain ⟨g,d⟩:=eI b.trow a;exact absurd (aL d c).1 dC;obtain ⟨g,d⟩:=eI b.frow a;exact absurd (aL d c).1 dC
def PermX.ord_af (g:PermX w F gp ga vl vo vt vf R P ks C tk fr) {e:Nat} (c:vo.ownBlock=some e):¬AF ga vt vf e:=by
 have b:=g.at_;obtain ⟨j,f⟩:=eI b.orow c;rintro (a | a | a);exact Bk.ne f b.ar dC a;obtain ⟨k,i⟩:=eI b.trow a;exact absurd (aL f i).1 dC
 · rcases b.apart with d | d
   · rw [d] at c;cases c
   exact d (c.trans a.symm)
end
def aCT (ga b:Nat) (vt vf:Value) (ks:List Nat) (w:World) (d:Ending) (w':World):Prop:=
 ∃(c:Nat) (tk:List Bool) (fr:List Nat),d=.returned (.tuple #[(c:Int),.int .i64 0])/\c∉ks/\ArenaE w' (Gw (AF ga vt vf) w.heap.size) ga tk fr/\((c < b/\tk.length=b)∨(c=b/\tk.length=b+1/\b<=ks.length))/\(∀a,tk[a]?=some true↔a∈ks∨a=c)/\fr.Nodup/\(∀a,a∈fr↔tk[a]?=some false)/\Keep (AF ga vt vf) w w'
def aBw {F:Nat->Prop} {gp ga R P:Nat} {vl vo vt vf:Value} {ks:List Nat} {C:List (Nat×Nat)} {tk:List Bool} {fr:List Nat} {w:World} (b:PermX w F gp ga vl vo vt vf R P ks C tk fr):
 Calls prog 69 #[ga] w (aCT ga C.length vt vf ks w):=by
 have U:=b.arena;have i:=b.at_;have ad:=b.sz;have E:∀a∈fr,a < tk.length:=fun a g=>(zAc.1 ((b.frk a).1 g)).1;rcases List.eq_nil_or_concat fr with Z |⟨s,e,a0⟩
 · subst Z;obtain ⟨a8,ab,k,_⟩:=aQ i.trow;obtain ⟨z,A,r,_⟩:=aQ i.frow;have D:=i.ar;have y:=i.trow;rw [k,r] at D;rw [k] at y;have t:=rS 0 ga z A tk w D y (zAp _) (by have:=b.tkl;omega);refine t.mono ?_;rintro p w' ⟨rfl,n,ae,X,M,a2⟩;have a6:tk.length∉ks:=fun v=>by have:=(b.tkk _).2 v;rw [zBg nL] at this;cases this
   obtain ⟨N,O,q,_⟩:=aQ M;have a4:Keep (AF ga vt vf) w w':=n.mono fun j _ c=>by rcases c with c | c;exact .inl c;exact .inr (.inl (by rw [k];exact c))
   have H:w'.ownsRow 0 3 1 vf 0 []:=by
    have:=aA (w':=w') (cD i.frow (zAp _)) fun j a9 _ d=>n.bk d fun c=>by rcases c with c | c;exact Bk.ne d i.ar dC c;obtain ⟨aa,Y⟩:=eI y c;exact absurd (aL d Y).1 dC
    exact this
   rw [r] at H;have o:(tk++ [true]).length=tk.length+1:=(by simp);have x:=b.tkl;have W:C.length<=ks.length:=by
    have S:=oR (l:=List.range C.length) (m:=ks) List.nodup_range fun a g=>by
        rw [zCj,<-x] at g;cases d:tk[a] with
        | true=>exact (b.tkk a).1 (by rw [zAa g,d])
        | false=>exact absurd ((b.frk a).2 (by rw [zAa g,d])) (by simp)
    simpa using S
   refine ⟨tk.length,tk++ [true], [],rfl,a6,⟨.inl (.inl rfl),N,O,z,A,?_,?_,H,?_,?_⟩,.inr ⟨x,by rw [o,x],W⟩,fun a=>?_,List.nodup_nil,fun a=>?_,a4⟩;rw [o,<-q];exact X;rw [o,<-q];exact M;intro j d;rw [o,<-q] at d;rcases a2 with c |⟨ac,c,Q⟩;rw [c] at d;exact .inl (.inr (.inl (by rw [k];exact d)));rw [c] at d;injection d with d;subst d;exact .inr Q;intro j d;exact .inl (.inr (.inr (by rw [r];exact d)))
   · rw [<-b.tkk a,aCH];simp
   · rw [b.frk a,aCH];simp
 · have a1:fr=s++ [e]:=(by simpa using a0);subst a1;have n:=(b.frk e).1 (by simp);have u:=E e (by simp);have J:=b.frn;have a5:(s++ [e]).length<=tk.length:=gG J E;have t:=uD U u (by have:=b.tkl;omega) (by simp at a5;omega);refine t.mono ?_;rintro p w' ⟨rfl,V,a3⟩;have a7:e∉ks:=fun v=>by have:=(b.tkk e).2 v;rw [n] at this;cases this
   have K:=List.nodup_append.1 J;have I:∀a,(tk.set e true)[a]?=if a=e then some true else tk[a]?:=fun a=>by
    rw [zBm];by_cases f:e=a
    · subst f;simp [u]
    · rw [zBw f,zBw (fun p=>f p.symm)]
   refine ⟨e,tk.set e true,s,rfl,a7,V.mono fun j _ c=>.inl c,.inl ⟨by rw [<-b.tkl];exact u,by rw [zAt,b.tkl]⟩,fun a=>?_,K.1,fun a=>?_,a3⟩
   · rw [I,<-b.tkk a];by_cases f:a=e
     · simp [f]
     · simp [f]
   · rw [I];by_cases f:a=e
     · subst f;rw [zBx rfl];constructor;intro g;exact absurd rfl (K.2.2 a g a (by simp))
       · intro g;cases g
     · rw [zBw f,<-b.frk a];simp [f]
def PermX.stow {w w':World} {F:Nat->Prop} {gp ga R P k row pos i n0:Nat} {vl' vo':Value} {ks:List Nat} {C C9:List (Nat×Nat)} {tk:List Bool} {fr:List Nat} {AFF:Nat->Prop}
 (W:∀a∈ks,a < C.length) (Y:ks.Nodup) (x:k∉ks) (u:k < C9.length) (I:C.length<=C9.length) (a3:C9.length<=1000) (a5:tk.length=C9.length)
 (S:∀a∈ks,(aC C9 a,aJ C9 a)=(aC C a,aJ C a)) (a1:ks.Pairwise (fun d b=>aC C d < aC C b)) (t:i=ks.countP fun a=>decide (aC C a < row)) (Z:∀a∈ks,aC C a≠row)
 (m:Bk w' gp 110 #[ga,vl',vo',.int .i64 (R:Int),(P:Int)])
 (X:w'.ownsRow 0 112 2 vl' C9.length (bG (C9.set k (row,pos)))) (a0:w'.ownsRow 0 3 1 vo' (ks.length+1) ((aP ks i k).map sv))
 (l:ArenaE w' AFF ga tk fr) (q:∀b,AFF b->F b) (Q:F ga) (U:F gp) (a7:OwnF F vl') (a8:OwnF F vo') (K:∀b,vo'.ownBlock=some b->¬AFF b)
 (a4:∀a,tk[a]?=some true↔a∈ks∨a=k) (O:fr.Nodup) (N:∀a,a∈fr↔tk[a]?=some false):
 ∃vt vf,PermX w' F gp ga vl' vo' vt vf R P (aP ks i k) (C9.set k (row,pos)) tk fr/\((aP ks i k).map fun a=>(aC (C9.set k (row,pos)) a,aJ (C9.set k (row,pos)) a))=aP (ks.map fun a=>(aC C a,aJ C a)) i (row,pos)/\(aP ks i k).Pairwise (fun d b=>aC (C9.set k (row,pos)) d < aC (C9.set k (row,pos)) b):=by
 obtain ⟨ad,aa,ac,a9,ab,A,D,E,H,p⟩:=l;have V:i<=ks.length:=by rw [t];exact zBh
 have r:∀a,(aC (C9.set k (row,pos)) a,aJ (C9.set k (row,pos)) a)=if a=k then (row,pos) else (aC C9 a,aJ C9 a):=fun a=>by
  unfold aC aJ;rw [zAb,zBm];by_cases j:k=a;subst j;rw [zBx rfl,zBx rfl,zBx u];rfl
  · rw [zBw j,zBw (fun e=>j e.symm),zAb]
 have s:∀a∈ks,(aC (C9.set k (row,pos)) a,aJ (C9.set k (row,pos)) a)=(aC C a,aJ C a):=fun a c=>by rw [r,zBw (fun e=>x (by rw [<-e];exact c)),S a c]
 have o:=r k;rw [zBx rfl] at o;have y:(aP ks i k).Perm (k::ks):=eO _ _ _;have v:∀a,a∈aP ks i k↔a=k∨a∈ks:=fun a=>by rw [y.mem_iff,List.mem_cons]
 refine ⟨_,_,⟨⟨m,by rw [zAt];exact X,by rw [fJ _ _ V];exact a0,A,D,E,?_,fun a c=>?_,⟨zAp _,zAp _⟩⟩,U,Q,a7,a8,fun b n=>q b (H b n),fun b n=>q b (p b n),y.nodup_iff.2 (List.nodup_cons.2 ⟨x,Y⟩),by rw [zAt];exact a5,fun a=>by rw [a4 a,v a];exact Or.comm,O,N,by rw [zAt];exact a3⟩,?_,?_⟩
 · cases a6:vo'.ownBlock with
   | none=>exact .inl rfl
   | some b=>exact .inr fun e=>K b a6 (p b e.symm)
 rw [zAt];rcases (v a).1 c with rfl | c;exact u;exact zAl (W a c) I;rw [mZ,o];congr 1;exact List.map_congr_left fun a c=>s a c
 · have g:∀a∈ks,aC (C9.set k (row,pos)) a=aC C a:=fun a c=>(Prod.mk.inj (s a c)).1;have z:aC (C9.set k (row,pos)) k=row:=(Prod.mk.inj o).1;have a2:ks.Pairwise (fun d b=>aC (C9.set k (row,pos)) d < aC (C9.set k (row,pos)) b):=(by refine List.Pairwise.imp_of_mem (fun {d b} l m J=>?_) a1;rw [g d l,g b m];exact J);have:=aD5 (f:=aC (C9.set k (row,pos))) a2 k fun a c=>by rw [g a c,z];exact Z a c
   have M:(ks.countP fun a=>decide (aC (C9.set k (row,pos)) a < aC (C9.set k (row,pos)) k))=i:=(by rw [t,z];refine List.countP_congr fun a c=>?_;rw [g a c]);rw [M] at this;exact this
def vQ (w:World) (gp:Nat):Nat:=match w.cell? ⟨gp,1,none⟩ with
 | some (.slice _ a _)=>a
 | _=>0
structure AddL (F:Nat->Prop) (gp ga R P k:Nat) (vo:Value) (ks:List Nat) (C:List (Nat×Nat)) (tk:List Bool) (fr9:List Nat) (AFF:Nat->Prop) (n3:Nat) (w2 wr:World) (A9:Option Addr) (M c9:Nat) (C9:List (Nat×Nat)):Prop where
 blk:Bk wr gp 110 #[ga,.slice A9 M c9,vo,(R:Int),(P:Int)]
 own:wr.ownsRow 0 112 2 (.slice A9 M c9) M (bG C9)
 len:C9.length=M
 lo:C.length<=M
 hi:M<=max C.length (k+1)
 get:∀x∈ks,(aC C9 x,aJ C9 x)=(aC C x,aJ C x)
 ord:wr.ownsRow 0 3 1 vo ks.length (ks.map sv)
 ar:ArenaE wr AFF ga tk fr9
 keep:Keep F w2 wr
 fl:OwnF (Gw F w2.heap.size) (.slice A9 M c9)
 k3:n3<=wr.heap.size
def aBE {F:Nat->Prop} {gp R P row u:Nat} {pr:List (Nat×Nat)} {w:World} (cJ:PermE w F gp R P pr) (d0:row < R) (cZ:u < P) (c0:∀M∈pr,M.1≠row) (bY:∀M∈pr,M.2≠u) (bV:pr.length<=900):
 Calls prog 34 #[gp,(row:Int),(u:Int)] w fun e w'=>e=.returned (.int .i64 0)/\(∃cd,cd.Perm ((row,u)::pr)/\PermE w' (Gw F w.heap.size) gp R P cd)/\Keep F w w':=by
 obtain ⟨⟨ga,vl,vo,vt,vf,ks,C,tk,fr,y,rfl⟩,c6,bH⟩:=cJ;obtain ⟨d6,cT,d3,d4,d5⟩:=info_parts sY;have Y:=y.at_;have c5:=List.pairwise_map.1 c6;have b7:ks.Pairwise (fun Y a=>aC C Y < aC C a):=c5;have b5:∀d∈ks,aC C d≠row:=fun d z=>c0 _ (zAy.2 ⟨d,z,rfl⟩);have bZ:∀d∈ks,aJ C d≠u:=fun d z=>bY _ (zAy.2 ⟨d,z,rfl⟩);have bI:∀d∈ks,aC C d < R/\aJ C d < P:=fun d z=>bH _ (zAy.2 ⟨d,z,rfl⟩);have cU:ks.length<=900:=by simpa using bV
 obtain ⟨U,an⟩:∃U,(ks.countP fun d=>decide (aC C d < row))=U:=⟨_,rfl⟩;have bO:U<=ks.length:=by rw [<-an];exact zBh
 have bM:decide (∃d∈ks,aC C d=row)=false:=by rw [decide_eq_false_iff_not];rintro ⟨d,z,e⟩;exact b5 d z e
 have bN:iK (fun d=>decide (aJ C d=u)) ks 0=-1:=jY (fun d z=>by simpa using bZ d z) 0;have aU:=jK (B:=0) (gp:=gp) (ga:=ga) (vl:=vl) (vo:=vo) (vt:=vt) (vf:=vf) (R:=R) (P:=P) (ks:=ks) (C:=C) (tk:=tk) (fr:=fr) (w:=w) row Y b7 oM;rw [an,bM] at aU;have b2:=fun cz cP=>iI (B:=0) (gp:=gp) (ga:=ga) (vl:=vl) (vo:=vo) (vt:=vt) (vf:=vf) (R:=R) (P:=P) (ks:=ks) (C:=C) (tk:=tk) (fr:=fr) (w:=cz) u cP oM;simp only [bN] at b2;have cB:w.cell? ⟨gp,3,none⟩=some (.int .i64 (R:Int)):=(Y.blk.cell 3).trans rfl;have cD:w.cell? ⟨gp,4,none⟩=some (.int .i64 (P:Int)):=(Y.blk.cell 4).trans rfl;obtain ⟨K,b4⟩:=eqx ks.length;obtain ⟨X,aO⟩:=eqx C.length;have dp:K<=900:=oM;have di:X<=1000:=by rw [<-aO];exact y.sz
 obtain ⟨bs,aB,cw,cs,ck,cn,O,H⟩:=hqq8 b2 y b7 b5 bI an b4 aO;rw [b4] at bO;clear c5 bM bN b2 c6 bH c0 bY b5 bZ bI y Y b7 an bV cU b4 aO;go_enter func34,ntmps34;go_wp2_with fail;refine aU.mono ?_;clear aU;rintro e w1 ⟨rfl,aW⟩;have aj:=aB.out.at_.below aW;obtain ⟨az,aD⟩:=hqq2 aj aW;clear aj aW cB cD;go_wp2_with fail;refine (bs.out w1 az.out).mono ?_;rintro e r ⟨rfl,aX⟩;have bF:=aD.out.trans (aX.mono aD.out.size);have bh:PermX r F gp ga vl vo vt vf R P ks C tk fr:= { aB.out with at_:=az.out.below aX };have cA:r.cell? gp=some (.pointer (some ga)):=(bh.at_.blk.cell 0).trans rfl;obtain ⟨m,bo⟩:=hqq2 bh bF;clear bh bF aX az aD bs aB;go_wp2_with fail;have aP:=aBw (F:=F) (gp:=gp) (ga:=ga) (R:=R) (P:=P) (vl:=vl) (vo:=vo) (vt:=vt) (vf:=vf) (ks:=ks) (C:=C) (tk:=tk) (fr:=fr) (w:=r) m.out;unfold aCT at aP;refine aP.mono ?_;clear aP;rintro e v ⟨d,ac,a5,rfl,bX,bB,bJ,c7,bL,bK,a1⟩;have a8:=a1.bk m.out.at_.blk m.out.gp_af;have au:=aA (w':=v) m.out.at_.lrow fun a f _ b=>a1.bk b (m.out.pair_af b);have av:=aA (w':=v) m.out.at_.orow fun a f b z=>a1.bk z (m.out.ord_af b);obtain ⟨ay,aG,c8,_⟩:=aQ au;obtain ⟨ad,ai,S,_⟩:=aQ av;have bc:vl=.slice ay X aG:=by rw [c8,H.out]
 have ca:vo=.slice ad K ai:=by rw [S,O.out]
 rw [H.out] at au;rw [O.out] at av;have Z:v.cell? ⟨gp,1,none⟩=some (.slice ay X aG):=(a8.cell 1).trans (by rw [bc];rfl);have aK:=a8.frozen 1;have cR:=a8.lt;have dn:d<=X:=by have:=H.out;omega
 have bS:Keep F r v:=a1.mono fun a _ j=>m.out.af j;obtain ⟨co,bu⟩:=hqq2 a1 bS;have bl:=lhd (bB.mono (G:=fun a=>Gw (AF ga vt vf) r.heap.size a/\a < v.heap.size) fun a b j=>⟨j,b⟩);obtain ⟨bp,bq,bw,bx,aE,dc,cr,cx,cm⟩:=hqq9 bJ a8 au av bc ca bX c7 bL;have cl:=lhd bK;have bA:=(World.cell?_alloc_lt v (Obj.cells #[.int .i64 0,.int .i64 0] 112) ⟨gp,1,none⟩ cR).trans Z;clear a1 bS bB bJ a8 au av c8 S bc ca bX c7 bL bK cA;have bQ:AddL F gp ga R P d vo ks C ac a5 (fun a=>Gw (AF ga vt vf) r.heap.size a/\a < v.heap.size) v.heap.size r v ay X aG C:=
  ⟨by have:=bq.out;rwa [aE.out] at this,by have:=bw.out;rwa [aE.out] at this,H.out,by rw [H.out];exact zAs _,by have:=H.out;omega,fun M _=>rfl,by rw [O.out];exact bx.out,bl.out,bu.out,fun a b=>.inl (m.out.fl a (by rw [aE.out];exact b)),zAs _⟩
 have bt:=lhd bQ;clear bQ Z aK bA;go_wp2_with fail;go_loopw [] (fun wr=>∃J g D x,AddL F gp ga R P d vo ks C ac a5 (fun a=>Gw (AF ga vt vf) r.heap.size a/\a < v.heap.size) v.heap.size r wr J g D x) (fun wr=>d+1 - vQ wr gp)
 case atStart=>exact ⟨_,_,_,_,bt.out⟩
 case round=>
  obtain ⟨J,g,D,x,t⟩:=hrel;clear bt bq bw bx bl bu co;have Z:wr.cell? ⟨gp,1,none⟩=some (.slice J g D):=(t.blk.cell 1).trans rfl;have aK:=t.blk.frozen 1;have cS:=t.blk.lt;have cL:=t.len;have cM:=t.lo;have cN:=t.hi;rw [H.out] at cM cN;by_cases bW:g<=d
  · have cV:decide (g<=d)=true:=zBz bW;have cW:(g:Int)<=(d:Int):=oM;obtain rfl:g=X:=oM;have bA:=(World.cell?_alloc_lt wr (Obj.cells #[.int .i64 0,.int .i64 0] 112) ⟨gp,1,none⟩ cS).trans Z;have c3:vQ wr gp=g:=(by unfold vQ;rw [Z]);obtain ⟨o,cu⟩:=hqq2 t c3;clear t c3;go_wp2_with (at_builtin;refine bP _ rfl (.tmp 72) (.tmp 74) _ rfl 0 112 d6 (.agg #[.int .i64 0,.int .i64 0]) 2 16 underlying86 cT d3 d4 d5 rfl dC (.slice J g D) g _ rfl o.out.own rfl rfl (by simp [Value.oneCell']) (by unfold maxLen;omega) oM (zAp _) ?_;intro dw I b6 aZ ds bE;have ak:=o.out.blk.grown aZ (aS o.out.own o.out.blk dC);have de:I.cell? ⟨gp,1,none⟩=some (.slice J g D):=(ak.cell 1).trans rfl;have dg:=ak.frozen 1;obtain ⟨N,Q,rfl,cX⟩:=aR b6;obtain ⟨ae,bv,W,bm⟩:=hqq4 ak b6 aZ bE;clear cX b6 aZ bE ak);have aa:Keep (fun a=>(Value.slice J g D).ownBlock=some a) wr I:=⟨W.out.os,W.out.tape,W.out.output,W.out.size,fun a b aq=>W.out.block a b fun e=>aq e.symm⟩
    have aN:AddL F gp ga R P d vo ks C ac a5 (fun a=>Gw (AF ga vt vf) r.heap.size a/\a < v.heap.size) v.heap.size r (I.setCell ⟨gp,1,none⟩ (.slice N (g+1) Q)) N (g+1) Q (x++ [(0,0)]):=by
        have L:=o.out;have a0:∀a l f,l≠110->Bk I a l f->Bk (I.setCell ⟨gp,1,none⟩ (.slice N (g+1) Q)) a l f:=fun a l f q b=>b.far (p:=⟨gp,1,none⟩) (Bk.ne b ae.out q) _;have dq:∀a,(Value.slice J g D).ownBlock=some a->Gw F r.heap.size a:=fun a b=>L.fl a b;have aq:∀a l f,l≠112->Bk wr a l f->¬((Value.slice J g D).ownBlock=some a):=fun a l f q b e=>by obtain ⟨cE,aY⟩:=eI L.own e;exact q (aL b aY).1
        refine ⟨ae.out.set 1 _,?_,by rw [zAi,L.len];rfl,by have:=L.lo;omega,by omega,fun M y=>?_,?_,?_,?_,?_,?_⟩;rw [jT];exact aA bv.out fun a f _ b=>a0 _ _ _ dC b
        · rw [<-L.get M y];have du:=m.out.at_.lt M y;unfold aC aJ;rw [zAb,zAb,zAn (by have:=L.lo;have:=L.len;omega)]
        exact aA L.ord fun a f _ b=>a0 _ _ _ dC (aa.bk b (aq _ _ _ dC b));refine (L.ar.keep aa fun a l f q b _=>aq a l f (fun e=>by subst e;revert q;decide) b).keep (G:=fun a=>a=gp) (Keep.setCell (F:=fun a=>a=gp) (Keep.refl _ _) (p:=⟨gp,1,none⟩) (.inl rfl) _) fun a l f q b _ e=>?_;have aI:a=gp:=e;subst aI;rw [(aL b ae.out).1] at q;revert q;decide;refine Keep.setCell (F:=F) (L.keep.trans' aa fun a b j=>?_) (p:=⟨gp,1,none⟩) (.inl m.out.fp) _;rcases L.fl a j with E | E;exact E;omega;intro a b;rcases bm.out with e | e;rw [e] at b;exact L.fl a b;rw [e] at b;injection b with b;subst b;exact .inr (by have:=L.keep.size;omega);have aj:=L.k3;have cK:=aa.size;have dh:(I.setCell ⟨gp,1,none⟩ (.slice N (g+1) Q)).heap.size=I.heap.size:=(by simp [World.setCell]);omega
    have c4:vQ (I.setCell ⟨gp,1,none⟩ (.slice N (g+1) Q)) gp=g+1:=(by have cF:(I.setCell ⟨gp,1,none⟩ (.slice N (g+1) Q)).cell? ⟨gp,1,none⟩=some (.slice N (g+1) Q):=(aN.blk.cell 1).trans rfl;unfold vQ;rw [cF]);obtain ⟨ch,cv⟩:=hqq2 aN c4;clear aN c4 aa ae bv W bm o;go_roundw
    case rel=>exact ⟨_,_,_,_,ch.out⟩
    case measure=>rw [cu.out,cv.out];omega
  · have cV:decide (g<=d)=false:=zBy bW;have cW:¬(g:Int)<=(d:Int):=oM;have ab:d < g:=oM;have dm:(d:Int) < (g:Int):=oM;obtain ⟨s,dv,b8,_,dj⟩:=World.ownsRow.form t.own oM;injection b8 with b8 _ hs9c;subst b8 hs9c;obtain ⟨dd,a7⟩:=gS t.own;have dl:gp≠s:=Bk.ne t.blk a7 dC;have da:=a7.frozen (d*2);have db:=a7.frozen (d*2+1);obtain ⟨bi,bj⟩:=cC x d (by rw [cL];exact ab);have cf:=(World.ownsRow.cellAt t.own (d*2) oM).trans bi;have cg:=(World.ownsRow.cellAt t.own (d*2+1) oM).trans bj;generalize aC x d=u0 at cf bi;generalize aJ x d=u1 at cg bj;obtain ⟨ad,ai,S,_⟩:=aQ t.ord;rw [O.out] at S;have aH:wr.cell? ⟨gp,2,none⟩=some (.slice ad K ai):=(t.blk.cell 2).trans (by rw [S];rfl);obtain ⟨o,cj,ag⟩:=hqq3 t a7 S;clear t a7 S bi bj;go_wp2_with fail;have bd:((wr.setCell ⟨s,d*2,none⟩ (.int .i64 (row:Int))).setCell ⟨s,d*2+1,none⟩ (.int .i64 (u:Int))).ownsRow 0 112 2 (.slice (some s) g D) g (bG (x.set d (row,u))):=(by have ce:=(World.ownsRow.stored o.out.own (d*2) (.int .i64 (row:Int))).1;rw [jU (C:=x) (k:=d) row (by rw [o.out.len];exact ab)] at ce;have aw:=(World.ownsRow.stored ce (d*2+1) (.int .i64 (u:Int))).1;rw [mV _ d u (by rw [zAt,o.out.len];exact ab)] at aw;rw [List.set_set] at aw;have cG:aC (x.set d (row,aJ x d)) d=row:=(by unfold aC;rw [zAb,List.getElem?_set_self (by rw [o.out.len];exact ab)];rfl);rw [cG] at aw;exact aw);have a3:Keep (fun a=>a=s) wr ((wr.setCell ⟨s,d*2,none⟩ (.int .i64 (row:Int))).setCell ⟨s,d*2+1,none⟩ (.int .i64 (u:Int))):=((Keep.refl (fun a=>a=s) wr).setCell (p:=⟨s,d*2,none⟩) (.inl rfl) _).setCell (p:=⟨s,d*2+1,none⟩) (.inl rfl) _;have ba:((wr.setCell ⟨s,d*2,none⟩ (.int .i64 (row:Int))).setCell ⟨s,d*2+1,none⟩ (.int .i64 (u:Int))).heap.size=wr.heap.size:=(by simp [World.setCell]);rw [<-ba];clear cf cg da db Z aH aK;generalize (wr.setCell ⟨s,d*2,none⟩ (.int .i64 (row:Int))).setCell ⟨s,d*2+1,none⟩ (.int .i64 (u:Int))=w7 at bd a3 ba⊢;have ap:∀a l f,l≠112->Bk wr a l f->¬(a=s):=fun a l f q b e=>by subst e;exact q (aL b cj.out).1
    have b1:=a3.bk o.out.blk (ap _ _ _ dC o.out.blk);have bf:=aA (w':=w7) o.out.ord fun a f _ b=>a3.bk b (ap _ _ _ dC b);have bC:=o.out.ar.keep a3 fun a l f q b _=>ap a l f (fun e=>by subst e;revert q;decide) b;have bT:Keep F r w7:=o.out.keep.trans' a3 fun a b j=>by have cH:a=s:=j;rcases o.out.fl a (by rw [cH];rfl) with E | E;exact E;omega
    have a6:Below w7.heap.size w7 (w7.alloc (.cells #[(d:Int)] 3)):=bR.alloc nL _;have am:=Bk.new w7 3 #[(d:Int)];have a4:=aM bf a6;have be:=aM bd a6;have al:=b1.below a6 b1.lt;have aT:=bC.keep (G:=fun _=>False) (Keep.of_below a6) fun _ _ _ _ _ _ j=>j;have ao:Keep F r (w7.alloc (.cells #[(d:Int)] 3)):=bT.alloc _;obtain ⟨cI,b0⟩:=eqx w7.heap.size;rw [b0] at am;rw [b0];have cc:∀a,vo.ownBlock=some a->a < w7.heap.size:=fun a b=>(bf.lt a b).2;rw [O.out,ag.out] at a4;have bg:wr.heap.size<=(w7.alloc (.cells #[(d:Int)] 3)).heap.size:=(by simp;omega);have bz:=lhd bg;clear bg;generalize w7.alloc (.cells #[(d:Int)] 3)=w8 at bz am a4 be al aT ao⊢;have b3:=zA (B:=0) (A:=ad) (n:=K) (c:=ai) (i:=U) (ks:=ks) (gx:=cI) (k:=d) (w:=w8) a4 am (fun a b e=>by have:=cc a (by rw [ag.out];exact b);omega) (zAp _) bO oM;unfold sI at b3;refine b3.mono ?_;clear b3;rintro e V ⟨ax,aF,rfl,c1,a2,aV⟩;rw [<-ag.out] at a2 aV a4;have bb:∀a l f,l≠3->Bk w8 a l f->¬(vo.ownBlock=some a):=fun a l f q b e=>by obtain ⟨cE,aY⟩:=eI a4 e;exact q (aL b aY).1
    have a9:=a2.bk al (bb _ _ _ dC al);have c9:=aA (w':=V) be fun a f _ b=>a2.bk b (bb _ _ _ dC b);have cb:∀a,vo.ownBlock=some a->¬(Gw (AF ga vt vf) r.heap.size a/\a < v.heap.size):=fun a b j=>by rcases j.1 with j | j;exact m.out.ord_af b j;have:=(m.out.at_.orow.lt a b).2;omega
    have bD:=aT.keep a2 fun a l f _ _ j e=>cb a e j;have bU:Keep F r V:=ao.trans' a2 fun a _ j=>m.out.fo a j;have aH:V.cell? ⟨gp,2,none⟩=some vo:=(a9.cell 2).trans rfl;rw [ag.out] at aH;have df:=a9.frozen 2;have dk:=a9.lt;obtain ⟨br,cy,ci,cq,ct,bn,cp⟩:=hqq7 a9 c9 bD bU c1 aV ao;clear a9 c9 bD bU c1 aV ao a2 a4 be al aT am a6 bT bC bf b1 a3 bd ba b0 cc bb ap;go_wp2_with fail;go_ret;have b9:Keep (fun a=>a=gp) V (V.setCell ⟨gp,2,none⟩ (.slice ax (K+1) aF)):=Keep.setCell (F:=fun a=>a=gp) (Keep.refl _ _) (p:=⟨gp,2,none⟩) (.inl rfl) _;have a0:∀a l f,l≠110->Bk V a l f->¬(a=gp):=fun a l f q b e=>by subst e;exact q (aL b br.out).1
    have dr:=bo.out.size;have dt:=cp.out.size;have bg:=bz.out;have cO:g<=1000:=(by rcases bp.out with ah | ah;have:=H.out;omega;have:=H.out;have:=O.out;omega);have cY:∀a,Gw F r.heap.size a->Gw F w.heap.size a:=fun a j=>by rcases j with j | j;exact .inl j;exact .inr oM
    have L:=o.out
    obtain ⟨d8,d7,cQ,c2,d1⟩:=PermX.stow (w:=w) (w':=V.setCell ⟨gp,2,none⟩ (.slice ax (K+1) aF)) (F:=Gw F w.heap.size) (gp:=gp) (ga:=ga) (R:=R) (P:=P) (k:=d) (row:=row) (pos:=u) (i:=U) (n0:=0) (vl':=.slice (some s) g D) (vo':=.slice ax (K+1) aF) (ks:=ks) (C:=C) (C9:=x) (tk:=ac) (fr:=a5) (AFF:=fun a=>Gw (AF ga vt vf) r.heap.size a/\a < v.heap.size)
        m.out.at_.lt m.out.nd cr.out (by rw [L.len];exact ab) (by rw [L.len];exact L.lo) (by rw [L.len];exact cO) (by
         rw [L.len];rcases bp.out with ah | ah;have:=L.lo;have:=L.hi;omega
         · have:=L.lo;have:=L.hi;omega) L.get cw.out cn.out.symm cs.out (br.out.set 2 _)
        (by rw [L.len];exact aA cy.out fun a f _ b=>b9.bk b (a0 _ _ _ dC b))
        (by rw [O.out];exact aA ct.out fun a f _ b=>b9.bk b (a0 _ _ _ dC b))
        (ci.out.keep b9 fun a l f q b _=>a0 a l f (fun e=>by subst e;revert q;decide) b)
        (fun a j=>by
         rcases j.1 with E | E;exact .inl (m.out.af E)
         · exact .inr oM)
        (.inl m.out.fa) (.inl m.out.fp) (fun a b=>cY a (L.fl a b))
        (fun a b=>by
         rcases bn.out with e |⟨E,e,aI⟩;exact .inl (m.out.fo a (by rw [<-e];exact b))
         · rw [e] at b;injection b with b;subst b;exact .inr oM)
        (fun a b j=>by
         rcases bn.out with e |⟨E,e,aI⟩;exact cb a (by rw [<-e];exact b) j
         · rw [e] at b;injection b with b;subst b;have aj:=j.2;have cK:=L.k3;omega)
        cx.out cm.out cl.out
    refine ⟨rfl,⟨_,?_,⟨ga,_,_,d8,d7,_,_,ac,a5,cQ,rfl⟩,List.pairwise_map.2 d1,fun M y=>?_⟩,(Keep.of_below bo.out).trans (Keep.setCell (F:=F) cq.out (p:=⟨gp,2,none⟩) (.inl m.out.fp) _)⟩;rw [c2];exact eO _ _ _;rw [c2] at y;rcases List.mem_cons.1 ((eO _ _ _).subset y) with rfl | y;exact ⟨d0,cZ⟩;obtain ⟨d9,d2,rfl⟩:=zAy.1 y;exact ck.out d9 d2
def PermE.inj {w:World} {F:Nat->Prop} {gp R P:Nat} {pr:List (Nat×Nat)} (f:PermE w F gp R P pr) {d e:Nat×Nat} (j:d∈pr) (k:e∈pr) (l:d.1=e.1):d=e:=by
 obtain ⟨b,g,rfl⟩:=List.getElem_of_mem j;obtain ⟨c,i,rfl⟩:=List.getElem_of_mem k;rcases Nat.lt_trichotomy b c with a | a | a;have:=zAr.1 f.2.1 b c g i a;omega;subst a;rfl;have:=zAr.1 f.2.1 c b i g a;omega
end
end Go.Proofs.YtcoooelofcejbaaGreatDoor
