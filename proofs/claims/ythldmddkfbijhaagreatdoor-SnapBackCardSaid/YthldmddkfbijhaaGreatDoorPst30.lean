/- Lemmas of the walk. Conditions: each its own. -/
import Derived.Test.YthldmddkfbijhaaGreatDoorPst26
import Derived.Test.YthldmddkfbijhaaGreatDoorProg
import Derived.Test.YthldmddkfbijhaaGreatDoorShl
import Derived.Test.YthldmddkfbijhaaGreatDoorShi
import Derived.Test.YthldmddkfbijhaaGreatDoorSht
import Derived.Test.YthldmddkfbijhaaGreatDoorShs
set_option linter.all false
set_option maxRecDepth 100000
set_option maxHeartbeats 2000000
open Go.Proofs.Tryz
namespace Go.Proofs.YthldmddkfbijhaaGreatDoor
open Go.RowKit
theorem Made.lf {o i:World} {p b:Nat} {own x:Nat->Nat} {a:TypeId} {g d f:Nat} {e:Option Addr} {j:List Value} (c:Made o b a g e d f j) (w:LF p o i own x) (t:a≠202) (u:a≠154) (v:∀k,b<=k->own k=0):Made i b a g e d f j:=by
 have m:i.ownsRow b a g (.slice e d f) d j:=by refine ⟨c.own.1,?_⟩;rcases c.own.2 with y |⟨l,q,r,z,n,A,B⟩;exact .inl y;exact .inr ⟨l,q,r,z,n,w.vis.bk A t u (fun s=>s (v l n)),B⟩
 exact ⟨m,Rd.of_own m,c.cap,c.max⟩
def uK (f:List UInt8) (d:Nat) (a:World) (i:Ending) (g:World):Prop:=∃b c e,i=.returned (.slice b (d+1) c)/\IsSuf (aF f) e/\Made g a.heap.size 3 1 b (d+1) c ((aE (aF f) e).map sv)/\Below a.heap.size a g
theorem nZ (b:List UInt8) (c:Nat) (H:World) (t:b.length=c) (a5:c<=900):
 Calls prog 68 #[.string ⟨b.toArray⟩] H (uK b c H):=by
 obtain ⟨W,O,T,U,V⟩:=info_parts fR;have D:=nY b c H t a5;unfold uJ at D;have j:=lhd t;have al:(⟨b.toArray⟩:ByteArray).size=c:=(mK b).trans t;clear t;unfold uK;go_enter func68,ntmps68;go_wp2_with fail;refine D.mono ?_;rintro ae w1 ⟨aa,ac,p,rfl,F,R,z⟩;have E:p.length=c+1:=by rw [F.len,aL,j.out]
 obtain ⟨k,x⟩:=eqx (aE (aF b) p);have M:k.length=c+1:=by rw [<-x,bP,E]
 obtain ⟨K,a0,J,a1,I,Z⟩:=hqq6 F R z E x M;clear D F R z E x M;go_wp2_with fail;go_loopw [4,5] (fun a7 G wr=>∃a:Nat,a<=c+1/\G=.int .i64 (a:Int)/\wr.ownsRow w1.heap.size 3 1 a7 a ((k.take a).map sv)/\Below w1.heap.size w1 wr) (fun _ G _=>c+1 -(intOf G).toNat)
 case atStart=>exact ⟨0,zAp _,rfl,World.ownsRow_nil _ _ _ _,Below.refl _ _⟩
 case round=>
  obtain ⟨a,ai,rfl,m,f⟩:=hrel;have u:=f.size;by_cases a4:a < c+1
  · have P:a < p.length:=(by rw [a1.out];exact a4);obtain ⟨e,n⟩:∃e,p[a]?=some e:=⟨_,zAa P⟩;have aj:e<=c:=(by have:=K.out.lt (zAd n);rw [aL,j.out] at this;omega);obtain ⟨b1,X,rfl,z,N⟩:=(a0.out.rd.below f).2 oM;have w:wr.cell? ⟨b1,X+a,none⟩=some (.int .i64 (e:Int)):=N a _ (by rw [zAf,n];rfl);have L:k[a]?=some (bM (aF b) e):=(by rw [<-I.out];unfold aE;rw [zAf,n];rfl);have g:k.take (a+1)=k.take a++ [bM (aF b) e]:=(by rw [zAv,L];rfl);obtain ⟨s,q,ab⟩:=hqq3 m f n;clear m f n N L P;rcases e with _ | i
    · have o:bM (aF b) 0=0:=(by rw [bT (by rw [aL];omega),aL,zBb];exact (eE b).last);rw [o] at g;have v:=lhd g;clear g o;have ad:wr.cell? ⟨b1,X+a,none⟩=some (.int .i64 0):=w;clear w;go_wp2_with (at_builtin;refine bF _ rfl (.tmp 19) (.tmp 20) _ rfl w1.heap.size 3 W (.int .i64 0) 1 8 underlying22 O T U V rfl dC _ a _ rfl s.out rfl rfl (by simp [Value.oneCell']) (by unfold maxLen;omega) oM u ?_;intro a8 a9 C l a6 y);have A:=aX q.out s.out l u;clear l y;go_roundw
      case rel=>exact ⟨a+1,by omega,by go_num,by rw [v.out,zAz];exact C,A⟩
      case measure=>simp [intOf];omega
    · obtain ⟨d,B⟩:∃d,b[i]?=some d:=⟨_,zAa (by rw [j.out];omega)⟩;have o:bM (aF b) (i+1)=d.toNat+1:=(by rw [aY (by rw [aL,j.out];omega)];unfold aF dF;rw [zAb,zAn (by rw [zBc,j.out];omega),zAf,B];rfl);rw [o] at g;have v:=lhd g;have a2:(((i+1:Nat):Int)==0)=false:=(by rw [zCb];omega);have a3:IntKind.i64.wrap (((i+1:Nat):Int) - 1)=(i:Int):=(by rw [IntKind.wrap_i64];omega);have ak:=aD6 B;have ah:=d.toNat_lt;have af:IntKind.i64.wrap (d.toNat:Int)=(d.toNat:Int):=(by rw [IntKind.wrap_i64];omega);have ag:wrap64 ((d.toNat:Int)+1)=((d.toNat+1:Nat):Int):=(by rw [dK oM oM];omega);clear g o B;generalize i+1=e at w a2 a3;go_wp2_with (at_builtin;refine bF _ rfl (.tmp 22) (.tmp 32) _ rfl w1.heap.size 3 W (.int .i64 0) 1 8 underlying22 O T U V rfl dC _ a _ rfl s.out rfl rfl (by simp [Value.oneCell']) (by unfold maxLen;omega) oM u ?_;intro a8 a9 C l a6 y);have A:=aX q.out s.out l u;clear l y;go_roundw
      case rel=>exact ⟨a+1,by omega,by go_num,by rw [v.out,zAz];exact C,A⟩
      case measure=>simp [intOf];omega
  · obtain rfl:a=c+1:=oM;rw [zAg (by rw [Z.out];exact zAs _)] at m;obtain ⟨Y,d,rfl,Q⟩:=aU m;obtain ⟨r,q⟩:=hqq2 Q f;clear m Q f;go_wp2_with fail;go_ret;have S:=J.out.size;exact ⟨Y,d,p,rfl,K.out,by rw [I.out];exact ⟨bZ r.out.own S,r.out.rd,r.out.cap,r.out.max⟩,J.out.trans (q.out.mono S)⟩
theorem aGg {N:World} {t y gk z k e:Nat} {own:Nat->Nat} {K:Int} {s:List UInt8} {v:List Nat} {l:List Nat} {b:List (Nat×Nat)} (f:TxM N t own y gk z k K (aF s) v e l b) (S:s.length=e) (A:Smp b 0) (E:pS (Smp b) k e) (I:1<=k):SampOk b l k e/\b.length<=1000:=by
 have G:l.length=e+1:=by have B:=f.suf.len;rw [aL] at B;omega
 obtain ⟨O,Q,V,W,X,U,j,u,T,P,_,C,R,D,g⟩:=f.live.permR;have F:∀a,a < b.length->∃d,b[a]?=some d/\aB b a=d.1/\aI b a=d.2/\d∈b:=fun a c=>by refine ⟨b[a],zAa c,?_,?_,zBj c⟩;unfold aB;rw [zAb,zAa c];rfl;unfold aI;rw [zAb,zAa c];rfl
 refine ⟨⟨fun a c=>?_,fun a c=>?_,A,E,G,I⟩,by rw [g,zBc];exact D⟩;obtain ⟨d,_,w,x,J⟩:=F a c;have r:=f.right d J;obtain ⟨L,M⟩:=zAc.1 r;rw [w,x];refine ⟨by omega,?_,r⟩;have:=f.suf.lt (p:=d.2) (by rw [<-M];exact zBj L);rw [aL] at this;omega
 · have o:a < j.length:=(by rw [g,zBc] at c;omega);have q:a+1 < j.length:=(by rw [g,zBc] at c;omega);have H:=zAr.1 C a (a+1) o q oM;have m:∀i (n:i < j.length),aB b i=aB u (j[i]):=fun i n=>by unfold aB;rw [zAb,g,zAf,zAa n];rfl
   rw [m a o,m (a+1) q];exact H
theorem aDJ (i:Nat) (r d s:Value) (e g f:Nat) (c:List (Nat×Nat)) (a:World) (k:Bk a i 92 #[r,e,d,s]) (j:PermR a e g f c):
 Calls prog 70 #[i] a (lN a c):=by
 have t:=k.cell 1;have b:=sO e g f c a j;unfold lN at b⊢;obtain ⟨v,m⟩:=eqx c.length;rw [m] at b⊢;clear j m k;go_enter func70,ntmps70;go_wp2_with fail;refine b.mono ?_;rintro u w ⟨o,d,rfl,l,n⟩;obtain ⟨p,q⟩:=hqq2 l n;clear b l n;go_wp2_with fail;go_ret;exact ⟨o,d,rfl,p.out,q.out⟩
theorem aDI (d e gk:Nat) (own:Nat->Nat) (q r s:Value) (a p:List Nat) (b:World) (j:Bk b e 92 #[gk,q,r,s]) (u:WalkE b d own gk a p):
 Calls prog 72 #[e] b (mQ b (shA a 9)):=by
 obtain ⟨t,A,f,_,g,_⟩:=u;have x:=j.cell 0;have y:=f.cell 0;have c:=xT d t own a b g;unfold mQ at c⊢;obtain ⟨B,k⟩:=eqx ((shA a 9).length);obtain ⟨w,i⟩:=eqx (cE (shA a 9));rw [k,i] at c⊢;clear f g k i j;go_enter func72,ntmps72;go_wp2_with fail;refine c.mono ?_;rintro z C ⟨v,rfl,l,m⟩;obtain ⟨n,o⟩:=hqq2 l m;clear c l m;go_wp2_with fail;go_ret;exact ⟨v,rfl,n.out,o.out⟩
def pD (e:World) (j f:Nat) (k:List Nat) (i:Ending) (c:World):Prop:=∃d g b a,i=.returned (.slice d a g)/\b.length=a/\a<=1000/\SampOk b k j f/\Rd c c.heap.size 2 d a (bU b)/\Below e.heap.size e c
theorem TxM.pairs {d:World} {l e gk g c b:Nat} {own:Nat->Nat} {w:Int} {j:List UInt8} {m:List Nat} {i:List Nat} {a:List (Nat×Nat)} (f:TxM d l own e gk g c w (aF j) m b i a) (r:j.length=b) (o:Smp a 0) (t:pS (Smp a) c b) (v:1<=c):
 Calls prog 70 #[e] d (pD d c b i):=by
 obtain ⟨p,q⟩:=aGg f r o t v;refine (aDJ e _ _ _ g _ _ a d f.live.blk f.live.permR).mono ?_;rintro x y ⟨k,n,rfl,u,s⟩;exact ⟨k,n,a,_,rfl,rfl,q,p,u.rd,s⟩
def mT (f:World) (g:Nat) (k:Ending) (d:World):Prop:=∃e j a b,k=.returned (.slice e b j)/\b<=1000/\Rd d d.heap.size 4 e b (cE a)/\(∃i,a=⟨((g+1:Nat):Int),0,1,1⟩::i)/\(∀l∈a,∃c:Int,0 < c/\c<=1000/\l=⟨c,0,1,1⟩)/\Below f.heap.size f d
theorem TxM.shapes {e:World} {j f gk s B c:Nat} {own:Nat->Nat} {z:Int} {a:List UInt8} {k:List Nat} {b:List Nat} {A:List (Nat×Nat)} (g:TxM e j own f gk s B z (aF a) k c b A) (u:a.length=c) (E:c<=900):
 Calls prog 72 #[f] e (mT e c):=by
 refine (aDI j f gk own _ _ _ _ k e g.live.blk g.live.walk).mono ?_;rintro d H ⟨G,rfl,l,w⟩;have t:∀o∈aE (aF a) b,o < 257:=dG (eC a);have i:(aE (aF a) b).length=c+1:=by rw [bP,g.suf.len,aL,u]
 obtain ⟨q,v⟩:=aHF (aE (aF a) b) t (fun d=>by rw [d] at i;simp at i);obtain ⟨p,r,rfl,F⟩:=aU l;refine ⟨p,r,_,_,rfl,by have:=aJs (aE (aF a) b);omega,Rd.of_own l,⟨q,by rw [v,i]⟩,fun o y=>?_,w⟩;obtain ⟨m,n,_,_,x,rfl⟩:=aJr y;have C:=aJ1 (aE (aF a) b) m n;have D:(aK (aE (aF a) b) m n).length≠0:=fun d=>x (zCx.1 d);exact ⟨_,by omega,by omega,rfl⟩
end Go.Proofs.YthldmddkfbijhaaGreatDoor
