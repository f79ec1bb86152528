/- Lemmas of the walk. Conditions: each its own. -/
import Derived.Test.YtnmapianpjamnaaGreatDoorPc16
import Derived.Test.YtnmapianpjamnaaGreatDoorPc17
import Derived.Test.YtnmapianpjamnaaGreatDoorProg
import Derived.Test.YtnmapianpjamnaaGreatDoorShl
import Derived.Test.YtnmapianpjamnaaGreatDoorShi
set_option linter.all false
set_option maxRecDepth 100000
set_option maxHeartbeats 4000000
open Go.Proofs.Tryz
namespace Go.Proofs.YtnmapianpjamnaaGreatDoor
section
open Go.RowKit
def rD (d gk:Nat) (a:List Nat) (i:Nat) (b:World) (f:WalkAt b d gk a) (k:i < a.length):
 Calls prog 199 #[gk,(i:Int)] b fun e g=>e=.returned (.bool true)/\b=g:=by
 obtain ⟨l,c⟩:=eqx a.length;rw [c] at k;have m:(i:Int) < (l:Int):=oM;obtain ⟨Hn,j⟩:=hqq2 c f;clear c f;go_enter func199,ntmps199;go_wp2_with fail;refine (oR d gk a b j.out).mono ?_;rintro e g ⟨rfl,rfl⟩;rw [Hn.out];go_wp2_with fail;go_ret;exact ⟨rfl,rfl⟩
def nE (e gk:Nat) (c:List Nat) (i b:Nat) (m:World) (E:WalkAt m e gk c) (q:c[i]?=some b) (x:∀A∈c,A < 257) (z:c.length<=1000):
 Calls prog 163 #[gk,(i:Int)] m fun g a7=>g=.returned (.int .i64 ((eZ c b i:Nat):Int))/\VB e m a7:=by
 have K:=(zAc.1 q).1;have M:b < 257:=x _ (zAd q);have I:=E;obtain ⟨o,ah,p,G,a2⟩:=E;have Z:=p.cell 0;have ak:=p.lt;obtain ⟨l,y⟩:=eqx (eZ c b i);obtain ⟨t,r⟩:∃a6,c.countP (fun A=>decide (A < b))=a6:=⟨_,rfl⟩;obtain ⟨u,s⟩:=eqx ((c.take i).count b);have L:t+u=l:=by rw [<-r,<-s,<-y];rfl
 have ai:t<=1000:=by rw [<-r];exact zAk zBh z
 have aj:u<=1000:=by rw [<-s];exact zAk zBv (by rw [zAj];omega)
 rw [y];obtain ⟨B,O,C,v,U,D,w,W,X⟩:=hqq9 I p G K q x z r s;have V:=lhd L;clear I p G a2 K q x z r s y L;go_enter func163,ntmps163;go_wp2_with fail;refine (rD e gk c i m B.out v.out).mono ?_;rintro g w1 ⟨rfl,rfl⟩;go_wp2_with fail;refine (dK e o c i b m C.out v.out (zAc.1 U.out).2 D.out w.out).mono ?_;rintro g n ⟨rfl,k⟩;have J:=B.out.vis k.1;have F:=k.1.bk O.out dC dC;have H:=C.out.vis k.1;obtain ⟨T,P,Q,Y⟩:=hqq4 J F H k;clear J F H k Z;go_wp2_with fail;refine wp_region_any kR ?_;refine cJ [20,21,22,23,24,25,26,27,28,29,30,4] (VB e) (Vs [is gk,is (b:Int),is (t:Int),is gk,is gk,is gk,is o,is (i:Int),is (b:Int),is (u:Int),is (l:Int),is (l:Int)]) _ _ rfl kR vR (fun _ _=>VisK.trans) (eE tA1) ?_ ?_
 · refine aZ ?_;refine pH 0 (.pointer (some gk)) ?_;refine pH 5 (.int .i64 (b:Int)) ?_;refine sC (fun _ f a _ _ _ d _ _ _ j=>?_) ?_
   · have aa:_=_:=d 0 20 kR rfl;have ab:_=_:=d 1 21 kR rfl;replace a:(VB e) n f:=bD a;go_simp;refine (lK e gk c b f (T.out.vis a.1) M w.out).mono ?_;rintro g a9 ⟨rfl,a3⟩;rw [W.out];exact j _ _ (VisK.of_below a3) rfl
   refine pH 0 (.pointer (some gk)) ?_;refine pV 3 23 ?_;refine pV 4 24 ?_;refine pL 5 25 (fun f a=>have a:(VB e) n f:=bD a;(((a.1.bk P.out dC dC).cell 0).trans rfl:f.cell? gk=some (.pointer (some o)))) ?_;refine pH 1 (.int .i64 (i:Int)) ?_;refine pH 5 (.int .i64 (b:Int)) ?_;refine sC (fun _ f a _ _ _ d _ _ _ j=>?_) ?_
   · have ad:_=_:=d 6 26 kR rfl;have ae:_=_:=d 7 27 kR rfl;have af:_=_:=d 8 28 kR rfl;replace a:(VB e) n f:=bD a;go_simp;refine (jF e o c i b f (Q.out.vis a.1) M (zCk v.out) D.out w.out).mono ?_;rintro g a9 ⟨rfl,a5⟩;rw [X.out];exact j _ _ a5 rfl
   refine sC (fun _ _ _ _ _ _ d _ _ _ j=>?_) ?_
   · have ac:_=_:=d 2 22 kR rfl;have ag:_=_:=d 9 29 kR rfl;have al:IntKind.i64.wrap ((t:Int)+(u:Int))=(l:Int):=(by rw [IntKind.wrap_i64];have:=V.out;omega);go_simp;exact j _ _ vR rfl
   refine pV 10 30 ?_;exact aH
 · intro a1 a8 a d;replace a:(VB e) n a8:=bD a;have a0:a1 (.tmp 4)=.int .i64 (l:Int):=d 11 4 rfl;simp only [zqq];rw [a0];clear d;have a4:=Y.out.trans a;go_wp2_with fail;go_ret;exact ⟨rfl,a4⟩
end
section
open Go.RowKit Go.Shelf
def nJ (b:World) (a:List (Nat×Nat)) (f:Ending) (e:World):Prop:=
 ∃c d,f=.returned (.slice c a.length d)/\Made e b.heap.size 179 2 c a.length d (bA a)/\Below b.heap.size b e
end
section
open Go.RowKit
def PermAt.vis {q w':World} {c j g:Nat} {n o p m:Value} {R e:Nat} {k:List Nat} {d:List (Nat×Nat)} {l:List Bool} {f:List Nat} (a:PermAt q c j g n o p m R e k d l f) (b:Vis q w'):PermAt w' c j g n o p m R e k d l f:=
 ⟨b.bk a.blk dC dC,b.own a.lrow dC dC,b.own a.orow dC dC,b.bk a.ar dC dC,b.own a.trow dC dC,b.own a.frow dC dC,a.apart,a.lt,a.lo⟩
def LiveAt.vis {r w':World} {d j gk k g:Nat} {o p q:Value} {c l m:Nat} {f:List Nat} {e:List (Nat×Nat)} {n:List Bool} (a:LiveAt r d j gk k g o p q c l m f e n) (b:Vis r w'):LiveAt w' d j gk k g o p q c l m f e n:=
 ⟨b.bk a.blk dC dC,a.walk.vis b,a.perm.vis b⟩
def aCJ (e:List Nat) (d c i b:Nat):(i,b)∈bY e d c↔i < c/\e.getD i 0=b/\b % d=0:=by
 unfold bY;rw [zAy];constructor;rintro ⟨k,a,f⟩;rw [zCt,zCi] at a;cases f;exact ⟨a.1,rfl,by simpa using a.2⟩;rintro ⟨g,rfl,j⟩;exact ⟨i,zCt.2 ⟨zCi.2 g,by simpa using j⟩,rfl⟩
def uR (a:List (Nat×Nat)) (f:a.Pairwise (fun b c=>b.1 < c.1)):(List.range a.length).Pairwise (fun b c=>aB a b < aB a c):=by
 rw [zAr];intro i j d e g;rw [zCh] at d e;rw [List.getElem_range,List.getElem_range];have:=zAr.1 f i j d e g;unfold aB;rw [zAb,zAb,zAa d,zAa e];exact this
def aCK (c:List Nat) (b a:Nat):(bY c b a).length<=a:=by
 unfold bY;rw [zBc];exact zAk (zCs _ _) (by simp)
def aCN {a:List UInt8} {c:List Nat} (d:IsSuf (aY a) c):c[0]?=some a.length:=by
 obtain ⟨o,l,m⟩:=jO a;obtain ⟨j,g,f⟩:=d.row (p:=a.length) oM;rcases zBa j with e | e
 · subst e;rw [zAa g,f]
 · exfalso;have b:=zAr.1 d.sorted 0 j oM g e;rw [f] at b;have n:=d.lt (zBj (show 0 < c.length by omega));have q:c[0]' oM≠a.length:=fun k=>by exact (zAr.1 d.nodup 0 j oM g e) (by rw [k,f])
   rw [pQ,dS (by omega:a.length < (aY a).length),dS n,l] at b;have:=m (c[0]' oM) oM;rcases b with b | b;omega;omega
def aA8 {n c:List Nat} (d:IsSuf n c) {i b k:Nat} (l:c[i]?=some k) (m:c[b]?=some k):i=b:=by
 obtain ⟨e,f⟩:=zAc.1 l;obtain ⟨g,j⟩:=zAc.1 m;rcases Nat.lt_trichotomy i b with a | a | a;exact absurd (by rw [f,j]) (zAr.1 d.nodup i b e g a);exact a;exact absurd (by rw [f,j]) (zAr.1 d.nodup b i g e a)
end
section
open Go.RowKit Go.Shelf
def fL (f:Nat):∀(d:List Value) (b:Nat) (j:World) (g:TypeId) (c:Array Value),Bk j f g c->∃e:Array Value,Bk (j.setCells f b d) f g e/\e.size=c.size/\∀a,a < c.size->e[a]?=if b<=a/\a < b+d.length then d[a - b]? else c[a]?
 | [],b,j,g,c,k=>⟨c,k,rfl,fun a l=>by rw [zBw (by simp)]⟩
 | v::d,b,j,g,c,k=>by
   obtain ⟨e,o,p,q⟩:=fL f d (b+1) (j.setCell ⟨f,b,none⟩ v) g _ (k.set b v);refine ⟨e,o,by rw [p];simp,fun a l=>?_⟩;rw [q a (by simpa using l)];by_cases m:b+1<=a/\a < b+1+d.length;rw [zBx m,zBx (by simp;omega),show a - b=(a -(b+1))+1 by omega];rfl
   · rw [zBw m,zCd];by_cases n:b=a;subst n;rw [zBx rfl,zBx l,zBx (by simp),Nat.sub_self];rfl
     · rw [zBw n,zBw (by simp;omega)]
def hY (a:Nat):∀(f:List Value) (b:Nat) (w0 c:World),Keep (fun d=>d=a) w0 c->Keep (fun d=>d=a) w0 (c.setCells a b f)
 | [],_,_,_,e=>e
 | v::f,b,w0,c,e=>hY a f (b+1) w0 (c.setCell ⟨a,b,none⟩ v) (e.setCell (p:=⟨a,b,none⟩) (.inl rfl) v)
def eR {f:Nat->Prop} (a:Nat):∀(e:List Value) (b:Nat) (w0 c:World),w0.heap.size<=a->Keep f w0 c->Keep f w0 (c.setCells a b e)
 | [],_,_,_,_,d=>d
 | v::e,b,w0,c,hg,d=>eR a e (b+1) w0 (c.setCell ⟨a,b,none⟩ v) hg (d.setCell (p:=⟨a,b,none⟩) (.inr hg) v)
def Bk.shape {e:World} {b:Nat} {d:TypeId} {a:Array Value} (c:Bk e b d a):e.shape? b=some (d,a.size):=by
 unfold Bk at c;unfold World.shape?;rw [c]
def eM {c:Array Value} {d:List Value} {b:Nat} (g:d.length=b) (j:b<=c.size) (f:∀a,a < b->c[a]?=d[a]?):c.toList.take b=d:=by
 apply List.ext_getElem?;intro a;by_cases e:a < b;rw [List.getElem?_take_of_lt e,Array.getElem?_toList];exact f a e
 · rw [List.getElem?_take_eq_none oM,zBg oM]
def nU {l:World} {g f c d:Nat} {j:TypeId} {m:List Value} (n:l.ownsRow g j 1 (.slice (some f) c d) c m) (w:0 < c):∃b:Array Value,Bk l f j b/\b.size=d/\c<=d/\d<=maxLen/\g<=f/\∀e,e < c->b[e]?=m[e]?:=by
 rcases n.2 with ⟨a,v⟩|⟨u,t,b,a,o,p,s,r,x,k⟩
 · cases a
 · injection a with a _ h3;injection a with a;injection a with a _;subst a h3;refine ⟨b,p,by omega,s,r,o,fun e q=>?_⟩;rw [zBl] at k;rw [<-k,List.getElem?_take_of_lt q,Array.getElem?_toList]
def nK (j:Nat) (e:Value) (a:Nat) (m:List Value) (f:World) (l:Ending) (g:World):Prop:=
 ∃b c,l=.returned (.slice b (a+1) c)/\g.ownsRow j 3 1 (.slice b (a+1) c) (a+1) m/\Keep (fun k=>e.ownBlock=some k) f g/\((Value.slice b (a+1) c).ownBlock=e.ownBlock∨∃d,(Value.slice b (a+1) c).ownBlock=some d/\f.heap.size<=d)
def sP (z:Nat) (s:Option Addr) (c f i:Nat) (d:List Nat) (o k:Nat) (b:World) (D:b.ownsRow z 3 1 (.slice s c f) c (d.map sv)) (y:Bk b o 3 #[sv k]) (a7:∀u,(Value.slice s c f).ownBlock=some u->u≠o) (hB:z<=b.heap.size) (P:i < c) (ae:c<=1000000):
 Calls prog 158 #[.slice s c f,(i:Int),.slice (some o) 1 1] b (nK z (.slice s c f) c ((aI d i k).map sv) b):=by
 have m:d.length=c:=by have:=D.1;simpa using this
 obtain ⟨g,ag,B,_,ad⟩:=World.ownsRow.form D oM;injection B with B _ e3;subst B e3;obtain ⟨J,r,a4,a5,T,Y,M⟩:=nU D oM;have a6:o≠g:=fun q=>a7 g rfl q.symm;have O:∀a e,(d.map sv)[a]?=some e->b.cell? ⟨g,0+a,none⟩=some e:=fun a e l=>by
  have j:a < c:=by have:=(zAc.1 l).1;simpa [m] using this
  rw [zBi,r.cell,M a j,l]
 have V:∀a e, [sv k][a]?=some e->b.cell? ⟨o,0+a,none⟩=some e:=fun a e l=>by
  rw [zBi,y.cell,<-l];rcases a with _ | a;rfl
  · simp at l
 have K:∀e∈d.map sv,e.oneCell'=true:=fun e l=>by obtain ⟨ab,_,rfl⟩:=zAy.1 l;rfl
 have L:∀e∈ [sv k],e.oneCell'=true:=fun e l=>by rw [List.mem_singleton] at l;subst l;rfl
 have Q:∀a,a < c+1->((aI d i k).map sv)[a]?=if a < i then (d.map sv)[a]? else if a=i then some (sv k) else (d.map sv)[a - 1]?:=fun a j=>by rw [jV,fO _ _ (by rw [zBc];omega)]
 have x:((aI d i k).map sv).length=c+1:=by rw [zBc,bB _ _ oM,m]
 by_cases U:c+1<=f
 · have a3:∀a,a < c+1->b.cell? ⟨g,0+a,none⟩=some (J.getD a (.bool false)):=fun a j=>by rw [zBi,r.cell,zAq oM];congr 1;rw [zAm,zAq oM];rfl
   have C:=Any2.slices_Insert_int_shift shIns g 0 c f i o 0 1 1 (d.map sv) [sv k] b P dC U (by unfold maxLen at T;omega) a6 (by simpa using m) rfl O (fun a j=>by rw [a3 a j];rfl) (fun a j=>by rw [zBi];exact r.frozen a) V K L 3 3 1 J.size (y.shape) (r.shape) oM (y.frozen 0) (y.frozen 1);refine C.mono ?_;rintro q aa ⟨rfl,rfl⟩;obtain ⟨X,E,a8,F⟩:=fL g ((d.map sv).drop i) (0+(i+1)) b.drew _ _ r.drew;obtain ⟨A,H,a9,I⟩:=fL g [sv k] (0+i) _ _ _ E;refine ⟨_,f,rfl,⟨by rw [x,zBl],.inr ⟨g,f,A,rfl,Y,H,U,T,by omega,?_⟩⟩,(hY g _ _ b _ (hY g _ _ b _ (Keep.refl _ b).drew)).mono fun u _ q=>by rw [show u=g from q];rfl,.inl rfl⟩;rw [zBl];refine eM x oM fun a j=>?_;rw [Q a j,I a oM,F a oM];simp only [zCf,List.length_nil,zAw,zBc,m];by_cases n:a < i
   · rw [zBw oM,zBw oM,zBx n,M a oM]
   · by_cases p:a=i
     · subst p;rw [zBx oM,zBw oM,zBx rfl];simp
     rw [zBw oM,zBx oM,zBw n,zBw p,zBt];congr 1;omega
 · have C:=Any2.slices_Insert_int_grow shIns g 0 c f i o 0 1 1 (d.map sv) [sv k] b P dC a5 oM oM (by simpa using m) rfl O V K L;refine C.mono ?_;rintro q aa ⟨rfl,rfl⟩;obtain ⟨N,w⟩:=eqx (grownCap b (c+1) f 3);have a0:c+1<=N:=(by rw [<-w];exact grownCap_ge _ _ _ _);have a1:N<=maxLen:=(by rw [<-w];exact grownCap_le_maxLen _ _ _ _ (by unfold maxLen;omega));show nK _ _ _ _ _ (.returned (.slice _ _ (grownCap b (c+1) f 3))) _;rw [w];have W:∀G,(Builtin.zeroCells (Value.int .i64 0).cells G).size=G:=fun G=>by simp [Builtin.zeroCells,Value.cells]
   obtain ⟨t,v⟩:=eqx (((d.map sv).take i).toArray++Builtin.zeroCells (Value.int .i64 0).cells (c+1 - i)++Builtin.zeroCells (Value.int .i64 0).cells (N -(c+1)));have ac:t.size=N:=(by rw [<-v,Array.size_append,Array.size_append,W,W];simp [m];omega);have Z:∀a,a < i->t[a]?=(d.map sv)[a]?:=fun a j=>by have af:(((d.map sv).take i).toArray).size=i:=(by simp [m];omega);rw [<-v,Array.append_assoc,Array.getElem?_append_left oM,List.getElem?_toArray,List.getElem?_take_of_lt j]
   have a2:Bk (b.alloc (.cells t 3)) b.heap.size 3 t:=Bk.new _ _ _;have a4:=v;show nK _ _ _ _ _ _ ((((b.alloc (.cells (((d.map sv).take i).toArray++Builtin.zeroCells (Value.int .i64 0).cells (c+1 - i)++Builtin.zeroCells (Value.int .i64 0).cells (grownCap b (c+1) f 3 -(c+1))) 3)).drew.setCells b.heap.size i [sv k]).drew).setCells b.heap.size (i+1) ((d.map sv).drop i));rw [w,v];obtain ⟨X,E,a8,F⟩:=fL b.heap.size [sv k] i _ _ _ a2.drew;obtain ⟨A,H,a9,I⟩:=fL b.heap.size ((d.map sv).drop i) (i+1) _ _ _ E.drew;refine ⟨_,N,rfl,⟨by rw [x,zBl],.inr ⟨b.heap.size,N,A,rfl,hB,H,a0,a1,by omega,?_⟩⟩,eR _ _ _ b _ nL (eR _ _ _ b _ nL ((Keep.refl _ b).alloc _).drew).drew,.inr ⟨_,rfl,zAs _⟩⟩;rw [zBl];refine eM x oM fun a j=>?_;rw [Q a j,I a oM,F a oM];simp only [zCf,List.length_nil,zAw,zBc,m];by_cases n:a < i
   · rw [zBw oM,zBw oM,zBx n,Z a n]
   · by_cases p:a=i
     · subst p;rw [zBw oM,zBx oM,zBw n,zBx rfl];simp
     rw [zBx oM,zBw n,zBw p,zBt];congr 1;omega
def sQ (j:Nat) (f:Option Addr) (a g i:Nat) (e:List Nat) (c d:Nat) (b:World) (o:b.ownsRow j 3 1 (.slice f a g) a (e.map sv)) (p:Bk b c 3 #[sv d]) (B:∀m,(Value.slice f a g).ownBlock=some m->m≠c) (hB:j<=b.heap.size) (C:i<=a) (r:a<=1000000):
 Calls prog 158 #[.slice f a g,(i:Int),.slice (some c) 1 1] b (nK j (.slice f a g) a ((aI e i d).map sv) b):=by
 by_cases x:i < a;exact sP j f a g i e c d b o p B hB x r
 · obtain rfl:i=a:=oM;have D:e.length=i:=(by have:=o.1;simpa using this);have A:Rd b b.heap.size 1 (some ⟨c,0,none⟩) 1 [sv d]:=by
    refine ⟨rfl,fun _=>⟨c,0,rfl,p.lt,fun t E n=>?_⟩⟩;rcases t with _ | t;injection n with n;subst n;exact (p.cell 0).trans rfl
    · simp at n
   refine (lN j f i g (e.map sv) (some ⟨c,0,none⟩) 1 d b o A hB r).mono ?_;rintro q G ⟨F,rfl,s,k,l⟩;have w:(aI e i d).map sv=e.map sv++ [sv d]:=(by unfold aI;rw [zAg oM,List.drop_of_length_le oM,zAz];rfl);obtain ⟨u,v,rfl,_⟩:=aM s;refine ⟨u,v,rfl,by rw [w];exact s,⟨k.os,k.tape,k.output,k.size,fun m y z=>k.block m y fun q=>z q.symm⟩,?_⟩;rcases l with l | l;exact .inl l;exact .inr ⟨_,l,zAs _⟩
def PermR (s:World) (l R e:Nat) (m:List (Nat×Nat)):Prop:=
 ∃d k p q r o b a n j,PermAt s d l k p q r o R e b a n j/\b.Pairwise (fun f g=>aB a f < aB a g)/\a.length<=1000/\b.length<=1000/\m=b.map fun c=>(aB a c,aE a c)
def PermR.le {f:World} {c R b:Nat} {a:List (Nat×Nat)} (d:PermR f c R b a):a.length<=1000:=by
 obtain ⟨g,l,s,t,u,r,p,j,q,k,m,n,o,e,rfl⟩:=d;rw [zBc];exact e
def PermR.vis {d w':World} {b R a:Nat} {c:List (Nat×Nat)} (k:PermR d b R a c) (n:Vis d w'):PermR w' b R a c:=by
 obtain ⟨e,j,r,s,t,q,o,f,p,g,l,m⟩:=k;exact ⟨e,j,r,s,t,q,o,f,p,g,l.vis n,m⟩
def PermR.lt {b:World} {a R c:Nat} {f:List (Nat×Nat)} (d:PermR b a R c f):a < b.heap.size:=by
 obtain ⟨g,l,q,r,s,p,n,j,o,k,e,m⟩:=d;exact e.blk.lt
def wS (X k ac:Nat) (aw ax ay av:Value) (R a3:Nat) (f:List Nat) (c:List (Nat×Nat)) (aq:List Bool) (aa:List Nat) (e:World) (g:PermAt e X k ac aw ax ay av R a3 f c aq aa) (ad:c.length<=1000) (ae:f.length<=1000):
 Calls prog 207 #[k] e (nJ e (f.map fun a=>(aB c a,aE c a))):=by
 obtain ⟨ap,ai,am,an,ao⟩:=info_parts nS;have M:=g.orow;obtain ⟨V,a4,rfl,_,_⟩:=aM M;obtain ⟨U,F,rfl,_,_⟩:=aM g.lrow;have w:e.cell? ⟨k,1,none⟩=some (.slice U c.length F):=(g.blk.cell 1).trans rfl;have G:e.cell? ⟨k,2,none⟩=some (.slice V f.length a4):=(g.blk.cell 2).trans rfl;have ah:=g.blk.lt;obtain ⟨N,y⟩:=eqx c.length;obtain ⟨n,q⟩:=eqx f.length;obtain ⟨d,r⟩:∃d,(f.map fun a=>(aB c a,aE c a))=d:=⟨_,rfl⟩;have O:d.length=n:=by rw [<-r,zBc,q]
 rw [r];obtain ⟨D,Hn,Y,a2,t⟩:=hqq5 g q y r O;rw [y] at w ad;rw [q] at G ae;clear g M q y r O;unfold nJ;go_enter func207,ntmps207;go_wp2_with fail;go_loopw [3,13] (fun ar i wr=>∃a:Nat,a<=n/\i=.int .i64 (a:Int)/\wr.ownsRow e.heap.size 179 2 ar a (bA (d.take a))/\Below e.heap.size e wr) (fun _ i _=>n -(intOf i).toNat)
 case atStart=>exact ⟨0,zAp _,rfl,World.ownsRow_nil _ _ _ _,Below.refl _ _⟩
 case round=>
  obtain ⟨a,aG,rfl,l,j⟩:=hrel;have P:=j.size;by_cases aj:a < n
  · have J:a < f.length:=(by rw [Hn.out];exact aj);obtain ⟨b,o⟩:∃b,f[a]?=some b:=⟨_,zAa J⟩;have B:b < c.length:=D.out.lt b (zAd o);have aF:b < N:=(by rw [<-Y.out];exact B);have m:=D.out.below j;have C:=m.orow;obtain ⟨ab,aJ,a9,_,aD⟩:=World.ownsRow.form C oM;obtain ⟨x,aI,a8,_,aC⟩:=World.ownsRow.form m.lrow oM;injection a9 with e2a _ _;injection a8 with e1a _ _;subst e2a;subst e1a;have az:wr.cell? ⟨ab,a,none⟩=some (.int .i64 (b:Int)):=(World.ownsRow.cellAt C a oM).trans (by rw [zAf,o];rfl);obtain ⟨Q,T⟩:=bV c b B;have a6:wr.cell? ⟨x,b*2,none⟩=_:=(World.ownsRow.cellAt m.lrow (b*2) oM).trans Q;have a7:wr.cell? ⟨x,b*2+1,none⟩=_:=(World.ownsRow.cellAt m.lrow (b*2+1) oM).trans T;have aA:wr.cell? ⟨k,1,none⟩=some (.slice (some x) N F):=(j.cell (p:=⟨k,1,none⟩) ah).trans w;obtain ⟨u,z⟩:=eqx (aB c b);obtain ⟨v,A⟩:=eqx (aE c b);have L:bA (d.take (a+1))=bA (d.take a)++ [.int .i64 (u:Int),.int .i64 (v:Int)]:=(by have ag:d[a]?=some (u,v):=(by rw [<-a2.out,zAf,o,<-z,<-A];rfl);rw [zAv,ag];show bA (d.take a++ [(u,v)])=_;rw [gX];rfl);rw [z] at a6;rw [A] at a7;obtain ⟨E,s,a1⟩:=hqq3 l j L;clear l j L m C Q T w G z A o B J;go_wp2_with (at_builtin;refine cW _ rfl (.tmp 17) (.tmp 25) _ rfl e.heap.size 179 ap (.agg #[.int .i64 0,.int .i64 0]) 2 16 underlying99 ai am an ao rfl dC _ a _ rfl E.out rfl rfl (by simp [Value.oneCell']) (by unfold maxLen;omega) oM P ?_;intro au aK ak I aH af);have H:=cL s.out E.out I P;have Z:=lhd H;clear H I af;exact ⟨⟨au,_,_,⟨a+1,by omega,by go_num,by rw [a1.out];exact ak,Z.out⟩,rfl,rfl,rfl⟩,by simp [intOf];omega⟩
  · obtain rfl:a=n:=oM;have al:d.take a=d:=zAg (by rw [t.out];exact zAs _);rw [al] at l;obtain ⟨W,a5,rfl,K⟩:=bE l;obtain ⟨a0,s⟩:=hqq2 K j;clear l K j;go_wp2_with fail;go_ret;exact ⟨W,a5,by rw [t.out];rfl,by rw [t.out];exact a0.out,s.out⟩
def wR (b R c:Nat) (d:List (Nat×Nat)) (a:World) (k:PermR a b R c d):
 Calls prog 207 #[b] a (nJ a d):=by
 obtain ⟨e,j,r,s,t,q,o,f,p,g,l,u,m,n,rfl⟩:=k;exact wS e b j r s t q R c o f p g a l m n
def dE (c:List (Nat×Nat)) (b:Nat) (e:Int):Prop:=(e=-1/\∀a∈c,a.2 < b)∨∃a∈c,e=((a.2:Nat):Int)/\b<=a.2/\∀d∈c,b<=d.2->a.2<=d.2
def qI {m:List (Nat×Nat)} {f:Nat} {n:Int} (q:dE m f n) (g a:Nat):dE (m++(some (g,a)).toList) f (if f<=a/\(n < 0∨(a:Int) < n) then (a:Int) else n):=by
 have e:∀b:Nat×Nat,b∈m++(some (g,a)).toList↔b∈m∨b=(g,a):=fun b=>by simp
 rcases q with ⟨rfl,l⟩|⟨k,r,rfl,l,o⟩;by_cases d:f<=a;rw [zBx ⟨d,.inl oM⟩];refine .inr ⟨(g,a),(e _).2 (.inr rfl),rfl,d,fun b c j=>?_⟩;rcases (e b).1 c with c | rfl;have:=l b c;omega;exact zAs _;rw [zBw (fun p=>d p.1)];refine .inl ⟨rfl,fun b c=>?_⟩;rcases (e b).1 c with c | rfl;exact l b c;show a < f;omega;by_cases d:f<=a/\((k.2:Int) < 0∨(a:Int) < (k.2:Int));rw [zBx d];have s:a < k.2:=oM;refine .inr ⟨(g,a),(e _).2 (.inr rfl),rfl,d.1,fun b c j=>?_⟩;rcases (e b).1 c with c | rfl;have:=o b c j;show a<=_;omega;exact zAs _;rw [zBw d];refine .inr ⟨k,(e _).2 (.inl r),rfl,l,fun b c j=>?_⟩;rcases (e b).1 c with c | rfl;exact o b c j;have t:f<=a:=j;show k.2<=a;omega
def oI (a:World) (c:List (Nat×Nat)) (e:Nat) (d:Ending) (f:World):Prop:=∃b,d=.returned (.int .i64 b)/\dE c e b/\Below a.heap.size a f
def lM (s R A:Nat) (b:List (Nat×Nat)) (e:Nat) (q:World) (t:PermR q s R A b):
 Calls prog 161 #[s,(e:Int)] q (oI q b e):=by
 have o:=wR s R A b q t;have X:=t.le;unfold nJ at o;obtain ⟨p,x⟩:=eqx b.length;rw [x] at o X;have Hn:=lhd x;clear t x;unfold oI;go_enter func161,ntmps161;go_wp2_with fail;refine o.mono ?_;rintro a8 w1 ⟨a4,a7,rfl,J,E⟩;clear o;obtain ⟨T,z⟩:=hqq2 J E;clear J E;go_wp2_with fail;go_loopw [5,11] (fun a3 i wr=>∃(a:Nat) (d:Int),a<=p/\i=.int .i64 (a:Int)/\a3=.int .i64 d/\dE (b.take a) e d/\Below w1.heap.size w1 wr) (fun _ i _=>p -(intOf i).toNat)
 case atStart=>exact ⟨0,-1,zAp _,rfl,rfl,.inl ⟨rfl,fun ae a0=>by simp at a0⟩,Below.refl _ _⟩
 case round=>
  obtain ⟨a,d,aa,rfl,rfl,k,j⟩:=hrel;have Z:=j.size;by_cases Y:a < p
  · have I:a < b.length:=(by rw [Hn.out];exact Y);have L:=T.out.rd.below (j.mono (B:=w1.heap.size) nL);obtain ⟨a6,ad,rfl,a9,w⟩:=L.2 oM;obtain ⟨O,P⟩:=bV b a I;have V:=w _ _ O;have W:=w _ _ P;obtain ⟨r,u⟩:=eqx (aB b a);obtain ⟨c,v⟩:=eqx (aE b a);rw [u] at V;rw [v,<-Nat.add_assoc] at W;have H:b[a]?=some (r,c):=(by rw [<-u,<-v];unfold aB aE;rw [zAb,zAa I];rfl);have K:∀y:Int,y=(if e<=c/\(d < 0∨(c:Int) < d) then (c:Int) else d)->dE (b.take (a+1)) e y:=fun y a1=>by rw [zAv,H,a1];exact qI k r c
    obtain ⟨m,a5⟩:=hqq2 K j;have F:Below w1.heap.size w1 (wr.alloc (.cells #[(r:Int),(c:Int)] 179)):=j.alloc Z _;have l:=lhd F;clear k j L w O P u v F K H;by_cases n:e<=c
    · have a2:decide (e<=c)=true:=zBz n;by_cases C:d < 0
      · have f:dE (b.take (a+1)) e (c:Int):=m.out (c:Int) (by rw [zBx ⟨n,.inl C⟩]);have g:=lhd f;clear f;go_wp2_with fail;go_roundw
        case rel=>exact ⟨a+1,(c:Int),by omega,by go_num,by first | rfl | trivial,g.out,l.out⟩
        case measure=>simp [intOf];omega
      · have ab:decide (d < 0)=false:=zBy C;by_cases D:(c:Int) < d
        · have f:dE (b.take (a+1)) e (c:Int):=m.out (c:Int) (by rw [zBx ⟨n,.inr D⟩]);have g:=lhd f;clear f;go_wp2_with fail;go_roundw
          case rel=>exact ⟨a+1,(c:Int),by omega,by go_num,by first | rfl | trivial,g.out,l.out⟩
          case measure=>simp [intOf];omega
        · have ac:decide ((c:Int) < d)=false:=zBy D;have f:dE (b.take (a+1)) e d:=m.out d (by rw [zBw oM]);have g:=lhd f;clear f;go_wp2_with fail;go_roundw
          case rel=>exact ⟨a+1,d,by omega,by go_num,by first | rfl | trivial,g.out,l.out⟩
          case measure=>simp [intOf];omega
    · have a2:decide (e<=c)=false:=zBy n;have f:dE (b.take (a+1)) e d:=m.out d (by rw [zBw oM]);have g:=lhd f;clear f;go_wp2_with fail;go_roundw
      case rel=>exact ⟨a+1,d,by omega,by go_num,by first | rfl | trivial,g.out,l.out⟩
      case measure=>simp [intOf];omega
  · obtain rfl:a=p:=oM;have G:=z.out.trans (j.mono z.out.size);have Q:=lhd G;have M:b.take a=b:=zAg (by rw [Hn.out];exact zAs _);rw [M] at k;have U:=lhd k;clear G k j M;go_wp2_with fail;go_ret;exact ⟨d,rfl,U.out,Q.out⟩
def yY (c:World) (e:List Nat) (b:List (Nat×Nat)) (f:Nat) (d:Ending) (g:World):Prop:=∃a,a∈e/\aE b a=f/\d=.returned (.int .i64 ((aB b a:Nat):Int))/\Below c.heap.size c g
def wO (t j z:Nat) (H I J G:Value) (R v:Nat) (d:List Nat) (a:List (Nat×Nat)) (F:List Bool) (w:List Nat) (g:Nat) (q:World) (e:PermAt q t j z H I J G R v d a F w) (X:d.length<=1099511627776) (a7:a.length<=1099511627776) (A:∃m∈d,aE a m=g):
 Calls prog 162 #[j,(g:Int)] q (yY q d a g):=by
 have r:=fS t j z H I J G R v d a F w g q e X;obtain ⟨n,c,C,o,D⟩:=oO (p:=fun m=>decide (aE a m=g)) (l:=d) (by obtain ⟨m,Y,Z⟩:=A;exact ⟨m,Y,zBz Z⟩) 0;rw [C,zBi] at r;have E:aE a c=g:=of_decide_eq_true D;have af:n < d.length:=(zAc.1 o).1;have a2:c < a.length:=e.lt c (zAd o);obtain ⟨x,T,a1,ab,V⟩:=World.ownsRow.form e.orow oM;obtain ⟨y,U,a0,ac,W⟩:=World.ownsRow.form e.lrow oM;subst a1;subst a0;have B:=(bV a c a2).1;obtain ⟨K,u,P,M⟩:=hqq4 e o E B;have ae:(n:Int) < (d.length:Int):=oM;have ag:(c:Int) < (a.length:Int):=oM;have ad:decide ((n:Int) < 0)=false:=by simp
 clear e C o D E B A;unfold yY;go_enter func162,ntmps162;go_wp2_with fail;refine r.mono ?_;rintro a6 w1 ⟨rfl,k⟩;have f:=K.out.below k;have a3:∀b,(w1.drewN b).cell? ⟨j,1,none⟩=some (.slice (some y) a.length U):=fun b=>(f.blk.cell 1).trans rfl;have a4:∀b,(w1.drewN b).cell? ⟨j,2,none⟩=some (.slice (some x) d.length T):=fun b=>(f.blk.cell 2).trans rfl;have aa:=f.blk.lt;have a5:∀b,(w1.drewN b).cell? ⟨x,n,none⟩=some (.int .i64 (c:Int)):=fun b=>(World.ownsRow.cellAt f.orow n oM).trans (by rw [zAf,u.out];rfl);have Q:∀b,(w1.drewN b).cell? ⟨y,c*2,none⟩=some (.int .i64 ((aB a c:Nat):Int)):=fun b=>(World.ownsRow.cellAt f.lrow (c*2) oM).trans M.out;have L:=lhd k;have a8:=zAl V k.size;have a9:=zAl W k.size;obtain ⟨ah,s⟩:=eqx (aB a c);rw [s] at Q;have O:=lhd s;clear r k f s;go_wp2_with fail;go_quiet (fail);go_wp2_with fail;go_ret;exact ⟨c,zAd u.out,P.out,by rw [O.out];rfl,below_drewN L.out _⟩
def rL (b:World) (e:List (Nat×Nat)) (d:Nat) (c:Ending) (f:World):Prop:=∃a,(a,d)∈e/\c=.returned (.int .i64 (a:Int))/\Below b.heap.size b f
def nH (d R j:Nat) (f:List (Nat×Nat)) (b:Nat) (c:World) (q:PermR c d R j f) (t:∃m∈f,m.2=b):
 Calls prog 162 #[d,(b:Int)] c (rL c f b):=by
 obtain ⟨n,p,A,B,C,z,l,g,y,o,r,D,E,F,rfl⟩:=q;have u:∃a∈l,aE g a=b:=by obtain ⟨m,x,k⟩:=t;obtain ⟨a,e,rfl⟩:=zAy.1 x;exact ⟨a,e,k⟩
 have w:=wO n d p A B C z R j l g y o b c r oM oM u;refine w.mono ?_;rintro k G ⟨a,e,v,rfl,s⟩;exact ⟨_,zAy.2 ⟨a,e,by rw [v]⟩,rfl,s⟩
def sJ (c R g:Nat) (q:List (Nat×Nat)) (b:Nat) (a:World) (v:PermR a c R g q) (n:∀E∈q,E.2≠b):
 Calls prog 162 #[c,(b:Int)] a fun j D=>j=.returned (.int .i64 (-1))/\Below a.heap.size a D:=by
 obtain ⟨r,u,A,B,C,z,o,f,y,t,k,w,F,G,rfl⟩:=v;have d:=fS r c u A B C z R g o f y t b a k oM;rw [gZ (p:=fun e=>decide (aE f e=b)) (l:=o) (fun e x=>zBy (n _ (zAy.2 ⟨e,x,rfl⟩))) 0] at d;clear k w n;go_enter func162,ntmps162;go_wp2_with fail;refine d.mono ?_;rintro j w1 ⟨rfl,m⟩;have s:=lhd m;clear d m;go_wp2_with fail;go_ret;exact ⟨rfl,s.out⟩
end
section
open Go.RowKit
structure LiveG (w:World) (Bw gl gk gp rate n:Nat) (L:List Nat) (pr:List (Nat×Nat)):Prop where
 blk:∃mv:Int,Bk w gl 109 #[gk,gp,(rate:Int),.int .i64 mv]
 walk:WalkAt w Bw gk L
 perm:PermR w gp n n pr
def LiveG.vis {l w':World} {c e gk f k g:Nat} {d:List Nat} {j:List (Nat×Nat)} (a:LiveG l c e gk f k g d j) (b:Vis l w'):LiveG w' c e gk f k g d j:=by
 obtain ⟨n,m⟩:=a.blk;exact ⟨⟨n,b.bk m dC dC⟩,a.walk.vis b,a.perm.vis b⟩
def LiveG.lvw {e:World} {a c gk f l j:Nat} {b:List Nat} {k:List (Nat×Nat)} (d:LiveG e a c gk f l j b k):LvW e a c b:=by
 obtain ⟨m,g⟩:=d.blk;exact ⟨gk,_,_,_,g,d.walk⟩
def LiveG.mono {l:World} {c b e gk f k g:Nat} {d:List Nat} {j:List (Nat×Nat)} (a:LiveG l c e gk f k g d j) (hB:b<=c):LiveG l b e gk f k g d j:=⟨a.blk,a.walk.mono hB,a.perm⟩
def LiveG.lt {b:World} {c a gk e k g:Nat} {d:List Nat} {j:List (Nat×Nat)} (f:LiveG b c a gk e k g d j):a < b.heap.size:=f.lvw.lt
def oL (a:List (Nat×Nat)):a=(List.range a.length).map fun c=>(aB a c,aE a c):=by
 apply List.ext_getElem?;intro i;rw [zAf];by_cases b:i < a.length;rw [List.getElem?_range b,zAa b];unfold aB aE;rw [Option.map_some,zAb,zAa b];rfl;rw [zBg oM,zBg (by simpa using b)];rfl
def LiveAt.g {s:World} {d j gk k f:Nat} {p q r:Value} {c m n:Nat} {e:List Nat} {a:List (Nat×Nat)} {o:List Bool} (b:LiveAt s d j gk k f p q r c m n e a o) (v:a.Pairwise (fun t u=>t.1 < u.1)) (l:a.length<=1000):LiveG s d j gk k n m e a:=
 ⟨⟨0,b.blk⟩,b.walk,c,f,p,q,r,_,_,a,o, [],b.perm,uR a v,l,by rw [zCh];exact l,oL a⟩
def pT {rs:List Nat} {rate n:Nat} (e:n<=rs.length):∀a∈bY rs rate n,rs[a.1]?=some a.2:=fun a c=>by
 obtain ⟨d,b⟩:=kP c;rw [b,zAb,zAa (show a.1 < rs.length by omega)];rfl
def aBD {c:List UInt8} {b:List Nat} {rate:Nat} (a:IsSuf (aY c) b):∃g∈bY b rate (c.length+1),g.2=0:=by
 obtain ⟨f,e,d⟩:=a.row (p:=0) (by rw [bO];omega);refine ⟨(f,0),(aCJ _ _ _ _ _).2 ⟨?_,?_,Nat.zero_mod _⟩,rfl⟩;have:=a.len;rw [bO] at this;omega;rw [zAb,zAa e,d];rfl
def gE (j J gk X b0:Nat) (e:List UInt8) (d:List Nat) (u:List (Nat×Nat)) (i c:Nat) (m:World) (K:LiveG m j J gk X b0 (e.length+1) (aK (aY e) d) u) (ap:∀g∈u,d[g.1]?=some g.2) (l:IsSuf (aY e) d) (aS:e.length<=895) (a1:d[i]?=some c):
 Calls prog 78 #[J,(c:Int)] m fun n b1=>n=.returned (.int .i64 (i:Int))/\VB j m b1:=by
 have a3:d.length=e.length+1:=by rw [l.len,bO]
 have Y:(aK (aY e) d).length=e.length+1:=by rw [eK,a3]
 have aU:c < e.length+1:=by have:=l.lt (zAd a1);rwa [bO] at this
 have a6:=aCN l;obtain ⟨N,Z⟩:=eqx e.length;have aq:∀a b:Nat,d[a]?=some (b+1)->∃t I,(aK (aY e) d)[a]?=some t/\eZ (aK (aY e) d) t a=I/\d[I]?=some b:=fun a b x=>by obtain ⟨M,ah⟩:=zAc.1 x;have aM:b+1 < (aY e).length:=l.lt (zAd x);obtain ⟨I,aj,ai⟩:=l.row (p:=b) oM;have am:=jO e;have aO:=xY am M ah (by rw [bO] at aM;omega);exact ⟨(aY e).getD b 0,I,zAc.2 ⟨_,aO⟩,lf l am M aj ah ai,zAc.2 ⟨aj,ai⟩⟩
 have a4:∀a b:Nat,d[a]?=some b->b<=e.length/\a<=e.length:=fun a b x=>by have k:=l.lt (zAd x);rw [bO] at k;have L:=(zAc.1 x).1;omega
 have ar:∀a,d[a]?=some c->a=i:=fun a M=>aA8 l M a1;rw [Z] at K;rw [Z] at Y aU aS a3 a6 a4;have b3:decide ((c:Int) < 0)=false:=by simp
 have aT:¬N < c:=oM;have b4:decide (N < c)=false:=zBy aT;obtain ⟨s,az,ax,ae,ay,af,H⟩:=hqq7 K a6 ap aq a4 ar Y;have ad:=lhd (gN (iV e) (rs:=d));obtain ⟨b6,O⟩:=K.blk;have aC:=O.cell 0;have aD:=O.cell 1;have aP:=O.lt;clear K a6 ap aq a4 ar Y l a1 Z a3 O;go_enter func78,ntmps78;go_wp2_with fail;refine (eQ j J _ N m s.out.lvw H.out oM).mono ?_;rintro n w1 ⟨rfl,rfl⟩;go_wp2_with fail;refine (eQ j J _ N m s.out.lvw H.out oM).mono ?_;rintro n w1 ⟨rfl,rfl⟩;go_wp2_with fail;have a5:=lM X (N+1) (N+1) u c m s.out.perm;unfold oI at a5;refine a5.mono ?_;rintro n av ⟨b9,rfl,G,ak⟩;clear a5;have a9:VB j m av:=VisK.of_below ak;have L:=s.out.vis a9.1;obtain ⟨b7,P⟩:=L.blk;have aF:=P.cell 0;have aG:=P.cell 1;have aR:=P.lt;obtain ⟨aw,ag⟩:=hqq2 L a9;clear ak a9 L aC aD aP P;rcases G with ⟨G,_⟩|⟨⟨b5,r⟩,aN,G,a2,_⟩
 · subst G;go_wp2_with fail;go_loopw [5,6] (fun g ac wr=>∃a f:Nat,c<=a/\a<=N/\d[f]?=some a/\g=.int .i64 (a:Int)/\ac=.int .i64 (f:Int)/\VB j m wr) (fun g _ _=>(intOf g).toNat)
   case atStart=>exact ⟨N,0,by omega,zAs _,az.out,rfl,rfl,ag.out⟩
   case round=>
    obtain ⟨a,f,aV,aI,z,rfl,rfl,q⟩:=hrel;have k:=s.out.vis q.1;obtain ⟨aZ,o⟩:=k.blk;have aE:=o.cell 0;have aQ:=o.lt;obtain ⟨w,Q,v⟩:=hqq3 q k z;clear k q z o;by_cases aJ:c < a
    · obtain ⟨b,y⟩:∃b,a=b+1:=⟨a - 1,by omega⟩;obtain ⟨t,aa,B,C,D⟩:=ae.out f b (by rw [<-y];exact v.out);have aH:IntKind.i64.wrap ((a:Int) - 1)=(b:Int):=(by rw [IntKind.wrap_i64];omega);obtain ⟨T,U,V⟩:=hqq3 B C D;have a0:c<=b:=oM;have aL:b < a:=oM;clear B C D y;go_wp2_with fail;refine (nE j gk _ f t wr Q.out.walk T.out ad.out (by rw [H.out];omega)).mono ?_;rintro n b2 ⟨rfl,E⟩;rw [U.out];have F:=w.out.trans E;have W:=lhd F;clear E F;go_wp2_with fail;go_roundw
      case rel=>exact ⟨b,aa,a0,by omega,V.out,by go_num,by first | rfl | trivial,W.out⟩
      case measure=>simp [intOf];omega
    · obtain rfl:a=c:=oM;have a7:=af.out f v.out;subst a7;go_wp2_with fail;go_ret;exact ⟨rfl,w.out⟩
 · subst G;have a2:c<=r:=a2;have an:∃g∈u,g.2=r:=⟨_,aN,rfl⟩;have aW:decide ((r:Int)>=0)=true:=(by simp);go_wp2_with fail;have a8:=nH X (N+1) (N+1) u r av aw.out.perm an;unfold rL at a8;refine a8.mono ?_;rintro n b8 ⟨ab,ao,rfl,al⟩;have A:=ax.out _ ao;have A:d[ab]?=some r:=A;have au:=ag.out.below al;obtain ⟨aA,aB⟩:=hqq2 A au;have aX:=(ay.out ab r A).1;clear a8 ao A al au an aF aG aR aW;go_wp2_with fail;go_loopw [5,6] (fun g ac wr=>∃a f:Nat,c<=a/\a<=N/\d[f]?=some a/\g=.int .i64 (a:Int)/\ac=.int .i64 (f:Int)/\VB j m wr) (fun g _ _=>(intOf g).toNat)
   case atStart=>exact ⟨r,ab,a2,aX,aA.out,rfl,rfl,aB.out⟩
   case round=>
    obtain ⟨a,f,aV,aI,z,rfl,rfl,q⟩:=hrel;have k:=s.out.vis q.1;obtain ⟨aZ,o⟩:=k.blk;have aE:=o.cell 0;have aQ:=o.lt;obtain ⟨w,Q,v⟩:=hqq3 q k z;clear k q z o;by_cases aJ:c < a
    · obtain ⟨b,y⟩:∃b,a=b+1:=⟨a - 1,by omega⟩;obtain ⟨t,aa,B,C,D⟩:=ae.out f b (by rw [<-y];exact v.out);have aH:IntKind.i64.wrap ((a:Int) - 1)=(b:Int):=(by rw [IntKind.wrap_i64];omega);obtain ⟨T,U,V⟩:=hqq3 B C D;have a0:c<=b:=oM;have aL:b < a:=oM;clear B C D y;go_wp2_with fail;refine (nE j gk _ f t wr Q.out.walk T.out ad.out (by rw [H.out];omega)).mono ?_;rintro n b2 ⟨rfl,E⟩;rw [U.out];have F:=w.out.trans E;have W:=lhd F;clear E F;go_wp2_with fail;go_roundw
      case rel=>exact ⟨b,aa,a0,by omega,V.out,by go_num,by first | rfl | trivial,W.out⟩
      case measure=>simp [intOf];omega
    · obtain rfl:a=c:=oM;have a7:=af.out f v.out;subst a7;go_wp2_with fail;go_ret;exact ⟨rfl,w.out⟩
end
section
def aAJ {a:List Nat} (k:a.Nodup) {x:Nat} (m:x∈a) {c d:Nat->Bool} (j:∀b∈a,b≠x->c b=d b):a.countP c+(if d x then 1 else 0)=a.countP d+(if c x then 1 else 0):=by
 have f:=List.perm_cons_erase m;have l:=f.nodup_iff.1 k;have e:(a.erase x).countP c=(a.erase x).countP d:=List.countP_congr fun b g=>by rw [j b (List.mem_of_mem_erase g) (fun e=>(List.nodup_cons.1 l).1 (e ▸ g))]
 rw [f.countP_eq,f.countP_eq,zBn,zBn,e];omega
def aEO {R:List Nat} (d:R.Nodup) {a:Nat} (e:a∈R):R.countP (fun f=>decide (ro R f < ro R a))=ro R a:=by
 have b:=tB d (ro R a) (fun _=>true);have c:(R.take (ro R a)).countP (fun _=>true)=(R.take (ro R a)).length:=List.countP_eq_length.2 fun _ _=>rfl;rw [c,zAj] at b;have g:ro R a < R.length:=List.idxOf_lt_length_iff.2 e;rw [zCq oM] at b;simp only [Bool.true_and] at b;exact b.symm
def aDC (c d b:Nat):Nat:=let a:=if d < b then c - 1 else c;if b<=a then a+1 else a
section
variable {S R : List Nat} {N i : Nat}
def aC6 (c:Near S R N (i+2)) (B:i+1 < N):(if S.getD (i+1) 0=S.getD i 0 then aDC (eZ (aK S R) (S.getD i 0) (ro R (i+1))) (ro R (i+2)) (ro R (i+1)) else eZ (aK S R) (S.getD i 0) (ro R (i+1)))=ro R i/\
 (S.getD (i+1) 0=S.getD i 0->ro R (i+2) < ro R (i+1)->0 < eZ (aK S R) (S.getD i 0) (ro R (i+1))):=by
 have t:=c.nodup;have l:∀a,a<=N->a∈R:=fun a m=>c.mem.2 m;have n:∀a e,a<=N->e<=N->a≠e->ro R a≠ro R e:=fun a e m v u g=>u (dN (l a m) (l e v) g);have r:=c.endk.pos i oM;rw [mP c.endk c.perm r];have p:(List.range (N+1)).countP (fun a=>decide (ro R a < ro R i))=ro R i:=by rw [<-c.perm.countP_eq];exact aEO t (l i oM)
 have q:∀d∈List.range (N+1),d≠i+1->decide (ro R d < ro R i)=decide (S.getD d 0 < S.getD i 0∨(S.getD d 0=S.getD i 0/\ro R (d+1) < ro R (i+1))):=fun d w E=>by rw [zCi] at w;rw [decide_eq_decide];by_cases o:d=i;subst o;omega;exact c.cons d i oM oM o oM oM
 have b:=aAJ List.nodup_range (x:=i+1) (by simp;omega) q;rw [p] at b;unfold vE;generalize D:List.countP (fun a=>decide (S.getD a 0 < S.getD i 0∨(S.getD a 0=S.getD i 0/\ro R (a+1) < ro R (i+1)))) (List.range (N+1))=n0 at b⊢;have C:=n i (i+1) oM oM oM;have A:=n (i+2) (i+1) oM oM oM;have y:=c.first (i+1) i oM oM;have z:=c.first i (i+1) oM oM;simp only [zCa,show i+1+1=i+2 by omega] at b;by_cases k:S.getD (i+1) 0=S.getD i 0
 · have j:(S.getD (i+1) 0 < S.getD i 0∨(S.getD (i+1) 0=S.getD i 0/\ro R (i+2) < ro R (i+1)))↔ro R (i+2) < ro R (i+1):=oM;simp only [j] at b;rw [zBx k];unfold aDC;refine ⟨?_,fun _ s=>?_⟩
   · by_cases f:ro R (i+2) < ro R (i+1)
     · rw [zBx f] at b;simp only [zBx f];split at b <;> split <;> omega
     · rw [zBw f] at b;simp only [zBw f];split at b <;> split <;> omega
   · rw [zBx s] at b;split at b <;> omega
 have j:(S.getD (i+1) 0 < S.getD i 0∨(S.getD (i+1) 0=S.getD i 0/\ro R (i+2) < ro R (i+1)))↔ro R (i+1) < ro R i:=oM;simp only [j] at b;rw [zBw k];exact ⟨by omega,fun g=>absurd g k⟩
def sh (b a:Nat):Nat:=if a < b then a else a+1
def aAh {b c d:Nat} (a:sh b c=sh b d):c=d:=by unfold sh at a;split at a <;> split at a <;> omega
def tE (a b:Nat):sh a b≠a:=by unfold sh;split <;> omega
def iX {b a:Nat} (e:a≠b):∃d,sh b d=a:=by
 by_cases c:a < b;exact ⟨a,by unfold sh;rw [zBx c]⟩;exact ⟨a - 1,by unfold sh;rw [zBw oM];omega⟩
def jD (b:List Nat) {c:Nat} (d:Nat) (e:c<=b.length) (a:Nat):(aI b c d).getD a 0=if a < c then b.getD a 0 else if a=c then d else b.getD (a - 1) 0:=by
 rw [zAb,fO b d e];split
 · rw [zAb]
 · split;rfl
   · rw [zAb]
def aEm (a:List Nat) {c:Nat} (d:c < a.length) (b:Nat):(aC a c).getD b 0=if b < c then a.getD b 0 else a.getD (b+1) 0:=by
 rw [zAb,cY a d];split
 · rw [zAb]
 · rw [zAb]
def jC (c:List Nat) {b:Nat} (e a:Nat) (f:b<=c.length):(aI c b e).getD (sh b a) 0=c.getD a 0:=by
 rw [jD c e f];by_cases d:a < b
 · rw [show sh b a=a by unfold sh;rw [zBx d],zBx d]
 · rw [show sh b a=a+1 by unfold sh;rw [zBw d],zBw oM,zBw oM,zBb]
def qJ (b:List Nat) {a:Nat} (c:Nat) (d:a<=b.length):(aI b a c).getD a 0=c:=by
 rw [jD b c d,zBw oM,zBx rfl]
def aCP {R:List Nat} (l:R.Nodup) {at_ row:Nat} (n:row<=R.length):ro (aI (R.map (sh at_)) row at_) at_=row/\(∀a∈R,ro (aI (R.map (sh at_)) row at_) (sh at_ a)=inR (ro R a) row)/\(aI (R.map (sh at_)) row at_).Nodup:=by
 have e:row<=(R.map (sh at_)).length:=by simpa using n
 have b:(aI (R.map (sh at_)) row at_).Nodup:=by rw [(dQ _ _ _).nodup_iff,List.nodup_cons];refine ⟨fun k=>?_,List.pairwise_map.2 (l.imp fun g j=>g (aAh j))⟩;obtain ⟨a,_,f⟩:=zAy.1 k;exact tE _ _ f
 refine ⟨eB b ?_,fun a m=>eB b ?_,b⟩
 · rw [fO _ _ e,zBw oM,zBx rfl]
 rw [fO _ _ e];have d:=bI m;unfold inR;by_cases c:row<=ro R a;rw [zBx c,zBw oM,zBw oM,zBb,zAf,d];rfl;rw [zBw c,zBx oM,zAf,d];rfl
def aEh (f:EndOk S N) {a c:Nat} (k:a<=N) (g:0 < c):EndOk (aI S a c) (N+1):=by
 obtain ⟨d,e,b⟩:=f;refine ⟨by rw [bB _ _ oM,d],?_,fun j l=>?_⟩
 · rw [jD _ _ oM,zBw oM,zBw oM,zBb,e]
 rw [jD _ _ oM];split;exact b j oM;split;exact g;exact b _ oM
def aCX {R:List Nat} (c:R.Perm (List.range (N+1))) {a:Nat} (row:Nat) (n:a<=N):(aI (R.map (sh a)) row a).Perm (List.range (N+1+1)):=by
 refine (List.perm_ext_iff_of_nodup ?_ List.nodup_range).2 fun m=>?_;rw [(dQ _ _ _).nodup_iff,List.nodup_cons];refine ⟨fun k=>?_,List.pairwise_map.2 ((c.nodup_iff.2 List.nodup_range).imp fun g j=>g (aAh j))⟩;obtain ⟨d,_,f⟩:=zAy.1 k;exact tE _ _ f
 · rw [(dQ _ _ _).mem_iff,List.mem_cons,zAy,zCi];constructor
   · rintro (rfl |⟨d,l,rfl⟩);omega
     · have:=zCi.1 (c.mem_iff.1 l);unfold sh;split <;> omega
   · intro e;by_cases b:m=a;exact .inl b
     · obtain ⟨d,rfl⟩:=iX b;refine .inr ⟨d,c.mem_iff.2 (zCi.2 ?_),rfl⟩;unfold sh at e b;split at e <;> omega
def aC8 (a2:IsSuf S R) (r:EndOk S N) {c s:Nat} (u:c<=N) (Y:0 < s):eZ (aK S R) s (ro R c)<=R.length/\Near (aI S c s) (aI (R.map (sh c)) (eZ (aK S R) s (ro R c)) c) (N+1) c:=by
 have m:=a2.near r;have H:=m.nodup;have l:∀d,d<=N->d∈R:=fun d n=>m.mem.2 n;obtain ⟨row,X⟩:=eqx (eZ (aK S R) s (ro R c));have Q:R.countP (fun d=>decide (S.getD d 0 < s∨(S.getD d 0=s/\ro R (d+1) < ro R c)))=row:=by rw [<-X,mP r m.perm Y,m.perm.countP_eq];rfl
 rw [X];have T:row<=R.length:=by rw [<-Q];exact zBh
 have A:∀d,d<=N->(decide (S.getD d 0 < s∨(S.getD d 0=s/\ro R (d+1) < ro R c))=true↔ro R d < row):=fun d n=>by rw [<-Q];refine uU (K:=fun d=>decide (S.getD d 0 < s∨(S.getD d 0=s/\ro R (d+1) < ro R c))) ?_ _ _ (bI (l d n));rw [zAr];intro w x M P aa k;have a7:ro R R[w]=w:=eB H (zAa M);have a8:ro R R[x]=x:=eB H (zAa P);have a3:R[w]<=N:=m.mem.1 (zBj M);have a4:R[x]<=N:=m.mem.1 (zBj P);have z:=(m.cons R[w] R[x] a3 a4 (fun j=>by rw [j,a8] at a7;omega) oM oM).1 oM;unfold nX at z;rw [zCa] at k⊢;omega
 obtain ⟨E,q,ab⟩:=aCP H (at_:=c) T;have a9:=r.len;refine ⟨T,aEh r u Y,aCX m.perm row u,fun d v n o g=>?_,fun d v n o W V B=>?_⟩
 · by_cases t:d=c
   · subst t;by_cases p:v=d;subst p;omega
     · obtain ⟨b,rfl⟩:=iX p;have e:b<=N:=(by unfold sh at o;split at o <;> omega);rw [E,q b (l b e)] at g;rw [qJ _ _ oM,jC _ _ _ oM];have k:=A b e;rw [zCa] at k;unfold inR at g;split at g <;> omega
   · obtain ⟨a,rfl⟩:=iX t;have f:a<=N:=(by unfold sh at n;split at n <;> omega);by_cases p:v=c
     · subst p;rw [E,q a (l a f)] at g;rw [qJ _ _ oM,jC _ _ _ oM];have k:=A a f;rw [zCa] at k;unfold inR at g;split at g <;> omega
     · obtain ⟨b,rfl⟩:=iX p;have e:b<=N:=(by unfold sh at o;split at o <;> omega);rw [q a (l a f),q b (l b e)] at g;rw [jC _ _ _ oM,jC _ _ _ oM];refine m.first a b f e ?_;unfold inR at g;split at g <;> split at g <;> omega
 · have C:∀a,a<=N->sh c a+1≠c->a < N->sh c a+1=sh c (a+1):=fun a f z _=>by unfold sh at z⊢;by_cases Z:a < c <;> by_cases a0:a+1 < c <;> simp only [Z,a0,if_true,if_false] at z⊢<;> omega
   have O:c+1=sh c c:=(by unfold sh;rw [zBw oM]);have D:∀a b,a<=N->b<=N->(ro (aI (R.map (sh c)) row c) (sh c a) < ro (aI (R.map (sh c)) row c) (sh c b)↔ro R a < ro R b):=fun a b f e=>by rw [q a (l a f),q b (l b e)];unfold inR;split <;> split <;> omega
   have y:∀F,F<=N->S.getD F 0≠0->F < N:=fun F a6 U=>Nat.lt_of_le_of_ne a6 fun j=>by subst j;exact U r.last
   unfold nX;by_cases t:d=c
   · subst t;obtain ⟨b,rfl⟩:=iX (fun j=>W j.symm);have e:b<=N:=(by unfold sh at o;split at o <;> omega);rw [E,q b (l b e),qJ _ _ oM,jC _ _ _ oM];have k:=A b e;rw [zCa] at k;have g:row < inR (ro R b) row↔¬ro R b < row:=(by unfold inR;split <;> omega);rw [g,<-k];by_cases L:S.getD b 0=s
     · have J:=y b e oM;rw [C b e B J,O,D d (b+1) u oM];have:=fun j=>dN (l (b+1) oM) (l d u) j;have U:ro R (b+1)≠ro R d:=fun j=>by have:=this j;unfold sh at B;split at B <;> omega
       omega
     omega
   · obtain ⟨a,rfl⟩:=iX t;have f:a<=N:=(by unfold sh at n;split at n <;> omega);by_cases p:v=c
     · subst p;rw [E,q a (l a f),qJ _ _ oM,jC _ _ _ oM];have k:=A a f;rw [zCa] at k;have g:inR (ro R a) row < row↔ro R a < row:=(by unfold inR;split <;> omega);rw [g,<-k];by_cases L:S.getD a 0=s
       · have I:=y a f oM;rw [C a f V I,O,D (a+1) v oM u]
       omega
     · obtain ⟨b,rfl⟩:=iX p;have e:b<=N:=(by unfold sh at o;split at o <;> omega);have a5:a≠b:=fun j=>W (by rw [j]);rw [D a b f e,jC _ _ _ oM,jC _ _ _ oM,m.cons a b f e a5 oM oM];unfold nX;by_cases L:S.getD a 0=S.getD b 0
       · by_cases a1:S.getD a 0=0;have ac:a=N:=Nat.le_antisymm f (zCo.1 fun G=>by have:=r.pos a G;omega);have ad:b=N:=Nat.le_antisymm e (zCo.1 fun G=>by have:=r.pos b G;omega);omega
         · have I:=y a f a1;have J:=y b e oM;rw [C a f V I,C b e B J,D (a+1) (b+1) oM oM]
       omega
def aBP (r:R.Nodup) (m:R.Perm (List.range (N+1))) (p:EndOk S N) {b s row:Nat} (v:b<=N) (y:row<=R.length):aK (aI S b s) (aI (R.map (sh b)) row b)=aI ((aK S R).set (ro R b) s) row (bC S b):=by
 have e:=p.len;have j:(aI S b s).length=N+1+1:=by rw [bB _ _ oM,e]
 have q:∀a,a∈R->a<=N:=fun a t=>by have:=zCi.1 (m.mem_iff.1 t);omega
 have k:b∈R:=m.mem_iff.2 (zCi.2 oM);unfold aK;rw [jV];congr 1
 · apply List.ext_getElem?;intro n;rw [zAf,zAf,zBm,zAf];cases c:R[n]? with
   | none=>
     simp;intro d;subst d;rw [bI k] at c;cases c
   | some a=>
     have x:=q a (zAd c);have l:ro R a=n:=eB r c;show some (bC (aI S b s) (sh b a))=_;by_cases f:a=b
     · subst f;rw [zBx l,zBx (by simpa using (zAc.1 (l ▸ c)).1)];congr 1;rw [show sh a a=a+1 by unfold sh;rw [zBw oM],aU oM,qJ _ _ oM]
     · rw [zBw (fun d=>f (by have g:=bI k;rw [d,c] at g;injection g))];show some _=some (bC S a);congr 1;rcases a with _ | a
       · rw [show sh b 0=0 by unfold sh;rw [zBx oM],bQ oM,bQ oM,j,e,zBb,zBb,jD _ _ oM,zBw oM,zBw oM,zBb]
       · have o:sh b (a+1)=sh b a+1:=(by unfold sh;split <;> split <;> omega);have w:sh b a+1 < N+1+1:=(by unfold sh;split <;> omega);rw [o,aU oM,aU oM,jC _ _ _ oM]
 · rcases b with _ | u
   · rw [bQ oM,bQ oM,j,e,zBb,zBb,jD _ _ oM,zBw oM,zBw oM,zBb]
   · rw [aU oM,aU oM,jD _ _ oM,zBx oM]
def aAz {a c b:Nat} (d:R[a]?=some b):aK S (aI (aC R a) c b)=aI (aC (aK S R) a) c (bC S b):=by
 unfold aK;rw [jV,mV]
end
end
end Go.Proofs.YtnmapianpjamnaaGreatDoor
