/- Lemmas of the walk. Conditions: each its own. -/
import Derived.Test.YtcoooelofcejbaaGreatDoorPd11
import Derived.Test.YtcoooelofcejbaaGreatDoorPd12
import Derived.Test.YtcoooelofcejbaaGreatDoorProg
import Derived.Test.YtcoooelofcejbaaGreatDoorShl
import Derived.Test.YtcoooelofcejbaaGreatDoorShi
set_option linter.all false
set_option maxRecDepth 100000
set_option maxHeartbeats 2000000
open Go.Proofs.Tryz
namespace Go.Proofs.YtcoooelofcejbaaGreatDoor
section
open Go.RowKit Go.Shelf
def jL (b:World) (a:List (Nat×Nat)) (f:Ending) (e:World):Prop:=
 ∃c d,f=.returned (.slice c a.length d)/\Made e b.heap.size 112 2 c a.length d (bG a)/\Below b.heap.size b e
end
section
open Go.RowKit
def zv (a:Int):Value:=.int .i64 a
abbrev dY (l:List UInt8):Value:=.string ⟨l.toArray⟩
def aES {c:List UInt8} {b:Nat} {d:UInt8} (e:c[b]?=some d):∀a,(Instr.index 9 (.string ⟨c.toArray⟩) (.int .i64 (b:Int))).run prog a=.ok (.int .u8 (d.toNat:Int)) a:=fun a=>by
 obtain ⟨f,g⟩:=zAc.1 e;rw [aB1 (P:=prog) 9 underlying9 ⟨c.toArray⟩ b (by rw [lM];exact f) a];congr 4
def fP (a b:List UInt8):((⟨a.toArray⟩:ByteArray)++⟨b.toArray⟩)=⟨(a++b).toArray⟩:=by
 apply ByteArray.ext;rw [ByteArray.data_append];simp
def fO (a b:List UInt8) (c:a.length<=1000000000) (d:b.length<=1000000000):¬9223372036854775807 < (⟨a.toArray⟩:ByteArray).size+(⟨b.toArray⟩:ByteArray).size:=by
 rw [lM,lM];omega
def aHz {k:Nat} (a:k < 10):(⟨#[48,49,50,51,52,53,54,55,56,57]⟩:ByteArray).extract k (k+1)=⟨[UInt8.ofNat (48+k)].toArray⟩:=by
 have:=iQ aKx k (k+1);rw [aJD a] at this;exact this
def aAN {z:Int} (a:0<=z) (b:z<=9223372036854775807):wrap64 z=z:=by unfold wrap64;omega
def tK {z:Int} (o:World) (s:0<=z) (E:z<=4611686018427387904):
 Calls prog 4 #[.int .i64 z] o fun v D=>v=.returned (dY (Lib.itoa z))/\o=D:=by
 obtain ⟨b,rfl⟩:=Int.eq_ofNat_of_zero_le s;rw [aIa];obtain ⟨q,c⟩:=eqx (Lib.decDigits b);have F:q.length<=20:=by rw [<-c];exact iP b 19 (by simp only [Nat.reduceAdd,Nat.reducePow];omega)
 rw [c];have u:=lhd c;clear c s;go_enter func4,ntmps4;go_wp2_with fail;go_loopw [0,3] (fun i C wr=>∃(n:Nat) (l:List UInt8),i=.int .i64 (n:Int)/\C=.string ⟨l.toArray⟩/\Lib.decDigits n++l=q/\n<=b/\o=wr) (fun i _ _=>(intOf i).toNat)
 case atStart=>exact ⟨b, [],rfl,rfl,by rw [List.append_nil];exact u.out,zAs _,rfl⟩
 case round=>
  obtain ⟨n,l,rfl,rfl,a,H,rfl⟩:=hrel;have G:l.length<=20:=by have:=congrArg List.length a;rw [zAi] at this;omega
  by_cases y:9 < n
  · have A:(9:Int) < (n:Int):=oM;have w:Int.tmod (n:Int) 10=((n % 10:Nat):Int):=rfl;have x:Int.tdiv (n:Int) 10=((n / 10:Nat):Int):=rfl;have r:wrap64 (((n % 10:Nat):Int)+1)=((n % 10+1:Nat):Int):=(by rw [aAN oM oM];rfl);have d:=aHz (k:=n % 10) oM;have B:0<=((n % 10:Nat):Int)+1/\((n % 10:Nat):Int)+1<=10:=oM;have m:=fP [UInt8.ofNat (48+n % 10)] l;have j:=aAN (z:=((n / 10:Nat):Int)) oM oM;have t:=(aIt y l).trans a;obtain ⟨g,f⟩:=hqq2 t (show n / 10 < n/\n / 10<=b by omega);have e:=fO [UInt8.ofNat (48+n % 10)] l (by simp) oM;clear t a;generalize [UInt8.ofNat (48+n % 10)]=dg at d m e g;generalize n % 10=m10 at w r d B;generalize n / 10=d10 at x j g f;go_wp2_with fail;clear e;go_roundw
    case rel=>exact ⟨d10,dg++l,congrArg (Value.int .i64) j,rfl,g.out,f.out.2,by first | rfl | trivial⟩
    case measure=>rw [j];simpa [intOf] using f.out.1
  · have A:¬(9:Int) < (n:Int):=oM;have r:wrap64 ((n:Int)+1)=((n+1:Nat):Int):=(by rw [aAN oM oM];rfl);have d:=aHz (k:=n) oM;have m:=fP [UInt8.ofNat (48+n)] l;have e:=fO [UInt8.ofNat (48+n)] l (by simp) oM;rw [Lib.decDigits_one oM] at a;have p:=lhd a;clear a;generalize [UInt8.ofNat (48+n)]=dg at d m e p;go_wp2_with fail;go_ret;exact ⟨by rw [<-p.out];rfl,rfl⟩
def aAp (l:List UInt8) (f:World) (w:l.length<=1000000):
 Calls prog 26 #[.string ⟨l.toArray⟩] f fun q y=>q=.returned (.tuple #[dY (cV l).1,dY (cV l).2.1,.bool (cV l).2.2])/\Below f.heap.size f y:=by
 obtain ⟨c,k⟩:=eqx l.length;have E:(⟨l.toArray⟩:ByteArray).size=c:=(lM l).trans k;rw [k] at w;have i:=lhd k;clear k;go_enter func26,ntmps26;go_wp2_with fail;go_loopw [5] (fun p wr=>∃a:Nat,a<=c/\p=.int .i64 (a:Int)/\(∀b∈l.take a,b≠32)/\f=wr) (fun p _=>c -(intOf p).toNat)
 case atStart=>exact ⟨0,zAp _,rfl,by simp,rfl⟩
 case round=>
  obtain ⟨a,v,rfl,d,rfl⟩:=hrel;by_cases r:a < c
  · obtain ⟨b,g⟩:∃b,l[a]?=some b:=⟨_,zAa (by rw [i.out];exact r)⟩;have A:=aES g;have x:(a:Int) < (c:Int):=oM;by_cases j:b=32
    · subst j;have hcut:=aFi d g;have B:=fun f=>aFw l f a (by rw [i.out];exact v);have C:(⟨l.toArray⟩:ByteArray).extract (a+1) c=⟨(l.drop (a+1)).toArray⟩:=(by rw [iQ,zAg (by rw [zAw,i.out];exact zAs _)]);have z:wrap64 ((a:Int)+1)=((a+1:Nat):Int):=(by rw [aAN oM oM];rfl);have t:((UInt8.toNat 32:Nat):Int)=32:=rfl;have m:=lhd hcut;clear hcut g d;go_wp2_with fail;go_quiet (fail);go_wp2_with fail;go_ret3;rw [m.out];exact ⟨rfl,below_drewN bR _⟩
    · have t:¬(b.toNat:Int)=32:=fun q=>j (by
       apply UInt8.toNat_inj.1;show b.toNat=32;omega)
      have D:((b.toNat:Int)==32)=false:=(by rw [zCb];exact t);have s:∀o∈l.take (a+1),o≠32:=(by rw [zAv,g];intro o e;rcases zCp.1 e with e | e;exact d o e;simp at e;rw [e];exact j);have u:=lhd s;clear d s g j;go_wp2_with fail;go_roundw
      case rel=>exact ⟨a+1,r,by go_num,u.out,by first | rfl | trivial⟩
      case measure=>simp [intOf];omega
  · have x:¬(a:Int) < (c:Int):=oM;have hcut:=aFh (l:=l) (by rw [zAg (by rw [i.out];omega)] at d;exact d);have m:=lhd hcut;clear hcut d;go_wp2_with fail;go_ret3;rw [m.out];exact ⟨rfl,Below.refl _ _⟩
def aHX {b:UInt8} (a:cQ b=true):48<=b.toNat/\b.toNat<=57:=by
 unfold cQ at a;rw [zBd] at a;exact ⟨of_decide_eq_true a.1,of_decide_eq_true a.2⟩
def aAo (l:List UInt8) (q:World) (S:l.length<=1000000):
 Calls prog 28 #[.string ⟨l.toArray⟩] q fun v X=>v=.returned (.int .i64 (yH l))/\Below q.heap.size q X:=by
 obtain ⟨b,e⟩:=eqx l.length;have a4:(⟨l.toArray⟩:ByteArray).size=b:=(lM l).trans e;rw [e] at S;have r:=lhd e;obtain ⟨Y,w⟩:=eqx (yH l);rw [w];have s:=lhd w;by_cases a1:b < 1
 · have M:(b:Int) < 1:=oM;have c:=aAV (l:=l) (.inl (zBk oM));rw [s.out] at c;subst c;clear e;go_enter func28,ntmps28;go_wp2_with fail;go_ret;exact ⟨rfl,Below.refl _ _⟩
 have M:¬(b:Int) < 1:=oM;by_cases a2:6 < b
 · have N:(6:Int) < (b:Int):=oM;have c:=aAV (l:=l) (.inr (.inl oM));rw [s.out] at c;subst c;clear e;go_enter func28,ntmps28;go_wp2_with fail;go_ret;exact ⟨rfl,Below.refl _ _⟩
 have N:¬(6:Int) < (b:Int):=oM;have L:l≠ []:=fun v=>by rw [v] at e;simp at e;omega
 clear e w;go_enter func28,ntmps28;go_wp2_with fail;go_loopw [3,4] (fun H d wr=>∃a:Nat,a<=b/\H=.int .i64 ((mN (l.take a):Nat):Int)/\d=.int .i64 (a:Int)/\(l.take a).all cQ=true/\mN (l.take a) < 10 ^ a/\Below q.heap.size q wr) (fun _ d _=>b -(intOf d).toNat)
 case atStart=>exact ⟨0,zAp _,rfl,rfl,rfl,by simp [mN],Below.refl _ _⟩
 case round=>
  obtain ⟨a,a3,rfl,rfl,i,u,k⟩:=hrel;by_cases C:a < b
  · obtain ⟨f,j⟩:∃f,l[a]?=some f:=⟨_,zAa (by rw [r.out];exact C)⟩;have B:=aES j;have T:(a:Int) < (b:Int):=oM;by_cases m:cQ f=true
    · obtain ⟨J,K⟩:=aHX m;have o:=aHV j;have y:=aIq j i;rw [m] at y;have D:10 ^ a<=10 ^ 5:=zBp dC oM;have A:mN (l.take (a+1)) < 10 ^(a+1):=(by rw [o,Nat.pow_succ];omega);have R:mN (l.take a) < 100000:=zAl u D;obtain ⟨I,x⟩:=eqx (mN (l.take a));obtain ⟨d,p⟩:=eqx f.toNat;rw [x] at o R;rw [p] at o J K B;rw [x];have V:¬(d:Int) < 48:=oM;have W:¬(57:Int) < (d:Int):=oM;have Z:IntKind.u8.wrap ((d:Int) - 48)=((d - 48:Nat):Int):=(by rw [IntKind.wrap_u8];omega);have a0:IntKind.i64.wrap ((d - 48:Nat):Int)=((d - 48:Nat):Int):=(by rw [IntKind.wrap_i64];omega);obtain ⟨G,F,E,g⟩:=hqq4 o y A k;clear y A u o i j m p x k D;go_wp2_with fail;go_roundw
      case rel=>exact ⟨a+1,C,congrArg (Value.int .i64) (by have:=G.out;omega),by go_num,F.out,E.out,g.out⟩
      case measure=>simp [intOf];omega
    · have c:=aAV (l:=l) (.inr (.inr (aKw (zAd j) (by simpa using m))));rw [s.out] at c;have t:=lhd c;have O:¬(48<=f.toNat/\f.toNat<=57):=fun z=>m (by unfold cQ;rw [zBz z.1,zBz z.2];rfl);obtain ⟨d,p⟩:=eqx f.toNat;rw [p] at O B;have g:=lhd k;clear c j m p i u k;generalize mN (l.take a)=I;by_cases V:(d:Int) < 48
      · go_wp2_with fail;go_ret;exact ⟨by rw [t.out];rfl,g.out⟩
      · have W:(57:Int) < (d:Int):=oM;go_wp2_with fail;go_ret;exact ⟨by rw [t.out];rfl,g.out⟩
  · have T:¬(a:Int) < (b:Int):=oM;obtain rfl:a=b:=oM;rw [zAg (by rw [r.out];exact zAs _)] at i;have c:=aHW L (by rw [r.out];omega) i;rw [s.out] at c;have t:=lhd c;have U:l.take a=l:=zAg (by rw [r.out];exact zAs _);rw [U];have g:=lhd k;clear c i u k;go_wp2_with fail;go_ret;exact ⟨by rw [t.out];rfl,g.out⟩
end
section
open Go.RowKit Go.Shelf
def iB (f:Nat):∀(d:List Value) (b:Nat) (i:World) (g:TypeId) (c:Array Value),Bk i f g c->∃e:Array Value,Bk (i.setCells f b d) f g e/\e.size=c.size/\∀a,a < c.size->e[a]?=if b<=a/\a < b+d.length then d[a - b]? else c[a]?
 | [],b,i,g,c,j=>⟨c,j,rfl,fun a k=>by rw [zBw (by simp)]⟩
 | v::d,b,i,g,c,j=>by
   obtain ⟨e,p,q,r⟩:=iB f d (b+1) (i.setCell ⟨f,b,none⟩ v) g _ (j.set b v);refine ⟨e,p,by rw [q];simp,fun a k=>?_⟩;rw [r a (by simpa using k)];by_cases m:b+1<=a/\a < b+1+d.length;rw [zBx m,zBx (by simp;omega),show a - b=(a -(b+1))+1 by omega];rfl
   · rw [zBw m,zCd];by_cases o:b=a;subst o;rw [zBx rfl,zBx k,zBx (by simp),Nat.sub_self];rfl
     · rw [zBw o,zBw (by simp;omega)]
def kG (a:Nat):∀(f:List Value) (b:Nat) (w0 c:World),Keep (fun d=>d=a) w0 c->Keep (fun d=>d=a) w0 (c.setCells a b f)
 | [],_,_,_,e=>e
 | v::f,b,w0,c,e=>kG a f (b+1) w0 (c.setCell ⟨a,b,none⟩ v) (e.setCell (p:=⟨a,b,none⟩) (.inl rfl) v)
def gA {f:Nat->Prop} (a:Nat):∀(e:List Value) (b:Nat) (w0 c:World),w0.heap.size<=a->Keep f w0 c->Keep f w0 (c.setCells a b e)
 | [],_,_,_,_,d=>d
 | v::e,b,w0,c,hg,d=>gA a e (b+1) w0 (c.setCell ⟨a,b,none⟩ v) hg (d.setCell (p:=⟨a,b,none⟩) (.inr hg) v)
def Bk.shape {e:World} {b:Nat} {d:TypeId} {a:Array Value} (c:Bk e b d a):e.shape? b=some (d,a.size):=by
 unfold Bk at c;unfold World.shape?;rw [c]
def fU {b:Array Value} {c:List Value} {n:Nat} (f:c.length=n) (g:n<=b.size) (e:∀a,a < n->b[a]?=c[a]?):b.toList.take n=c:=by
 apply List.ext_getElem?;intro a;by_cases d:a < n;rw [List.getElem?_take_of_lt d,Array.getElem?_toList];exact e a d
 · rw [List.getElem?_take_eq_none oM,zBg oM]
def tA {j:World} {f e n c:Nat} {g:TypeId} {k:List Value} (m:j.ownsRow f g 1 (.slice (some e) n c) n k) (w:0 < n):∃b:Array Value,Bk j e g b/\b.size=c/\n<=c/\c<=maxLen/\f<=e/\∀d,d < n->b[d]?=k[d]?:=by
 rcases m.2 with ⟨a,v⟩|⟨u,t,b,a,o,p,s,r,x,i⟩
 · cases a
 · injection a with a _ h3;injection a with a;injection a with a _;subst a h3;refine ⟨b,p,by omega,s,r,o,fun d q=>?_⟩;rw [zBl] at i;rw [<-i,List.getElem?_take_of_lt q,Array.getElem?_toList]
def sI (g:Nat) (d:Value) (n:Nat) (k:List Value) (e:World) (j:Ending) (f:World):Prop:=
 ∃a b,j=.returned (.slice a (n+1) b)/\f.ownsRow g 3 1 (.slice a (n+1) b) (n+1) k/\Keep (fun i=>d.ownBlock=some i) e f/\((Value.slice a (n+1) b).ownBlock=d.ownBlock∨∃c,(Value.slice a (n+1) b).ownBlock=some c/\e.heap.size<=c)
def yZ {B:Nat} {u:Option Addr} {n f b:Nat} {d:List Nat} {p j:Nat} {c:World} (F:c.ownsRow B 3 1 (.slice u n f) n (d.map sv)) (A:Bk c p 3 #[sv j]) (a9:∀w,(Value.slice u n f).ownBlock=some w->w≠p) (Z:B<=c.heap.size) (S:b < n) (ag:n<=1000000):
 Calls prog 70 #[.slice u n f,(b:Int),.slice (some p) 1 1] c (sI B (.slice u n f) n ((aP d b j).map sv) c):=by
 have m:d.length=n:=by have:=F.1;simpa using this
 obtain ⟨g,ai,D,_,af⟩:=World.ownsRow.form F oM;injection D with D _ e3;subst D e3;obtain ⟨L,t,a6,a7,U,a0,O⟩:=tA F oM;have a8:p≠g:=fun s=>a9 g rfl s.symm;have R:∀a e,(d.map sv)[a]?=some e->c.cell? ⟨g,0+a,none⟩=some e:=fun a e k=>by
  have i:a < n:=by have:=(zAc.1 k).1;simpa [m] using this
  rw [zBi,t.cell,O a i,k]
 have W:∀a e, [sv j][a]?=some e->c.cell? ⟨p,0+a,none⟩=some e:=fun a e k=>by
  rw [zBi,A.cell,<-k];rcases a with _ | a;rfl
  · simp at k
 have M:∀e∈d.map sv,e.oneCell'=true:=fun e k=>by obtain ⟨ad,_,rfl⟩:=zAy.1 k;rfl
 have N:∀e∈ [sv j],e.oneCell'=true:=fun e k=>by rw [List.mem_singleton] at k;subst k;rfl
 have T:∀a,a < n+1->((aP d b j).map sv)[a]?=if a < b then (d.map sv)[a]? else if a=b then some (sv j) else (d.map sv)[a - 1]?:=fun a i=>by rw [mZ,iE _ _ (by rw [zBc];omega)]
 have z:((aP d b j).map sv).length=n+1:=by rw [zBc,fJ _ _ oM,m]
 by_cases V:n+1<=f
 · have a5:∀a,a < n+1->c.cell? ⟨g,0+a,none⟩=some (L.getD a (.bool false)):=fun a i=>by rw [zBi,t.cell,zAq oM];congr 1;rw [zAm,zAq oM];rfl
   have E:=Any2.slices_Insert_int_shift shIns g 0 n f b p 0 1 1 (d.map sv) [sv j] c S dC V (by unfold maxLen at U;omega) a8 (by simpa using m) rfl R (fun a i=>by rw [a5 a i];rfl) (fun a i=>by rw [zBi];exact t.frozen a) W M N 3 3 1 L.size (A.shape) (t.shape) oM (A.frozen 0) (A.frozen 1);refine E.mono ?_;rintro s ac ⟨rfl,rfl⟩;obtain ⟨Y,G,aa,H⟩:=iB g ((d.map sv).drop b) (0+(b+1)) c.drew _ _ t.drew;obtain ⟨C,J,ab,K⟩:=iB g [sv j] (0+b) _ _ _ G;refine ⟨_,f,rfl,⟨by rw [z,zBl],.inr ⟨g,f,C,rfl,a0,J,V,U,by omega,?_⟩⟩,(kG g _ _ c _ (kG g _ _ c _ (Keep.refl _ c).drew)).mono fun w _ s=>by rw [show w=g from s];rfl,.inl rfl⟩;rw [zBl];refine fU z oM fun a i=>?_;rw [T a i,K a oM,H a oM];simp only [zCg,List.length_nil,zAw,zBc,m];by_cases o:a < b
   · rw [zBw oM,zBw oM,zBx o,O a oM]
   · by_cases r:a=b
     · subst r;rw [zBx oM,zBw oM,zBx rfl];simp
     rw [zBw oM,zBx oM,zBw o,zBw r,zBt];congr 1;omega
 · have E:=Any2.slices_Insert_int_grow shIns g 0 n f b p 0 1 1 (d.map sv) [sv j] c S dC a7 oM oM (by simpa using m) rfl R W M N;refine E.mono ?_;rintro s ac ⟨rfl,rfl⟩;obtain ⟨q,y⟩:=eqx (grownCap c (n+1) f 3);have a2:n+1<=q:=(by rw [<-y];exact grownCap_ge _ _ _ _);have a3:q<=maxLen:=(by rw [<-y];exact grownCap_le_maxLen _ _ _ _ (by unfold maxLen;omega));show sI _ _ _ _ _ (.returned (.slice _ _ (grownCap c (n+1) f 3))) _;rw [y];have X:∀I,(Builtin.zeroCells (Value.int .i64 0).cells I).size=I:=fun I=>by simp [Builtin.zeroCells,Value.cells]
   obtain ⟨v,x⟩:=eqx (((d.map sv).take b).toArray++Builtin.zeroCells (Value.int .i64 0).cells (n+1 - b)++Builtin.zeroCells (Value.int .i64 0).cells (q -(n+1)));have ae:v.size=q:=(by rw [<-x,Array.size_append,Array.size_append,X,X];simp [m];omega);have a1:∀a,a < b->v[a]?=(d.map sv)[a]?:=fun a i=>by have ah:(((d.map sv).take b).toArray).size=b:=(by simp [m];omega);rw [<-x,Array.append_assoc,Array.getElem?_append_left oM,zCx,List.getElem?_take_of_lt i]
   have a4:Bk (c.alloc (.cells v 3)) c.heap.size 3 v:=Bk.new _ _ _;have a6:=x;show sI _ _ _ _ _ _ ((((c.alloc (.cells (((d.map sv).take b).toArray++Builtin.zeroCells (Value.int .i64 0).cells (n+1 - b)++Builtin.zeroCells (Value.int .i64 0).cells (grownCap c (n+1) f 3 -(n+1))) 3)).drew.setCells c.heap.size b [sv j]).drew).setCells c.heap.size (b+1) ((d.map sv).drop b));rw [y,x];obtain ⟨Y,G,aa,H⟩:=iB c.heap.size [sv j] b _ _ _ a4.drew;obtain ⟨C,J,ab,K⟩:=iB c.heap.size ((d.map sv).drop b) (b+1) _ _ _ G.drew;refine ⟨_,q,rfl,⟨by rw [z,zBl],.inr ⟨c.heap.size,q,C,rfl,Z,J,a2,a3,by omega,?_⟩⟩,gA _ _ _ c _ nL (gA _ _ _ c _ nL ((Keep.refl _ c).alloc _).drew).drew,.inr ⟨_,rfl,zAs _⟩⟩;rw [zBl];refine fU z oM fun a i=>?_;rw [T a i,K a oM,H a oM];simp only [zCg,List.length_nil,zAw,zBc,m];by_cases o:a < b
   · rw [zBw oM,zBw oM,zBx o,a1 a o]
   · by_cases r:a=b
     · subst r;rw [zBw oM,zBx oM,zBw o,zBx rfl];simp
     rw [zBx oM,zBw o,zBw r,zBt];congr 1;omega
def zA {B:Nat} {A:Option Addr} {n c i:Nat} {ks:List Nat} {gx k:Nat} {w:World} (f:w.ownsRow B 3 1 (.slice A n c) n (ks.map sv)) (g:Bk w gx 3 #[sv k]) (z:∀d,(Value.slice A n c).ownBlock=some d->d≠gx) (m:B<=w.heap.size) (C:i<=n) (o:n<=1000000):
 Calls prog 70 #[.slice A n c,(i:Int),.slice (some gx) 1 1] w (sI B (.slice A n c) n ((aP ks i k).map sv) w):=by
 by_cases u:i < n;exact yZ f g z m u o
 · obtain rfl:i=n:=oM;have D:ks.length=i:=(by have:=f.1;simpa using this);have y:Rd w w.heap.size 1 (some ⟨gx,0,none⟩) 1 [sv k]:=by
    refine ⟨rfl,fun _=>⟨gx,0,rfl,g.lt,fun q E e=>?_⟩⟩;rcases q with _ | q;injection e with e;subst e;exact (g.cell 0).trans rfl
    · simp at e
   refine (oZ 1 f y m o).mono ?_;rintro j G ⟨F,rfl,p,a,b⟩;have t:(aP ks i k).map sv=ks.map sv++ [sv k]:=(by unfold aP;rw [zAg oM,List.drop_of_length_le oM,zAz];rfl);obtain ⟨r,s,rfl,_⟩:=aQ p;refine ⟨r,s,rfl,by rw [t];exact p,⟨a.os,a.tape,a.output,a.size,fun d v x=>a.block d v fun j=>x j.symm⟩,?_⟩;rcases b with b | b;exact .inl b;exact .inr ⟨_,b,zAs _⟩
end
section
open Go.RowKit Go.Shelf
open Go.Sort (Holds PermIn SortedIn SWO heap_grow_old)
def aHj {e:World} {f base a c n k:Nat} {os:Array Obj} {d:Array Value} {b:Array (Fin (f+1))} (i:b.size=n) (g:Bk e a 3 d) (r:base<=a) (m:n<=c) (o:c<=maxLen) (p:d.size=c):
 (sortWorld (eM f) e a 0 k b os).ownsRow base 3 1 (.slice (some a) n c) n ((b.toList.map fun w=>w.val).map sv):=by
 have s:=g.lt;have t:(sortWorld (eM f) e a 0 k b os).heap[a]?=some (.cells (Go.Sort.putCells (eM f) 0 b d) 3 (0,0)):=by unfold sortWorld;rw [heap_grow_old _ _ (by show a < (e.heap.modify a _).size;simpa using s)];have q:e.heap[a]?=some (.cells d 3 (0,0)):=g;simp [Go.Sort.putRow,Go.Sort.mapBlock,Go.Sort.ahead,Array.getElem?_modify,q,Go.Sort.onCells]
 refine ⟨by simp [i],.inr ⟨a,c,_,rfl,r,t,m,o,by simp [Go.Sort.putCells,p],?_⟩⟩;rw [zBl];refine fU (by simp [i]) (by simp [Go.Sort.putCells];omega) fun j x=>?_;have u:j < d.size:=oM;have v:j < b.size:=oM;simp [Go.Sort.putCells,Array.getElem?_mapIdx,u,v,eM,sv,aCt]
def aF1 {c:Nat} {a:List Nat} (d:∀b∈a,b < c+1):(fA c a).toList.map (fun f=>f.val)=a:=by
 unfold fA;rw [zCh]
 conv=>rhs;rw [<-List.map_id a]
 exact List.map_congr_left fun b e=>zBu (d b e)
def cfK (b:Nat) (a:Nat->Nat) (c d:Fin (b+1)):Int:=Lib.compareInt ((a c.val:Nat):Int) ((a d.val:Nat):Int)
def aAW (b:Nat) (a:Nat->Nat) (c d:Fin (b+1)):ltOf (cfK b a) c d=decide (a c.val < a d.val):=by
 unfold ltOf cfK;rw [decide_eq_decide,uY];omega
def aI2 (a:Nat) (b:Nat->Nat):SWO (ltOf (cfK a b)) where
 irrefl x:=by rw [aAW];simp
 trans x y z h1 h2:=by
  rw [aAW,zCa] at*
  omega
 ntrans x y z h1 h2:=by
  rw [aAW,decide_eq_false_iff_not] at*
  omega
def aBX {g:Nat} {c:List Nat} {f:Nat->Nat} {b:Array (Fin (g+1))} (x:∀E∈c,E < g+1) (s:PermIn 0 (fA g c).size (fA g c) b) (D:SortedIn (ltOf (cfK g f)) 0 (fA g c).size b) (B:c.Nodup) (z:∀a∈c,∀t∈c,f a=f t->a=t):
 (b.toList.map fun a=>a.val).Perm c/\(b.toList.map fun a=>a.val).Pairwise (fun u v=>f u < f v):=by
 have i:(b.toList.map fun a=>a.val).Perm c:=by have:=(vV s).map (fun a:Fin (g+1)=>a.val);rwa [aF1 x] at this
 refine ⟨i,?_⟩;have C:(b.toList.map fun a=>a.val).Nodup:=i.nodup_iff.2 B;rw [zAr];intro d e j k p;have A:d < b.size:=by simpa using j
 have q:e < b.size:=by simpa using k
 have y:=D d e (zAp _) p (by rw [<-s.1];exact q);rw [aAW,decide_eq_false_iff_not,aCt _ _ A,aCt _ _ q] at y;have m:(b.toList.map fun a=>a.val)[d]=b[d].val:=by simp
 have o:(b.toList.map fun a=>a.val)[e]=b[e].val:=by simp
 have r:(b.toList.map fun a=>a.val)[d]≠(b.toList.map fun a=>a.val)[e]:=zAr.1 C d e j k p;have F:b[d].val∈c:=i.subset (by rw [<-m];exact zBj j);have G:b[e].val∈c:=i.subset (by rw [<-o];exact zBj k);rw [m,o] at r⊢;have H:f b[d].val≠f b[e].val:=fun w=>r (z _ F _ G w);omega
end
section
open Go.RowKit
def aHD (a:Option Addr) (n c b:Nat):Array Value:=#[.slice a n c,.int .i64 (b:Int),.bool false]
def mF {gr:Nat} {A:Option Addr} {n c B at_ to_ v:Nat} (a:Nat) {l:List UInt8} {w:World} (b:Bk w gr 188 (aHD A n c at_)) (g:Rd w B 1 A n (l.map bv)) (r:n<=c) (e:c<=maxLen) (f:eB l (at_:Int)=(v,(to_:Int),0)) (C:v<=a) (z:a<=4611686018427387904):
 Calls prog 167 #[gr,(a:Int)] w fun q i=>q=.returned (.int .i64 (v:Int))/\Bk i gr 188 (aHD A n c to_)/\Keep (fun d=>d=gr) w i:=by
 have u:w.cell? gr=some (.slice A n c):=b.cell 0;have x:w.cell? ⟨gr,1,none⟩=some (.int .i64 (at_:Int)):=b.cell 1;have y:=b.frozen 1;obtain ⟨j,o,m,k⟩:=hqq4 b g f e;have s:¬((v:Int) > (a:Int)):=oM;have D:decide ((v:Int) > (a:Int))=false:=zBy s;have t:¬a < v:=oM;have E:decide (a < v)=false:=zBy t;have F:IntKind.u64.wrap (a:Int)=(a:Int):=by rw [IntKind.wrap_u64];omega
 have G:IntKind.i64.wrap (v:Int)=(v:Int):=by rw [IntKind.wrap_i64];omega
 clear b g f e;go_enter func167,ntmps167;go_wp2_with fail;go_quiet (exact aDL (eR m.out (o.out.drewN _) r k.out));go_wp2_with fail;go_ret;exact ⟨rfl,(j.out.drewN nq).set 1 _,((Keep.refl (fun d=>d=gr) w).drewN nq).setCell (p:=⟨gr,1,none⟩) (.inl rfl) _⟩
def rY {gr:Nat} {A:Option Addr} {n c B at_ q k:Nat} (a:Nat) {l:List UInt8} {w:World} (g:Bk w gr 188 (aHD A n c at_)) (v:Rd w B 1 A n (l.map bv)) (N:n<=c) (L:c<=maxLen) (X:n<=1099511627776) (s:eB l (at_:Int)=(k,(q:Int),0)) (Y:q+(k+4)=a) (a0:a<=n):
 Calls prog 168 #[gr] w fun o z=>o=.returned (.slice (gO A c q 1) k (c - q))/\Bk z gr 188 (aHD A n c a)/\Keep (fun E=>E=gr) w z:=by
 have u:=mF n g v N L s oM oM;have F:w.cell? gr=some (.slice A n c):=g.cell 0;clear g v s;go_enter func168,ntmps168;go_wp2_with fail;refine u.mono ?_;clear u;rintro o w1 ⟨rfl,d,t⟩;have G:w1.cell? gr=some (.slice A n c):=d.cell 0;have H:w1.cell? ⟨gr,1,none⟩=some (.int .i64 (q:Int)):=d.cell 1;have I:w1.cell? ⟨gr,2,none⟩=some (.bool false):=d.cell 2;have K:=d.frozen 1;obtain ⟨j,m⟩:=hqq2 d t;obtain ⟨b,M⟩:∃b,n - q=b+4:=⟨n - q - 4,by omega⟩;have R:IntKind.i64.wrap ((n:Int) -(q:Int))=((b+4:Nat):Int):=by rw [IntKind.wrap_i64];omega
 have S:IntKind.i64.wrap (((b+4:Nat):Int) - 4)=(b:Int):=by rw [IntKind.wrap_i64];omega
 have x:¬((k:Int) > (b:Int)):=oM;have T:decide ((k:Int) > (b:Int))=false:=zBy x;have y:¬b < k:=oM;have U:decide (b < k)=false:=zBy y;clear d t F;go_wp2_with fail;go_quiet (fail);go_wp2_with fail;have J:((q:Int)+((k:Int)+4))=(a:Int):=oM;rw [J];have e:=(j.out.drewN nq).set 1 (.int .i64 (a:Int));have f:=(m.out.drewN nq).setCell (p:=⟨gr,1,none⟩) (.inl rfl) (.int .i64 (a:Int));generalize (w1.drewN nq).setCell ⟨gr,1,none⟩ (.int .i64 (a:Int))=w2 at e f⊢;have V:w2.cell? gr=some (.slice A n c):=e.cell 0;have W:w2.cell? ⟨gr,1,none⟩=some (.int .i64 (a:Int)):=e.cell 1;obtain ⟨C,D⟩:=hqq2 e f;obtain ⟨i,a1⟩:=eqx (q+k);have a4:IntKind.i64.wrap ((a:Int) -(k:Int))=((q+4:Nat):Int):=by rw [IntKind.wrap_i64];omega
 have a5:IntKind.i64.wrap (((q+4:Nat):Int) - 4)=(q:Int):=by rw [IntKind.wrap_i64];omega
 have a6:IntKind.i64.wrap ((a:Int) - 4)=(i:Int):=by rw [IntKind.wrap_i64];omega
 have O:=fun w=>aAM (P:=prog) 34 5 1 underlying34 (fun w=>by kernel_rfl) A n c q i oM oM w;have r:i - q=k:=oM;rw [r] at O;have Z:q<=1099511627776:=oM;have a2:a<=1099511627776:=oM;have a3:q+k+4=a:=oM;clear e f j m G H I K M R S x T y U r;go_quiet (fail);go_wp2_with fail;go_ret;exact ⟨rfl,C.out.drewN _,D.out.drewN _⟩
end
section
open Go.RowKit Go.Shelf
def zE {B:Nat} {A:Option Addr} {n c i:Nat} {ks:List Nat} {w:World} (s:w.ownsRow B 3 1 (.slice A n c) n (ks.map sv)) (X:i < n) (Y:n<=1000000):
 Calls prog 265 #[.slice A n c,(i:Int),.int .i64 ((i+1:Nat):Int)] w fun k v=>k=.returned (.slice A (n - 1) c)/\v.ownsRow B 3 1 (.slice A (n - 1) c) (n - 1) ((aG ks i).map sv)/\Keep (fun o=>(Value.slice A n c).ownBlock=some o) w v:=by
 have D:ks.length=n:=by have:=s.1;simpa using this
 obtain ⟨d,a1,p,_,W⟩:=World.ownsRow.form s oM;injection p with p _ e3;subst p e3;obtain ⟨G,x,T,Z,E,H,K⟩:=tA s oM;obtain ⟨b,u⟩:∃b:List Int,ks.map (fun S=>((S:Nat):Int))=b:=⟨_,rfl⟩;have t:b.length=n:=by rw [<-u,zBc,D]
 have R:ks.map sv=b.map (Value.int .i64):=by rw [<-u,zCh];rfl
 have I:Sort.Holds (Value.int .i64) w d 0 b.toArray:=holds_of_blockI x (by
  refine fU (by simp) oM fun a r=>?_;rw [K a oM,R])
 have q:=Any.slices_Delete_int shDel d 0 c i (i+1) b w I oM (by unfold maxLen at E;omega) oM oM;rw [t] at q;have V:(aG ks i).length+1=n:=by rw [cM oM,D]
 have U:(aG b i).length+1=n:=by rw [cM oM,t]
 obtain ⟨j,m⟩:=eqx (b.take i++b.drop (i+1)++List.replicate (i+1 - i) 0);have a0:j.length=n:=by rw [<-m];simp [t];omega
 have N:∀a,a < n - 1->j[a]?=(aG b i)[a]?:=fun a r=>by rw [<-m];show ((aG b i)++List.replicate (i+1 - i) 0)[a]?=_;rw [zAn oM]
 rw [m] at q;clear m;refine q.mono ?_;rintro k v ⟨rfl,F,rfl⟩;have e:=grownBy_sortedI (w:=w) (g:=d) (n:=F) (os:=#[]) j.toArray;have y:=heap_sortedI (w:=w) (g:=d) (n:=F) (os:=#[]) j.toArray x;rw [Go.Sort.grow_empty] at e y;refine ⟨by rw [show i+1 - i=1 by omega],⟨by rw [zBc,zBl];omega,.inr ⟨d,c,_,rfl,H,y,by omega,E,by simp [Go.Sort.putCells];omega,?_⟩⟩,⟨e.os,e.tape,e.output,e.size,fun o J M=>e.block o J fun k=>M k.symm⟩⟩;rw [zBl];refine fU (by rw [zBc];omega) (by simp [Go.Sort.putCells];omega) fun a r=>?_;have z:a < (aG ks i).length:=oM;have O:(aG b i)[a]?=some (((aG ks i)[a]:Nat):Int):=by rw [<-u,<-rJ,zAf,zAa z];rfl
 rw [zAf,zAa z];have f:=N a r;rw [O] at f;have L:a < G.size:=oM;have C:a < j.length:=oM;rw [zAa C] at f;injection f with f;simp [Go.Sort.putCells,Array.getElem?_mapIdx,L,C,f,sv]
end
section
open Go.RowKit
def xE {c gk:Nat} {e:List Nat} {o m:Nat} (d:Nat) {q:World} (ac:WalkAt q c gk e) (a4:d < 257) (aJ:o<=m) (ad:m<=e.length) (a1:∀W∈e,W < 257) (N:e.length<=1000):
 Calls prog 163 #[gk,(o:Int),(m:Int),(d:Int)] q fun r aj=>r=.returned (.tuple #[.int .i64 ((cB e d o:Nat):Int),.int .i64 ((cB e d m:Nat):Int)])/\VB c q aj:=by
 obtain ⟨G,a2⟩:=eqx e.length;obtain ⟨j,H⟩:∃j,e.countP (fun W=>decide (W < d))=j:=⟨_,rfl⟩;obtain ⟨u,I⟩:=eqx ((e.take o).count d);obtain ⟨v,J⟩:=eqx ((e.take m).count d);have al:j<=1000:=by rw [<-H];exact zAk zBh N
 have b1:u<=1000:=by rw [<-I];exact zAk zBv (by rw [zAj];omega)
 have b2:v<=1000:=by rw [<-J];exact zAk zBv (by rw [zAj];omega)
 unfold cB;rw [H,I,J];obtain ⟨t,ab,R,T,a6⟩:=ac;have F:Hid (WalkAt q c gk e):=lhd ⟨t,ab,R,T,a6⟩;obtain ⟨x,Z⟩:=hqq2 R T;have aL:G<=1000:=oM;have aK:m<=G:=oM;obtain ⟨D,X,C,A,Y,a7,a8⟩:=hqq7 a4 a1 N a2 H I J;have af:max (o:Int) 0=(o:Int):=oM;have ag:min (o:Int) (G:Int)=(o:Int):=oM;have ah:min (m:Int) (G:Int)=(m:Int):=oM;have ai:max (m:Int) (o:Int)=(m:Int):=oM;clear R T a6 a1 N H I J ad;go_enter func163,ntmps163;go_wp2_with fail;refine (eP (s:=d) _ a4).mono ?_;rintro r w1 ⟨rfl,a3⟩;have a5:VB c q w1:=VisK.of_below a3;have E:=lhd a5;clear a3 a5;go_wp2_with fail;refine (kC (B:=c) (gk:=gk) (L:=e) (F.out.vis E.out.1)).mono ?_;rintro r k ⟨rfl,rfl⟩;rw [A.out];go_wp2_with fail;refine (kC (B:=c) (gk:=gk) (L:=e) (F.out.vis E.out.1)).mono ?_;rintro r k ⟨rfl,rfl⟩;rw [A.out];go_wp2_with fail;have p:=lhd E.out;clear E af ag ah ai a2;obtain ⟨k,ae⟩:∃k,k=w1:=⟨_,rfl⟩;subst ae;refine wp_region_any kR ?_;refine aY (S:=(VB c)) (V:=(Vs [is gk,is (d:Int),is (j:Int),is gk,is gk,is gk,is t,is (o:Int),is (d:Int),is (u:Int),is (.int .i64 ((j+u:Nat):Int)),is gk,is (d:Int),is (j:Int),is gk,is gk,is gk,is t,is (m:Int),is (d:Int),is (v:Int),is (.int .i64 ((j+v:Nat):Int)),is (.int .i64 ((j+u:Nat):Int)),is (.int .i64 ((j+v:Nat):Int))])) [28,29,30,31,32,33,34,35,36,37,38,39,40,41,42,43,44,45,46,47,48,49,8,9] _ rfl kR vR (fun _ _=>VisK.trans) (cK tA0) ?_ ?_
 · refine aV ?_;refine pH 0 (.pointer (some gk)) ?_;refine pH 3 (.int .i64 (d:Int)) ?_;refine sC (fun _ g a _ _ _ b _ _ _ f=>?_) ?_
   · have am:_=_:=b 0 28 kR rfl;have an:_=_:=b 1 29 kR rfl;replace a:(VB c) k g:=bD a;go_simp;refine (gZ (B:=c) (gk:=gk) (L:=e) (s:=d) (w:=g) (F.out.vis (p.out.trans a).1) D.out C.out).mono ?_;rintro r U ⟨rfl,M⟩;rw [Y.out];exact f _ _ (VisK.of_below M) rfl
   refine pH 0 (.pointer (some gk)) ?_;refine sC (fun _ g a _ _ _ b _ _ _ f=>?_) ?_
   · have ap:_=_:=b 3 31 kR rfl;replace a:(VB c) k g:=bD a;have i:=(p.out.trans a).1.bk x.out dC dC;have y:=i.cell 0;have z:=i.cell 1;go_simp;exact f _ _ vR rfl
   refine sC (fun _ g a _ _ _ b _ _ _ f=>?_) ?_
   · have aq:_=_:=b 4 32 kR rfl;replace a:(VB c) k g:=bD a;have i:=(p.out.trans a).1.bk x.out dC dC;have y:=i.cell 0;have z:=i.cell 1;go_simp;exact f _ _ vR rfl
   refine sC (fun _ g a _ _ _ b _ _ _ f=>?_) ?_
   · have ar:_=_:=b 5 33 kR rfl;replace a:(VB c) k g:=bD a;have i:=(p.out.trans a).1.bk x.out dC dC;have y:=i.cell 0;have z:=i.cell 1;go_simp;exact f _ _ vR rfl
   refine pH 1 (.int .i64 (o:Int)) ?_;refine pH 3 (.int .i64 (d:Int)) ?_;refine sC (fun _ g a _ _ _ b _ _ _ f=>?_) ?_
   · have au:_=_:=b 6 34 kR rfl;have av:_=_:=b 7 35 kR rfl;have aw:_=_:=b 8 36 kR rfl;replace a:(VB c) k g:=bD a;go_simp;refine (gM (B:=c) (gv:=t) (L:=e) (s:=d) (w:=g) o (Z.out.vis (p.out.trans a).1) D.out (by rw [A.out];omega) X.out C.out).mono ?_;rintro r U ⟨rfl,O⟩;rw [a7.out];exact f _ _ O rfl
   refine sC (fun _ _ _ _ _ _ b _ _ _ f=>?_) ?_
   · have ao:_=_:=b 2 30 kR rfl;have ax:_=_:=b 9 37 kR rfl;have K:IntKind.i64.wrap ((j:Int)+(u:Int))=((j+u:Nat):Int):=(by rw [IntKind.wrap_i64];omega);go_simp;exact f _ _ vR (by first | rfl | exact K | simp [is])
   refine pH 0 (.pointer (some gk)) ?_;refine pH 3 (.int .i64 (d:Int)) ?_;refine sC (fun _ g a _ _ _ b _ _ _ f=>?_) ?_
   · have ay:_=_:=b 11 39 kR rfl;have az:_=_:=b 12 40 kR rfl;replace a:(VB c) k g:=bD a;go_simp;refine (gZ (B:=c) (gk:=gk) (L:=e) (s:=d) (w:=g) (F.out.vis (p.out.trans a).1) D.out C.out).mono ?_;rintro r U ⟨rfl,M⟩;rw [Y.out];exact f _ _ (VisK.of_below M) rfl
   refine pH 0 (.pointer (some gk)) ?_;refine sC (fun _ g a _ _ _ b _ _ _ f=>?_) ?_
   · have aB:_=_:=b 14 42 kR rfl;replace a:(VB c) k g:=bD a;have i:=(p.out.trans a).1.bk x.out dC dC;have y:=i.cell 0;have z:=i.cell 1;go_simp;exact f _ _ vR rfl
   refine sC (fun _ g a _ _ _ b _ _ _ f=>?_) ?_
   · have aC:_=_:=b 15 43 kR rfl;replace a:(VB c) k g:=bD a;have i:=(p.out.trans a).1.bk x.out dC dC;have y:=i.cell 0;have z:=i.cell 1;go_simp;exact f _ _ vR rfl
   refine sC (fun _ g a _ _ _ b _ _ _ f=>?_) ?_
   · have aD:_=_:=b 16 44 kR rfl;replace a:(VB c) k g:=bD a;have i:=(p.out.trans a).1.bk x.out dC dC;have y:=i.cell 0;have z:=i.cell 1;go_simp;exact f _ _ vR rfl
   refine pH 2 (.int .i64 (m:Int)) ?_;refine pH 3 (.int .i64 (d:Int)) ?_;refine sC (fun _ g a _ _ _ b _ _ _ f=>?_) ?_
   · have aE:_=_:=b 17 45 kR rfl;have aF:_=_:=b 18 46 kR rfl;have aG:_=_:=b 19 47 kR rfl;replace a:(VB c) k g:=bD a;go_simp;refine (gM (B:=c) (gv:=t) (L:=e) (s:=d) (w:=g) m (Z.out.vis (p.out.trans a).1) D.out (by rw [A.out];omega) X.out C.out).mono ?_;rintro r U ⟨rfl,O⟩;rw [a8.out];exact f _ _ O rfl
   refine sC (fun _ _ _ _ _ _ b _ _ _ f=>?_) ?_
   · have aA:_=_:=b 13 41 kR rfl;have aI:_=_:=b 20 48 kR rfl;have K:IntKind.i64.wrap ((j:Int)+(v:Int))=((j+v:Nat):Int):=(by rw [IntKind.wrap_i64];omega);go_simp;exact f _ _ vR (by first | rfl | exact K | simp [is])
   refine pV 10 38 ?_;refine pV 21 49 ?_;exact aH
 · intro a0 ak a b;replace a:(VB c) k ak:=bD a;have a9:a0 (.tmp 8)=.int .i64 ((j+u:Nat):Int):=b 22 8 rfl;have aa:a0 (.tmp 9)=.int .i64 ((j+v:Nat):Int):=b 23 9 rfl;simp only [zqq];rw [a9];rw [aa];clear b;go_wp2_with fail;go_ret2;exact ⟨rfl,p.out.trans a⟩
end
section
open Go.RowKit Go.Shelf
attribute [local go_sem] Oper.semAt_some
section
variable {P : Program} {ops : Array Oper} {md : Region.Mode} {Q : Exit -> Act -> World -> Prop} {l n : Nat}
def aFt {f:Oper} {e:Act} {d:Act->World->Prop} {b:Result Next} (a:f.upon P e d Q b):f.uponIn (Fence.wide.inRound l) n P e d Q b:=by
 cases b with
 | ok c s=>
   cases c with
   | value g=>exact a
   | skip=>exact a
   | defer t=>exact a
   | enter u j=>
     refine ⟨fun a=>(by simp [Fence.wide] at a),CallsIn.inRound l (callsIn_wide.2 (Calls.mono a ?_))⟩;intro o i p;cases o <;> exact p
   | row row j=>
     refine ⟨fun a=>(by simp [Fence.wide] at a),fun k m _=>?_⟩;obtain ⟨g,i,q,r⟩:=a k m;exact ⟨g,i,q,stepsIn_wide.2 r⟩
   | _=>exact a.elim
 | halt c s=>cases c <;> exact a
def aDo (r:¬LetsOut Q) (p:∀(e:Nat) (f:Oper),ops[e]?=some f->∀o,f.op≠.defer o):∀(d:Nat) (i:Array Bool) (b:Act) (c:World),wpAny P md ops Q d i b c->wpAnyIn (Fence.wide.inRound l) n P md ops Q d i b c:=by
 intro d
 induction d with
 | zero=>intro i b c g;exact g
 | succ d k=>
   intro i b c g;refine ⟨g.1,fun e q=>?_⟩;have a:=g.2 e q;unfold wpOp at a;unfold wpOpIn;cases j:ops[e]? with
   | none=>
     rw [j] at a;exact k _ _ _ a
   | some f=>
     rw [j] at a;simp only at a⊢;by_cases m:Region.wanted f (yielded ops b.tmps)=true;rw [zBx m] at a⊢;rcases a with a | a;refine ⟨fun _ _=>trivial,?_⟩;rw [Oper.semAt_eq _ _ _ (p e f j)];exact aFt (Oper.wp_mono (fun b c=>k _ b c) a);exact absurd a.2 r;rw [zBw m] at a⊢;exact ⟨fun _ _=>trivial,k _ _ _ a⟩
end
def KpB (b1 b2:Nat) (b c:World):Prop:=∀a:Addr,(a.block=b1∨a.block=b2)->c.cell? a=b.cell? a
def KpB.trans {b1 b2:Nat} {a b c:World} (f:KpB b1 b2 a b) (g:KpB b1 b2 b c):KpB b1 b2 a c:=fun e d=>(g e d).trans (f e d)
def bkL (a:List UInt8) (c:Nat):List (Nat×UInt8):=(List.range c).map fun b=>(a.length - 1 - b,a.getD (a.length - 1 - b) 0)
def aIG (a:List UInt8) (b:Nat):bkL a (b+1)=bkL a b++ [(a.length - 1 - b,a.getD (a.length - 1 - b) 0)]:=by simp [bkL,List.range_succ]
def aJN (b:List UInt8) (a:Nat):(bkL b a).length=a:=by simp [bkL]
def aBL (s:Fence) (n:Nat) (Z:s.fn 229) (a1:s.round=none) (a9:1<=n) (l j o y V:Nat) (z:Option Addr) (b:List UInt8) (C:0 < b.length->z=some ⟨o,y,none⟩) (a0:b.length<=1000000) {m:List (Nat×UInt8)->World->Prop} (A:List (Nat×UInt8)->World->Prop) (F:∀g i e,m g e->g.length < b.length->YieldAt s (n - 1) prog l #[(i.1:Int),.int .u8 (i.2.toNat:Int)] e fun d f=>
 (d=.returned (.bool true)/\m (g++ [i]) f/\KpB j o e f)∨(d=.returned (.bool false)/\A (g++ [i]) f)) {e:World} (u:e.cell? j=some (.slice z b.length V)) (G:∀a,a < b.length->e.cell? ⟨o,y+a,none⟩=some (.int .u8 ((b.getD a 0).toNat:Int))) (B:m [] e):
 CallsIn s n prog 229 #[.func (.yield l) #[] #[],j] e fun d f=>(∃a3,d=.returned a3)/\
  ((∃J,J=bkL b b.length/\m J f)∨(∃g,True/\A g f)):=by
 obtain ⟨c,w⟩:=eqx b.length;rw [w] at u a0;obtain ⟨L,k,O,S,M,K⟩:=hqq6 C w F G u B;clear w F G B C;refine callsIn_of_wp func229 rfl Z ?_ a1;simp only [ntmps229,List.size_toArray,zCg,List.length_nil,Nat.reduceAdd,Nat.reduceSub,Array.replicate_succ,Array.replicate_zero,List.push_toArray,List.append_toArray,List.nil_append,List.cons_append]
 gi_wp2
 clear u
 gi_loopw [3] (fun x wr=>∃r:Nat,r<=c/\x=.int .i64 ((r:Int) - 1)/\m (bkL b (c - r)) wr/\KpB j o e wr) (fun x _=>(intOf x+1).toNat)
 case atStart=>exact ⟨c,zAs _,rfl,by rw [Nat.sub_self];exact K.out,fun _ _=>rfl⟩
 case round=>
  obtain ⟨r,aa,rfl,p,q⟩:=hrel;rcases r with _ | a
  · have d:((0:Nat):Int) - 1=-1:=oM;rw [d];rw [Nat.sub_zero] at p;have N:=lhd p;clear p q
    gi_wp2
    go_end0;exact ⟨⟨_,rfl⟩,.inl ⟨_,rfl,by rw [k.out];exact N.out⟩⟩
  · have d:((a+1:Nat):Int) - 1=(a:Int):=oM;rw [d];have v:bkL b (c - a)=bkL b (c -(a+1))++ [(a,b.getD a 0)]:=(by rw [show c - a=(c -(a+1))+1 by omega,aIG,k.out,show c - 1 -(c -(a+1))=a by omega]);have X:=(q ⟨j,0,none⟩ (.inl rfl)).trans M.out;rw [L.out (by rw [k.out];omega)] at X;have Y:=(q ⟨o,y+a,none⟩ (.inr rfl)).trans (S.out a (by rw [k.out];omega));have a8:a < c:=oM;obtain ⟨i,I⟩:=eqx (b.getD a 0);rw [I] at Y v;obtain ⟨a7,ab,a5,a6,a2,W⟩:=O.out (bkL b (c -(a+1))) (a,i) wr p (by rw [aJN,k.out];omega);dsimp only at a2;obtain ⟨R,T⟩:=hqq2 v q;clear v q p d I
    gi_wp2
    refine W.mono ?_;rintro d a4 (⟨rfl,D,H⟩|⟨rfl,E⟩)
    · obtain ⟨t,U⟩:=hqq2 D H;clear D H
      gi_wp2
      go_roundw
      case rel=>exact ⟨a,by omega,rfl,by rw [R.out];exact t.out,T.out.trans U.out⟩
      case measure=>simp [intOf]
    · have t:=lhd E;clear E
      gi_wp2
      refine bodyPost_ret (results_none rfl _ _ _) rfl ?_;exact ⟨⟨_,rfl⟩,.inr ⟨_,trivial,t.out⟩⟩
end
end Go.Proofs.YtcoooelofcejbaaGreatDoor
