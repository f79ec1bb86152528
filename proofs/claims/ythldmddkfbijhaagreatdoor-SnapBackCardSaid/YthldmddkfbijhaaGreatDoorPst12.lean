/- Lemmas of the walk. Conditions: each its own. -/
import Derived.Test.YthldmddkfbijhaaGreatDoorPst10
import Derived.Test.YthldmddkfbijhaaGreatDoorProg
import Derived.Test.YthldmddkfbijhaaGreatDoorShl
import Derived.Test.YthldmddkfbijhaaGreatDoorShi
set_option linter.all false
set_option maxRecDepth 100000
set_option maxHeartbeats 2000000
open Go.Proofs.Tryz
namespace Go.Proofs.YthldmddkfbijhaaGreatDoor
section
open Go.RowKit Go.Shelf
def lN (b:World) (a:List (Nat×Nat)) (f:Ending) (e:World):Prop:=
 ∃c d,f=.returned (.slice c a.length d)/\Made e b.heap.size 170 2 c a.length d (bU a)/\Below b.heap.size b e
end
section
open Go.RowKit
theorem qO:(prog.info? 5).map (fun a=>(a.zero,a.size,a.bytes))=some (some (.int .u8 0),1,1):=by kernel_rfl
theorem aJb (a:Nat) (b:World) (s:a<=1099511627776):
 Calls prog 102 #[.slice none 0 0,(a:Int)] b fun k g=>∃f,k=.returned f/\g.ownsRow b.heap.size 5 1 f 0 []/\Below b.heap.size b g:=by
 obtain ⟨p,l,n,t,o⟩:=info_parts qO;rcases zBa a with c | c
 · subst c;go_enter func102,ntmps102;go_wp2;go_ret;exact ⟨_,rfl,World.ownsRow_nil _ _ _ _,Below.refl _ _⟩
 · have d:=Lib.run_append_nil_zeros (P:=prog) b 26 3 26 5 p (.int .u8 0) .i64 .i64 underlying26 underlying3 l n a c oM oM (by rw [o];omega);have r:=grownCap_ge b a 0 5;have m:=grownCap_le_maxLen b a 0 5 (by unfold maxLen;omega);generalize grownCap b a 0 5=cp at*
   have e:(Builtin.zeroCells (Value.int .u8 0).cells a++Builtin.zeroCells (Value.int .u8 0).cells (cp - a)).size=cp*1:=(by simp [Builtin.zeroCells,Value.cells];omega);obtain ⟨j,i⟩:=hqq2 e d;clear e d;have q:¬((a:Int) < 0):=oM;go_enter func102,ntmps102;go_wp2_with (at_builtin;refine Lib.wpList_append_run _ rfl (.tmp 20) (.tmp 21) _ _ rfl _ _ rfl rfl _ _ i.out ?_);go_ret;exact ⟨_,rfl,World.ownsRow_made _ _ _ nL m j.out,bR.drew.alloc nL _⟩
structure Sl where
 A:Option Addr
 n:Nat
 c:Nat
 l:List UInt8
def slV (a:Sl):Value:=.slice a.A a.n a.c
def gG (a:List Sl):List UInt8:=a.flatMap (·.l)
theorem aAE (b:List Sl) (a:Nat) (c:Sl) (d:b[a]?=some c):gG (b.take (a+1))=gG (b.take a)++c.l:=by
 rw [zAv,d];simp [gG]
theorem aBx (a:List Sl) (b:Nat):(gG (a.take b)).length<=(gG a).length:=by
 have:gG a=gG (a.take b)++gG (a.drop b):=by unfold gG;rw [<-List.flatMap_append,zAu]
 rw [this,zAi];omega
theorem mU (I:Option Addr) (f a0 v:Nat) (d:List Sl) (x:List UInt8) (o:Nat) (z:gG d=x) (R:x.length=o) (g:World) (E:Rd g v 1 I f (d.map slV)) (F:∀b∈d,Rd g v 1 b.A b.n (b.l.map bv)) (Q:v<=g.heap.size) (al:f<=1099511627776) (a9:o<=1099511627776):
 Calls prog 41 #[.slice I f a0] g fun P X=>∃t u,P=.returned (.slice t o u)/\Made X g.heap.size 5 1 t o u (x.map bv)/\Below g.heap.size g X:=by
 obtain ⟨ah,a6,ae,af,ag⟩:=info_parts qO;have S:d.length=f:=by simpa using E.1
 have T:∀a,(gG (d.take a)).length<=1099511627776:=fun a=>by have:=aBx d a;rw [z] at this;omega
 have V:∀a b,d[a]?=some b->b.l.length=b.n/\(gG (d.take (a+1))).length=(gG (d.take a)).length+b.n:=fun a b e=>by
  have p:=(F b (zAd e)).1;have i:b.l.length=b.n:=by simpa using p
  rw [aAE d a b e,zAi,i];exact ⟨rfl,rfl⟩
 obtain ⟨m,M,O,N,Y,K,J⟩:=hqq7 S T V (E.mono Q) (fun b e=>(F b e).mono Q) z R;clear S T V E F z R;go_enter func41,ntmps41;go_wp2;go_loopw [3,11] (fun H k wr=>∃a:Nat,a<=f/\k=.int .i64 a/\H=.int .i64 ((gG (d.take a)).length:Int)/\g=wr) (fun _ k _=>f -(intOf k).toNat)
 case atStart=>exact ⟨0,zAp _,rfl,by simp [gG],rfl⟩
 case round=>
  obtain ⟨a,a7,rfl,rfl,rfl⟩:=hrel;by_cases D:a < f
  · obtain ⟨b,e⟩:∃b,d[a]?=some b:=⟨d[a]'(by have:=m.out;omega),zAa (by have:=m.out;omega)⟩;obtain ⟨Z,ai,aj,rfl,a3,j,B⟩:=N.out.get D;rw [zAf,e] at j;simp at j;subst j;unfold slV at B;obtain ⟨p,i⟩:=O.out a b e;have y:=M.out (a+1);generalize U:(gG (d.take a)).length=G at*
    have w:=lhd i;rw [i] at y;clear p i e U;have am:¬((G:Int)+(b.n:Int) < 0):=oM;go_wp2;go_roundw
    case rel=>exact ⟨a+1,by omega,by go_num,by rw [w.out];go_num,trivial⟩
    case measure=>simp [intOf];omega
  · have C:a=f:=oM;have a5:f<=a:=oM;have s:d.take a=d:=zAg (by have:=m.out;omega);rw [s,K.out,J.out];clear C s;go_wp2_with fail;refine (aJb o _ a9).mono ?_;rintro P w1 ⟨an,rfl,aa,a2⟩;go_wp2_with fail;go_loopw [6,27] (fun H k wr=>∃a:Nat,a<=f/\k=.int .i64 a/\wr.ownsRow g.heap.size 5 1 H (gG (d.take a)).length ((gG (d.take a)).map bv)/\Below g.heap.size g wr) (fun _ k _=>f -(intOf k).toNat)
    case atStart=>exact ⟨0,zAp _,rfl,aa,a2⟩
    case round=>
        obtain ⟨a,a7,rfl,r,q⟩:=hrel;have W:=q.size;by_cases D:a < f
        · obtain ⟨b,e⟩:∃b,d[a]?=some b:=⟨d[a]'(by have:=m.out;omega),zAa (by have:=m.out;omega)⟩;obtain ⟨Z,ai,aj,rfl,a3,j,B⟩:=(N.out.below q).get D;rw [zAf,e] at j;simp at j;subst j;unfold slV at B;have ac:=lhd ((Y.out b (zAd e)).below q);obtain ⟨p,i⟩:=O.out a b e;have y:=M.out (a+1);obtain ⟨ad,w⟩:=hqq2 (aAE d a b e) i;generalize U:(gG (d.take a)).length=G at*
          rw [i] at y;have L:=lhd r;clear p i e r;go_wp2_with (at_builtin;refine bY _ rfl (.tmp 31) (.tmp 32) _ rfl g.heap.size 5 ah (.int .u8 0) 1 1 underlying26 a6 ae af ag rfl dC _ G _ rfl L.out g.heap.size b.A b.n b.c _ rfl ac.out (mB _) (by unfold maxLen;omega) oM W ?_;intro ao ap ab a4 ak);have a1:=aX q L.out a4 W;go_roundw
          case rel=>refine ⟨a+1,by omega,by go_num,?_,a1⟩;rw [w.out,ad.out,zAz];exact ab
          case measure=>simp [intOf];omega
        · have C:a=f:=oM;have a5:f<=a:=oM;have s:d.take a=d:=zAg (by have:=m.out;omega);rw [s,K.out,J.out] at r;obtain ⟨t,u,rfl,a8⟩:=aU r;clear C s r;go_wp2;go_ret;exact ⟨t,u,rfl,a8,q⟩
end
section
open Go.RowKit Go.Shelf
theorem iP (f:Nat):∀(d:List Value) (b:Nat) (i:World) (g:TypeId) (c:Array Value),Bk i f g c->∃e:Array Value,Bk (i.setCells f b d) f g e/\e.size=c.size/\∀a,a < c.size->e[a]?=if b<=a/\a < b+d.length then d[a - b]? else c[a]?
 | [],b,i,g,c,j=>⟨c,j,rfl,fun a k=>by rw [zBw (by simp)]⟩
 | v::d,b,i,g,c,j=>by
   obtain ⟨e,n,o,p⟩:=iP f d (b+1) (i.setCell ⟨f,b,none⟩ v) g _ (j.set b v);refine ⟨e,n,by rw [o];simp,fun a k=>?_⟩;rw [p a (by simpa using k)];by_cases l:b+1<=a/\a < b+1+d.length;rw [zBx l,zBx (by simp;omega),show a - b=(a -(b+1))+1 by omega];rfl
   · rw [zBw l,zCd];by_cases m:b=a;subst m;rw [zBx rfl,zBx k,zBx (by simp),Nat.sub_self];rfl
     · rw [zBw m,zBw (by simp;omega)]
theorem kU (a:Nat):∀(f:List Value) (b:Nat) (w0 c:World),Keep (fun d=>d=a) w0 c->Keep (fun d=>d=a) w0 (c.setCells a b f)
 | [],_,_,_,e=>e
 | v::f,b,w0,c,e=>kU a f (b+1) w0 (c.setCell ⟨a,b,none⟩ v) (e.setCell (p:=⟨a,b,none⟩) (.inl rfl) v)
theorem gM {f:Nat->Prop} (a:Nat):∀(e:List Value) (b:Nat) (w0 c:World),w0.heap.size<=a->Keep f w0 c->Keep f w0 (c.setCells a b e)
 | [],_,_,_,_,d=>d
 | v::e,b,w0,c,hg,d=>gM a e (b+1) w0 (c.setCell ⟨a,b,none⟩ v) hg (d.setCell (p:=⟨a,b,none⟩) (.inr hg) v)
theorem Bk.shape {e:World} {b:Nat} {d:TypeId} {a:Array Value} (c:Bk e b d a):e.shape? b=some (d,a.size):=by
 unfold Bk at c;unfold World.shape?;rw [c]
theorem gE {c:Array Value} {d:List Value} {b:Nat} (g:d.length=b) (i:b<=c.size) (f:∀a,a < b->c[a]?=d[a]?):c.toList.take b=d:=by
 apply List.ext_getElem?;intro a;by_cases e:a < b;rw [List.getElem?_take_of_lt e,Array.getElem?_toList];exact f a e
 · rw [List.getElem?_take_eq_none oM,zBg oM]
theorem tF {k:World} {g f c d:Nat} {i:TypeId} {l:List Value} (m:k.ownsRow g i 1 (.slice (some ⟨f,0,none⟩) c d) c l) (v:0 < c):∃b:Array Value,Bk k f i b/\b.size=d/\c<=d/\d<=maxLen/\g<=f/\∀e,e < c->b[e]?=l[e]?:=by
 rcases m.2 with ⟨a,u⟩|⟨t,s,b,a,n,o,r,q,w,j⟩
 · cases a
 · injection a with a _ h3;injection a with a;injection a with a _;subst a h3;refine ⟨b,o,by omega,r,q,n,fun e p=>?_⟩;rw [zBl] at j;rw [<-j,List.getElem?_take_of_lt p,Array.getElem?_toList]
def sP (i:Nat) (e:Value) (a:Nat) (l:List Value) (f:World) (k:Ending) (g:World):Prop:=
 ∃b c,k=.returned (.slice b (a+1) c)/\g.ownsRow i 3 1 (.slice b (a+1) c) (a+1) l/\Keep (fun j=>e.ownBlock=some j) f g/\((Value.slice b (a+1) c).ownBlock=e.ownBlock∨∃d,(Value.slice b (a+1) c).ownBlock=some d/\f.heap.size<=d)
theorem aAb (A:Nat) (t:Option Addr) (d g b:Nat) (e:List Nat) (o k:Nat) (c:World) (E:c.ownsRow A 3 1 (.slice t d g) d (e.map sv)) (z:Bk c o 3 #[sv k]) (a6:∀v,(Value.slice t d g).ownBlock=some v->v≠o) (W:A<=c.heap.size) (P:b < d) (ad:d<=1000000):
 Calls prog 151 #[.slice t d g,(b:Int),.slice (some ⟨o,0,none⟩) 1 1] c (sP A (.slice t d g) d ((aP e b k).map sv) c):=by
 have m:e.length=d:=by have:=E.1;simpa using this
 obtain ⟨i,af,C,_,ac⟩:=World.ownsRow.form E oM;injection C with C _ e3;subst C e3;obtain ⟨K,s,a3,a4,R,X,N⟩:=tF E oM;have a5:o≠i:=fun r=>a6 i rfl r.symm;have O:∀a f,(e.map sv)[a]?=some f->c.cell? ⟨i,0+a,none⟩=some f:=fun a f l=>by
  have j:a < d:=by have:=(zAc.1 l).1;simpa [m] using this
  rw [zBi,s.cell,N a j,l]
 have T:∀a f, [sv k][a]?=some f->c.cell? ⟨o,0+a,none⟩=some f:=fun a f l=>by
  rw [zBi,z.cell,<-l];rcases a with _ | a;rfl
  · simp at l
 have L:∀f∈e.map sv,f.oneCell'=true:=fun f l=>by obtain ⟨aa,_,rfl⟩:=zAy.1 l;rfl
 have M:∀f∈ [sv k],f.oneCell'=true:=fun f l=>by rw [List.mem_singleton] at l;subst l;rfl
 have Q:∀a,a < d+1->((aP e b k).map sv)[a]?=if a < b then (e.map sv)[a]? else if a=b then some (sv k) else (e.map sv)[a - 1]?:=fun a j=>by rw [nP,iT _ _ (by rw [zBc];omega)]
 have y:((aP e b k).map sv).length=d+1:=by rw [zBc,eF _ _ oM,m]
 by_cases S:d+1<=g
 · have a2:∀a,a < d+1->c.cell? ⟨i,0+a,none⟩=some (K.getD a (.bool false)):=fun a j=>by rw [zBi,s.cell,zAq oM];congr 1;rw [zAm,zAq oM];rfl
   have D:=Any2.slices_Insert_int_shift shIns i 0 d g b o 0 1 1 (e.map sv) [sv k] c P dC S (by unfold maxLen at R;omega) a5 (by simpa using m) rfl O (fun a j=>by rw [a2 a j];rfl) (fun a j=>by rw [zBi];exact s.frozen a) T L M 3 3 1 K.size (z.shape) (s.shape) oM (z.frozen 0) (z.frozen 1);refine D.mono ?_;rintro r a9 ⟨rfl,rfl⟩;obtain ⟨V,F,a7,G⟩:=iP i ((e.map sv).drop b) (0+(b+1)) c.drew _ _ s.drew;obtain ⟨B,I,a8,J⟩:=iP i [sv k] (0+b) _ _ _ F;refine ⟨_,g,rfl,⟨by rw [y,zBl],.inr ⟨i,g,B,rfl,X,I,S,R,by omega,?_⟩⟩,(kU i _ _ c _ (kU i _ _ c _ (Keep.refl _ c).drew)).mono fun v _ r=>by rw [show v=i from r];rfl,.inl rfl⟩;rw [zBl];refine gE y oM fun a j=>?_;rw [Q a j,J a oM,G a oM];simp only [zCg,List.length_nil,zAw,zBc,m];by_cases n:a < b
   · rw [zBw oM,zBw oM,zBx n,N a oM]
   · by_cases q:a=b
     · subst q;rw [zBx oM,zBw oM,zBx rfl];simp
     rw [zBw oM,zBx oM,zBw n,zBw q,zBt];congr 1;omega
 · have D:=Any2.slices_Insert_int_grow shIns i 0 d g b o 0 1 1 (e.map sv) [sv k] c P dC a4 oM oM (by simpa using m) rfl O T L M;refine D.mono ?_;rintro r a9 ⟨rfl,rfl⟩;obtain ⟨p,x⟩:=eqx (grownCap c (d+1) g 3);have Z:d+1<=p:=(by rw [<-x];exact grownCap_ge _ _ _ _);have a0:p<=maxLen:=(by rw [<-x];exact grownCap_le_maxLen _ _ _ _ (by unfold maxLen;omega));show sP _ _ _ _ _ (.returned (.slice _ _ (grownCap c (d+1) g 3))) _;rw [x];have U:∀H,(Builtin.zeroCells (Value.int .i64 0).cells H).size=H:=fun H=>by simp [Builtin.zeroCells,Value.cells]
   obtain ⟨u,w⟩:=eqx (((e.map sv).take b).toArray++Builtin.zeroCells (Value.int .i64 0).cells (d+1 - b)++Builtin.zeroCells (Value.int .i64 0).cells (p -(d+1)));have ab:u.size=p:=(by rw [<-w,Array.size_append,Array.size_append,U,U];simp [m];omega);have Y:∀a,a < b->u[a]?=(e.map sv)[a]?:=fun a j=>by have ae:(((e.map sv).take b).toArray).size=b:=(by simp [m];omega);rw [<-w,Array.append_assoc,Array.getElem?_append_left oM,zCw,List.getElem?_take_of_lt j]
   have a1:Bk (c.alloc (.cells u 3)) c.heap.size 3 u:=Bk.new _ _ _;have a3:=w;show sP _ _ _ _ _ _ ((((c.alloc (.cells (((e.map sv).take b).toArray++Builtin.zeroCells (Value.int .i64 0).cells (d+1 - b)++Builtin.zeroCells (Value.int .i64 0).cells (grownCap c (d+1) g 3 -(d+1))) 3)).drew.setCells c.heap.size b [sv k]).drew).setCells c.heap.size (b+1) ((e.map sv).drop b));rw [x,w];obtain ⟨V,F,a7,G⟩:=iP c.heap.size [sv k] b _ _ _ a1.drew;obtain ⟨B,I,a8,J⟩:=iP c.heap.size ((e.map sv).drop b) (b+1) _ _ _ F.drew;refine ⟨_,p,rfl,⟨by rw [y,zBl],.inr ⟨c.heap.size,p,B,rfl,W,I,Z,a0,by omega,?_⟩⟩,gM _ _ _ c _ nL (gM _ _ _ c _ nL ((Keep.refl _ c).alloc _).drew).drew,.inr ⟨_,rfl,zAs _⟩⟩;rw [zBl];refine gE y oM fun a j=>?_;rw [Q a j,J a oM,G a oM];simp only [zCg,List.length_nil,zAw,zBc,m];by_cases n:a < b
   · rw [zBw oM,zBw oM,zBx n,Y a n]
   · by_cases q:a=b
     · subst q;rw [zBw oM,zBx oM,zBw n,zBx rfl];simp
     rw [zBx oM,zBw n,zBw q,zBt];congr 1;omega
theorem aAc (j:Nat) (g:Option Addr) (a i b:Nat) (f:List Nat) (d e:Nat) (c:World) (o:c.ownsRow j 3 1 (.slice g a i) a (f.map sv)) (p:Bk c d 3 #[sv e]) (C:∀m,(Value.slice g a i).ownBlock=some m->m≠d) (r:j<=c.heap.size) (D:b<=a) (s:a<=1000000):
 Calls prog 151 #[.slice g a i,(b:Int),.slice (some ⟨d,0,none⟩) 1 1] c (sP j (.slice g a i) a ((aP f b e).map sv) c):=by
 by_cases y:b < a;exact aAb j g a i b f d e c o p C r y s
 · obtain rfl:b=a:=oM;have E:f.length=b:=(by have:=o.1;simpa using this);have B:Rd c c.heap.size 1 (some ⟨d,0,none⟩) 1 [sv e]:=by
    refine ⟨rfl,fun _=>⟨d,0,rfl,p.lt,fun u F n=>?_⟩⟩;rcases u with _ | u;injection n with n;subst n;exact (p.cell 0).trans rfl
    · simp at n
   refine (pR j g b i (f.map sv) (some ⟨d,0,none⟩) 1 e c o B r s).mono ?_;rintro q H ⟨G,rfl,t,k,l⟩;have x:(aP f b e).map sv=f.map sv++ [sv e]:=(by unfold aP;rw [zAg oM,List.drop_of_length_le oM,zAz];rfl);obtain ⟨v,w,rfl,_⟩:=aR t;refine ⟨v,w,rfl,by rw [x];exact t,⟨k.os,k.tape,k.output,k.size,fun m z A=>k.block m z fun q=>A q.symm⟩,?_⟩;rcases l with l | l;exact .inl l;exact .inr ⟨_,l,zAs _⟩
end
section
open Go.RowKit Go.Shelf
open Go.Sort (Holds PermIn SortedIn SWO heap_grow_old)
theorem aHD {e:World} {f base a c g k:Nat} {os:Array Obj} {d:Array Value} (b:Array (Fin (f+1))) (j:b.size=g) (i:Bk e a 3 d) (q:base<=a) (m:g<=c) (n:c<=maxLen) (o:d.size=c):
 (sortWorld (eW f) e a 0 k b os).ownsRow base 3 1 (.slice (some ⟨a,0,none⟩) g c) g ((b.toList.map fun v=>v.val).map sv):=by
 have r:=i.lt;have s:(sortWorld (eW f) e a 0 k b os).heap[a]?=some (.cells (Go.Sort.putCells (eW f) 0 b d) 3 (0,0)):=by unfold sortWorld;rw [heap_grow_old _ _ (by show a < (e.heap.modify a _).size;simpa using r)];have p:e.heap[a]?=some (.cells d 3 (0,0)):=i;simp [Go.Sort.putRow,Go.Sort.mapBlock,Go.Sort.ahead,Array.getElem?_modify,p,Go.Sort.onCells]
 refine ⟨by simp [j],.inr ⟨a,c,_,rfl,q,s,m,n,by simp [Go.Sort.putCells,o],?_⟩⟩;rw [zBl];refine gE (by simp [j]) (by simp [Go.Sort.putCells];omega) fun l w=>?_;have t:l < d.size:=oM;have u:l < b.size:=oM;simp [Go.Sort.putCells,Array.getElem?_mapIdx,t,u,eW,sv,aCU]
theorem aGr {c:Nat} {a:List Nat} (d:∀b∈a,b < c+1):(fM c a).toList.map (fun f=>f.val)=a:=by
 unfold fM;rw [zCh]
 conv=>rhs;rw [<-List.map_id a]
 exact List.map_congr_left fun b e=>zBu (d b e)
def cfK (b:Nat) (a:Nat->Nat) (c d:Fin (b+1)):Int:=Lib.compareInt ((a c.val:Nat):Int) ((a d.val:Nat):Int)
theorem aBf (b:Nat) (a:Nat->Nat) (c d:Fin (b+1)):ltOf (cfK b a) c d=decide (a c.val < a d.val):=by
 unfold ltOf cfK;rw [decide_eq_decide,vI];omega
theorem aJm (a:Nat) (b:Nat->Nat):SWO (ltOf (cfK a b)) where
 irrefl x:=by rw [aBf];simp
 trans x y z h1 h2:=by
  rw [aBf,zCa] at*
  omega
 ntrans x y z h1 h2:=by
  rw [aBf,decide_eq_false_iff_not] at*
  omega
theorem aCm {g:Nat} {c:List Nat} {f:Nat->Nat} {b:Array (Fin (g+1))} (v:∀C∈c,C < g+1) (q:PermIn 0 (fM g c).size (fM g c) b) (B:SortedIn (ltOf (cfK g f)) 0 (fM g c).size b) (z:c.Nodup) (x:∀a∈c,∀r∈c,f a=f r->a=r):
 (b.toList.map fun a=>a.val).Perm c/\(b.toList.map fun a=>a.val).Pairwise (fun s t=>f s < f t):=by
 have i:(b.toList.map fun a=>a.val).Perm c:=by have:=(wO q).map (fun a:Fin (g+1)=>a.val);rwa [aGr v] at this
 refine ⟨i,?_⟩;have A:(b.toList.map fun a=>a.val).Nodup:=i.nodup_iff.2 z;rw [zAr];intro d e j k n;have y:d < b.size:=by simpa using j
 have o:e < b.size:=by simpa using k
 have w:=B d e (zAp _) n (by rw [<-q.1];exact o);rw [aBf,decide_eq_false_iff_not,aCU _ _ y,aCU _ _ o] at w;have l:(b.toList.map fun a=>a.val)[d]=b[d].val:=by simp
 have m:(b.toList.map fun a=>a.val)[e]=b[e].val:=by simp
 have p:(b.toList.map fun a=>a.val)[d]≠(b.toList.map fun a=>a.val)[e]:=zAr.1 A d e j k n;have D:b[d].val∈c:=i.subset (by rw [<-l];exact zBj j);have E:b[e].val∈c:=i.subset (by rw [<-m];exact zBj k);rw [l,m] at p⊢;have F:f b[d].val≠f b[e].val:=fun u=>p (x _ D _ E u);omega
end
section
open Go.RowKit Go.Shelf
theorem aAg (A:Nat) (l:Option Addr) (b i a:Nat) (f:List Nat) (e:World) (v:e.ownsRow A 3 1 (.slice l b i) b (f.map sv)) (X:a < b) (Y:b<=1000000):
 Calls prog 206 #[.slice l b i,(a:Int),.int .i64 ((a+1:Nat):Int)] e fun p z=>p=.returned (.slice l (b - 1) i)/\z.ownsRow A 3 1 (.slice l (b - 1) i) (b - 1) ((aG f a).map sv)/\Keep (fun r=>(Value.slice l b i).ownBlock=some r) e z:=by
 have F:f.length=b:=by have:=v.1;simpa using this
 obtain ⟨j,a1,s,_,W⟩:=World.ownsRow.form v oM;injection s with s _ e3;subst s e3;obtain ⟨I,B,T,Z,G,J,M⟩:=tF v oM;obtain ⟨d,y⟩:∃d:List Int,f.map (fun S=>((S:Nat):Int))=d:=⟨_,rfl⟩;have x:d.length=b:=by rw [<-y,zBc,F]
 have R:f.map sv=d.map (Value.int .i64):=by rw [<-y,zCh];rfl
 have K:Sort.Holds (Value.int .i64) e j 0 d.toArray:=holds_of_blockI B (by
  refine gE (by simp) oM fun c u=>?_;rw [M c oM,R])
 have t:=Any.slices_Delete_int shDel j 0 i a (a+1) d e K oM (by unfold maxLen at G;omega) oM oM;rw [x] at t;have V:(aG f a).length+1=b:=by rw [cW _ oM,F]
 have U:(aG d a).length+1=b:=by rw [cW _ oM,x]
 obtain ⟨o,q⟩:=eqx (d.take a++d.drop (a+1)++List.replicate (a+1 - a) 0);have a0:o.length=b:=by rw [<-q];simp [x];omega
 have P:∀c,c < b - 1->o[c]?=(aG d a)[c]?:=fun c u=>by rw [<-q];show ((aG d a)++List.replicate (a+1 - a) 0)[c]?=_;rw [zAn oM]
 rw [q] at t;clear q;refine t.mono ?_;rintro p z ⟨rfl,H,rfl⟩;have k:=grownBy_sortedI (w:=e) (g:=j) (n:=H) (os:=#[]) o.toArray;have C:=heap_sortedI (w:=e) (g:=j) (n:=H) (os:=#[]) o.toArray B;rw [Go.Sort.grow_empty] at k C;refine ⟨by rw [show a+1 - a=1 by omega],⟨by rw [zBc,zBl];omega,.inr ⟨j,i,_,rfl,J,C,by omega,G,by simp [Go.Sort.putCells];omega,?_⟩⟩,⟨k.os,k.tape,k.output,k.size,fun r L O=>k.block r L fun p=>O p.symm⟩⟩;rw [zBl];refine gE (by rw [zBc];omega) (by simp [Go.Sort.putCells];omega) fun c u=>?_;have D:c < (aG f a).length:=oM;have Q:(aG d a)[c]?=some (((aG f a)[c]:Nat):Int):=by rw [<-y,<-rY,zAf,zAa D];rfl
 rw [zAf,zAa D];have m:=P c u;rw [Q] at m;have N:c < I.size:=oM;have E:c < o.length:=oM;rw [zAa E] at m;injection m with m;simp [Go.Sort.putCells,Array.getElem?_mapIdx,N,E,m,sv]
end
section
open Go.RowKit
def aHW (a:Option Addr) (d c b:Nat):Array Value:=#[.slice a d c,.int .i64 (b:Int),.bool false]
theorem mR (c:Nat) (g:Option Addr) (f e n j m a b:Nat) (l:List UInt8) (d:World) (i:Bk d c 82 (aHW g f e j)) (r:Rd d n 1 g f (l.map bv)) (y:f<=e) (o:e<=maxLen) (q:eG l (j:Int)=(a,(m:Int),0)) (F:a<=b) (E:b<=4611686018427387904):
 Calls prog 46 #[c,(b:Int)] d fun x s=>x=.returned (.int .i64 (a:Int))/\Bk s c 82 (aHW g f e m)/\Keep (fun k=>k=c) d s:=by
 have B:d.cell? ⟨c,0,none⟩=some (.slice g f e):=i.cell 0;have C:d.cell? ⟨c,1,none⟩=some (.int .i64 (j:Int)):=i.cell 1;have D:=i.frozen 1;obtain ⟨t,w,v,u⟩:=hqq4 i r q o;have z:¬((a:Int) > (b:Int)):=oM;have G:decide ((a:Int) > (b:Int))=false:=zBy z;have A:¬b < a:=oM;have H:decide (b < a)=false:=zBy A;have I:IntKind.u64.wrap (b:Int)=(b:Int):=by rw [IntKind.wrap_u64];omega
 have J:IntKind.i64.wrap (a:Int)=(a:Int):=by rw [IntKind.wrap_i64];omega
 clear i r q o;go_enter func46,ntmps46;go_wp2_with fail;go_quiet (exact qA (fA g f e l (j:Int) n _ a (m:Int) 0 v.out (w.out.drewN _) y u.out));go_wp2_with fail;go_ret;exact ⟨rfl,(t.out.drewN nq).set 1 _,((Keep.refl (fun k=>k=c) d).drewN nq).setCell (p:=⟨c,1,none⟩) (.inl rfl) _⟩
theorem sL (c:Nat) (g:Option Addr) (b f s n a d e:Nat) (q:List UInt8) (j:World) (o:Bk j c 82 (aHW g b f n)) (A:Rd j s 1 g b (q.map bv)) (Q:b<=f) (N:f<=maxLen) (Y:b<=1099511627776) (x:eG q (n:Int)=(d,(a:Int),0)) (Z:a+(d+4)=e) (a1:e<=b):
 Calls prog 47 #[c] j fun v D=>v=.returned (.slice (eZ g f a 1) d (f - a))/\Bk D c 82 (aHW g b f e)/\Keep (fun G=>G=c) j D:=by
 have z:=mR c g b f s n a d b q j o A Q N x oM oM;have H:j.cell? ⟨c,0,none⟩=some (.slice g b f):=o.cell 0;clear o A x;go_enter func47,ntmps47;go_wp2_with fail;refine z.mono ?_;clear z;rintro v w1 ⟨rfl,k,y⟩;have I:w1.cell? ⟨c,0,none⟩=some (.slice g b f):=k.cell 0;have J:w1.cell? ⟨c,1,none⟩=some (.int .i64 (a:Int)):=k.cell 1;have K:w1.cell? ⟨c,2,none⟩=some (.bool false):=k.cell 2;have M:=k.frozen 1;obtain ⟨t,u⟩:=hqq2 k y;obtain ⟨i,O⟩:∃i,b - a=i+4:=⟨b - a - 4,by omega⟩;have S:IntKind.i64.wrap ((b:Int) -(a:Int))=((i+4:Nat):Int):=by rw [IntKind.wrap_i64];omega
 have T:IntKind.i64.wrap (((i+4:Nat):Int) - 4)=(i:Int):=by rw [IntKind.wrap_i64];omega
 have B:¬((d:Int) > (i:Int)):=oM;have U:decide ((d:Int) > (i:Int))=false:=zBy B;have C:¬i < d:=oM;have V:decide (i < d)=false:=zBy C;clear k y H;go_wp2_with fail;go_quiet (fail);go_wp2_with fail;have L:((a:Int)+((d:Int)+4))=(e:Int):=oM;rw [L];have l:=(t.out.drewN nq).set 1 (.int .i64 (e:Int));have m:=(u.out.drewN nq).setCell (p:=⟨c,1,none⟩) (.inl rfl) (.int .i64 (e:Int));generalize (w1.drewN nq).setCell ⟨c,1,none⟩ (.int .i64 (e:Int))=w2 at l m⊢;have W:w2.cell? ⟨c,0,none⟩=some (.slice g b f):=l.cell 0;have X:w2.cell? ⟨c,1,none⟩=some (.int .i64 (e:Int)):=l.cell 1;obtain ⟨E,F⟩:=hqq2 l m;obtain ⟨r,a2⟩:=eqx (a+d);have a5:IntKind.i64.wrap ((e:Int) -(d:Int))=((a+4:Nat):Int):=by rw [IntKind.wrap_i64];omega
 have a6:IntKind.i64.wrap (((a+4:Nat):Int) - 4)=(a:Int):=by rw [IntKind.wrap_i64];omega
 have a7:IntKind.i64.wrap ((e:Int) - 4)=(r:Int):=by rw [IntKind.wrap_i64];omega
 have R:=fun j=>aA6 (P:=prog) 26 5 1 underlying26 (fun j=>by kernel_rfl) g b f a r oM oM j;have w:r - a=d:=oM;rw [w] at R;have a0:a<=1099511627776:=oM;have a3:e<=1099511627776:=oM;have a4:a+d+4=e:=oM;clear l m t u I J K M O S T B U C V w;go_quiet (fail);go_wp2_with fail;go_ret;exact ⟨rfl,E.out.drewN _,F.out.drewN _⟩
theorem aFk (l m:Option Addr) (a t u i:Nat) (e:List Nat) (c:World) (j:Rd c i 1 l a (e.map sv)) (p:Rd c i 1 m a (e.map sv)) (n:i<=c.heap.size) (F:a<=1099511627776):
 Calls prog 163 #[.slice l a t,.slice m a u] c fun v A=>v=.returned (.bool true)/\Below c.heap.size c A:=by
 have D:e.length=a:=by have:=j.1;simpa using this
 obtain ⟨r,s⟩:=hqq2 j p;clear j p;go_enter func163,ntmps163;go_wp2_with fail;go_loopw [13] (fun k wr=>∃d:Nat,d<=a/\k=.int .i64 (d:Int)/\Below c.heap.size c wr) (fun k _=>a -(intOf k).toNat)
 case atStart=>exact ⟨0,by omega,rfl,Below.refl _ _⟩
 case round=>
  obtain ⟨d,E,rfl,b⟩:=hrel;by_cases o:d < a
  · obtain ⟨b1,G,I,rfl,B,f,w⟩:=(r.out.below (b.mono n)).get o;obtain ⟨b2,H,J,rfl,C,g,x⟩:=(s.out.below (b.mono n)).get o;obtain ⟨q,z⟩:∃q,e[d]?=some q:=⟨_,zAa oM⟩;rw [zAf,z] at f g;injection f with f;injection g with g;subst f g;unfold sv at w x;go_wp2_with fail;go_quiet (fail);go_wp2_with fail;go_roundw
    case rel=>exact ⟨d+1,by omega,by go_num,⟨b.os,b.tape,b.output,b.size,b.block⟩⟩
    case measure=>simp [intOf];omega
  · have y:d=a:=oM;subst y;go_wp2_with fail;go_ret;exact ⟨rfl,b⟩
theorem yO (d e:Option Addr) (b g i c:Nat) (f:List Nat) (a:World) (k:Rd a c 1 d b (f.map sv)) (l:Rd a c 1 e b (f.map sv)) (m:c<=a.heap.size) (p:b<=1099511627776):
 Calls prog 109 #[.slice d b g,.slice e b i] a fun j q=>j=.returned (.bool true)/\Below a.heap.size a q:=by
 have o:=aFk d e b g i c f a k l m p;clear k l;go_enter func109,ntmps109;go_wp2_with fail;refine o.mono ?_;rintro j w1 ⟨rfl,n⟩;go_wp2_with fail;go_ret;exact ⟨rfl,n⟩
theorem zA (d e:Option Addr) (i j m n l:Nat) (b c:List UInt8) (a:World) (o:Rd a l 1 d i (b.map bv)) (p:Rd a l 1 e j (c.map bv)):
 Calls prog 50 #[.slice d i m,.slice e j n] a fun q v=>q=.returned (.bool (b==c))/\Below a.heap.size a v:=by
 have t:(convert 26 9 (.slice d i m)).run prog a=.ok (.string ⟨b.toArray⟩) a:=lU (P:=prog) 26 9 5 underlying26 underlying5 underlying9 o;have u:(convert 26 9 (.slice e j n)).run prog a=.ok (.string ⟨c.toArray⟩) a:=lU (P:=prog) 26 9 5 underlying26 underlying5 underlying9 p;obtain ⟨w,f⟩:∃k:ByteArray,⟨b.toArray⟩=k:=⟨_,rfl⟩;obtain ⟨x,g⟩:∃k:ByteArray,⟨c.toArray⟩=k:=⟨_,rfl⟩;rw [f] at t;rw [g] at u;have r:w.toList=b:=by rw [<-f,ByteArray.toList_eq]
 have s:x.toList=c:=by rw [<-g,ByteArray.toList_eq]
 clear f g o p;go_enter func50,ntmps50;go_wp2_with fail;go_ret;refine ⟨?_,Below.refl _ _⟩;rw [<-r,<-s];rfl
theorem aFn (f:Nat->Prop) (b:Nat) (a:World) (k:ArenaE a f b [true] []):
 Calls prog 198 #[b] a fun j l=>j=.returned (.int .i64 1)/\Below a.heap.size a l:=by
 obtain ⟨_,e,i,d,g,c,_⟩:=k;have m:a.cell? ⟨b,0,none⟩=some (.slice e 1 i):=(c.cell 0).trans rfl;have n:a.cell? ⟨b,1,none⟩=some (.slice d 0 g):=(c.cell 1).trans rfl;clear c;go_enter func198,ntmps198;go_wp2;go_quiet (fail);go_wp2;go_ret;exact ⟨rfl,below_drewN bR _⟩
theorem aGY (c:Nat->Prop) (e b:Nat) (j k l:Value) (a:World) (i:Bk a e 202 #[b,j,k,l]) (f:ArenaE a c b [true] []):
 Calls prog 215 #[e] a fun d n=>d=.returned (.int .i64 1)/\Below a.heap.size a n:=by
 have o:=i.cell 0;have g:=aFn c b a f;clear i f;go_enter func215,ntmps215;go_wp2_with fail;refine g.mono ?_;rintro d w1 ⟨rfl,m⟩;clear g;go_wp2_with fail;go_ret;exact ⟨rfl,m⟩
theorem zJ (U:Nat->Prop) (c:Nat) (q:List Bool) (k:World) (A:TreeE k U c q) (a5:q≠ []):
 Calls prog 179 #[c] k fun t T=>t=.returned (shO q).val/\Below k.heap.size k T:=by
 have a0:=A;obtain ⟨az,ay,b7,⟨u,_⟩|⟨u,_⟩|⟨u,aA,s,Y,b6,aB,aC,v,Z⟩⟩:=A;exact absurd u a5;exact absurd u a5;obtain ⟨H,B⟩:=eqx (k.alloc (.cells #[.int .i64 0,.int .i64 0,.int .i64 0,.int .i64 0] 122));obtain ⟨e,o⟩:=eqx k.heap.size;obtain ⟨n,M⟩:=eqx q.length;have E:Below e k H:=by rw [<-B,<-o];exact bR.alloc nL _
 have K:Bk H e 122 #[.int .i64 0,.int .i64 0,.int .i64 0,.int .i64 0]:=by rw [<-B,<-o];exact Bk.new _ _ _
 have G:=K.lt;have F:c < e:=by rw [<-o];exact v.tree.lt
 have aG:s < e:=by rw [<-o];exact v.row.lt.2
 have a4:=aGY U c ay _ _ _ H (v.tree.below E F) (Z.vis (Vis.of_below (by rw [o];exact E)));obtain ⟨aL,a7,a8,aO,aP,aQ,a9,aR,aS,aT,aM,aN⟩:=v.cells;have a6:(shO q).val=.agg #[(n:Int),.int .i64 0,.int .i64 1,.int .i64 1]:=by rw [<-M];rfl
 obtain ⟨ac,z,af,ah,am,W,an,ab,aj⟩:=hqq9 B o E K a7 a8 a9 a0 M;have al:=lhd a6;clear a0 az u aA aB aC v Z B o E K aL a7 a8 aO aP aQ a9 aR aS aT aM aN a6 M;rw [al.out,z.out];go_enter func179,ntmps179;have I:k.cell? ⟨c,2,none⟩=some (.int .i64 0):=W.out;have aH:c < k.heap.size:=by rw [z.out];exact F
 go_wp2_with fail;rw [ac.out]
 try rw [z.out]
 refine a4.mono ?_;clear a4 I aH;rintro t m ⟨rfl,D⟩;have C:Below e k m:=af.out.trans (D.mono (zCm G));have L:e<=m.heap.size:=zAk (zCm G) D.size;have a2:∀a,Keep (fun _=>False) m a->a.cell? ⟨c,1,none⟩=some (.slice (some ⟨s,0,none⟩) 1 Y)/\a.cell? ⟨c,2,none⟩=some (.int .i64 0)/\a.cell? ⟨s,2,none⟩=some (.int .i64 0):=fun a O=>by have w:=C.trans (O.to_below L fun X _ j=>j.elim);exact ⟨(w.cell F).trans am.out,(w.cell F).trans W.out,(w.cell aG).trans an.out⟩
 have a3:∀a,Keep (fun _=>False) m a->Calls prog 178 #[c] a fun t T=>t=.returned (.int .i64 (n:Int))/\Below a.heap.size a T:=fun a O=>by have w:=C.trans (O.to_below L fun X _ j=>j.elim);have:=eP c q a (ab.out.at.below (by rw [z.out];exact w));rw [aj.out] at this;exact this
 obtain ⟨V,ad,y,ai⟩:=hqq4 (ah.out.below D G) C a2 a3;clear D C L a2 a3 G;go_wp2_with fail;refine wp_region_any kR ?_;refine cS 18 [16,17,18,19,20,21,22,23,24,25,26,27,28,29,30,31,32,33] (fun _=>False) 0 [] (fun _=>True) (is c) [cX,is (n:Int),is c,is c,is (.pointer (some ⟨c,1,none⟩)),is (.slice (some ⟨s,0,none⟩) 1 Y),is c,is c,is (.pointer (some ⟨c,2,none⟩)),is (.int .i64 0),is s,is (.pointer (some ⟨s,2,none⟩)),is (.int .i64 0),is (.int .i64 1),is (.int .i64 2),is (.int .i64 1),is (.int .i64 1),is (.agg #[(n:Int),.int .i64 0,.int .i64 1,.int .i64 1])] _ _ rfl dC kR kR kR (trivial) (fun _ _ _ _ _=>trivial) (fun _ _ _ A _=>A) tA0 ?_ ?_
 · refine bJ ?_;refine sC3 (fun r _ _ _ _ _ aI _ _ _ _ g=>?_) ?_
   · have aU:r (.tmp 0)=.pointer (some ⟨c,0,none⟩):=aI 0 kR;go_simp;exact g _ _ (aV (Keep.refl _ _)) rfl
   refine sC3 (fun r a b _ _ _ _ d _ _ _ g=>?_) ?_
   · replace b:Keep (fun _=>False) m a:=kD b;have aK:(is c) (r (.tmp 16)) a:=d 0 16 kR rfl;have aW:r (.tmp 16)=.pointer (some ⟨c,0,none⟩):=aK;have aF:=ai.out a b;go_simp;refine aF.mono ?_;rintro t b8 ⟨rfl,aE⟩;exact g _ _ (aJ aE) rfl
   refine pH3 0 (.pointer (some ⟨c,0,none⟩)) ?_;refine pV3 2 18 ?_;refine pV3 3 19 ?_;refine sC3 (fun _ a b _ _ _ _ d _ _ _ g=>?_) ?_
   · replace b:Keep (fun _=>False) m a:=kD b;have aY:_=_:=d 4 20 kR rfl;obtain ⟨Q,R,S⟩:=y.out a b;go_simp;exact kq g rfl
   refine pH3 0 (.pointer (some ⟨c,0,none⟩)) ?_;refine pV3 6 22 ?_;refine pV3 7 23 ?_;refine sC3 (fun _ a b _ _ _ _ d _ _ _ g=>?_) ?_
   · replace b:Keep (fun _=>False) m a:=kD b;have b0:_=_:=d 8 24 kR rfl;obtain ⟨Q,R,S⟩:=y.out a b;go_simp;exact kq g rfl
   refine sC3 (fun _ a b _ _ _ _ d _ _ _ g=>?_) ?_
   · replace b:Keep (fun _=>False) m a:=kD b;have aZ:_=_:=d 5 21 kR rfl;have b1:_=_:=d 9 25 kR rfl;obtain ⟨Q,R,S⟩:=y.out a b;go_simp;exact kq g rfl
   refine pV3 10 26 ?_;refine sC3 (fun _ a b _ _ _ _ d _ _ _ g=>?_) ?_
   · replace b:Keep (fun _=>False) m a:=kD b;have b2:_=_:=d 11 27 kR rfl;obtain ⟨Q,R,S⟩:=y.out a b;go_simp;exact kq g rfl
   refine pH3 3 (.int .i64 1) ?_;refine pV3 13 29 ?_;refine pV3 14 30 ?_;refine pH3 3 (.int .i64 1) ?_;refine sC3 (fun _ _ _ _ _ _ _ d _ _ _ g=>?_) ?_
   · have aX:_=_:=d 1 17 kR rfl;have b3:_=_:=d 12 28 kR rfl;have b4:_=_:=d 15 31 kR rfl;have b5:_=_:=d 16 32 kR rfl;go_simp;exact kq g rfl
   exact aD
 · intro r x j b d;replace b:Keep (fun _=>False) m x:=kD b;have ar:r (.tmp 33)=.agg #[(n:Int),.int .i64 0,.int .i64 1,.int .i64 1]:=d 17 33 dC rfl;simp only [zqq];rw [ar];clear d;have l:Bk x e 122 #[.int .i64 0,.int .i64 0,.int .i64 0,.int .i64 0]:=Keep.bk b V.out fun j=>j;have au:=l.frozen 0;have av:=l.frozen 1;have aw:=l.frozen 2;have ax:=l.frozen 3;have ao:=l.cell 0;have ap:=l.cell 1;have I:=l.cell 2;have aq:=l.cell 3;obtain ⟨ae,aa⟩:=hqq2 l b;clear l b;change wpAny prog Region.Mode.any _ _ (1+j) (bX 18 19) _ x;rw [zCs 1 j];refine bG (f:=j) (i:=18) kR ?_;refine bV rfl rfl ?_;generalize g:wpAny prog _ _ _ j _=K5;go_simp;subst g;refine bW kR ?_;have a1:Below e k x:=ad.out.trans (aa.out.to_below (zCm V.out.lt) fun X _ j=>j.elim);have J:=(((a1.setCell (p:=⟨e,0,none⟩) nL (.int .i64 (n:Int))).setCell (p:=⟨e,1,none⟩) nL (.int .i64 0)).setCell (p:=⟨e,2,none⟩) nL (.int .i64 1)).setCell (p:=⟨e,3,none⟩) nL (.int .i64 1);have N:=(((ae.out.set 0 (.int .i64 (n:Int))).set 1 (.int .i64 0)).set 2 (.int .i64 1)).set 3 (.int .i64 1);generalize (((x.setCell ⟨e,0,none⟩ (.int .i64 (n:Int))).setCell ⟨e,1,none⟩ (.int .i64 0)).setCell ⟨e,2,none⟩ (.int .i64 1)).setCell ⟨e,3,none⟩ (.int .i64 1)=w9 at J N⊢;obtain ⟨ag,ak⟩:=hqq2 J N;clear J N a1 au av aw ax ao ap I aq;go_wp2_with fail;exact bodyPost_ret (results_cell_row (P:=prog) (fn:=f179) (p:=2) (ty:=122) rfl _ w9 e 122 #[(n:Int),.int .i64 0,.int .i64 1,.int .i64 1] (0,0) _ rfl ak.out underlying122 rfl kR) rfl ⟨rfl,ag.out⟩
end
end Go.Proofs.YthldmddkfbijhaaGreatDoor
