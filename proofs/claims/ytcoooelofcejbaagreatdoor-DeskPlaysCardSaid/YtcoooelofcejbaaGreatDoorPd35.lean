/- Lemmas of the walk. Conditions: each its own. -/
import Derived.Test.YtcoooelofcejbaaGreatDoorPd34
import Derived.Test.YtcoooelofcejbaaGreatDoorProg
import Derived.Test.YtcoooelofcejbaaGreatDoorShl
import Derived.Test.YtcoooelofcejbaaGreatDoorSht
import Derived.Test.YtcoooelofcejbaaGreatDoorShd
import Derived.Test.YtcoooelofcejbaaGreatDoorShi
import Derived.Test.YtcoooelofcejbaaGreatDoorShs
set_option linter.all false
set_option maxRecDepth 100000
set_option maxHeartbeats 4000000
open Go.Proofs.Tryz
namespace Go.Proofs.YtcoooelofcejbaaGreatDoor
section
open Go.RowKit
def vN {b:World} {q:Nat} {j d:TypeId} (n:TypeId) {e:TypeId} {i:TypeInfo} (v:prog.underlying j=some (.slice e)) (w:prog.underlying d=some .string) (s:prog.info? e=some i) (z:i.zero=some (.int .u8 0)) (y:i.size=1) (x:i.bytes=1) {o:Value} {c:Nat} {l:List Value} (t:b.ownsRow q e 1 o c l) {a:ByteArray} (B:c+a.size<=maxLen) (H:c+a.size<=140737488355328) (G:q<=b.heap.size):
 ∃k p,(Builtin.append_ #[j,d] n #[o,.string a]).run prog b=.ok k p/\p.ownsRow q e 1 k (c+a.size) (l++Lib.strCells a)/\b.grownBy p o.ownBlock/\(k.ownBlock=o.ownBlock∨k.ownBlock=some b.heap.size):=by
 obtain ⟨k,p,u,D,E,F⟩:=Lib.run_append_own_string (P:=prog) b q j d n e i v w s z y x o c l t a B H G;refine ⟨k,p,u,D,E,?_⟩;rcases t.2 with ⟨rfl,rfl⟩|⟨m,r,A,rfl,O,J,S,Q,I,T⟩;by_cases K:a.size=0;rw [F.2 ⟨rfl,K⟩];exact .inl rfl;have f:=run_append_nil_string (P:=prog) b j d n e i (.int .u8 0) v w s z a oM oM (by rw [x];omega);rw [u] at f;injection f with e1 e2;rw [e1];exact .inr rfl;by_cases M:c+a.size<=r;have R:A.size=r:=(by simpa using I);have f:=Lib.run_append_room_string (P:=prog) b j d n e i v w s y m c r A J a M oM;rw [u] at f;injection f with e1 e2;rw [e1];exact .inl rfl;have L:∀C d,l[C]?=some d->b.cell? ((⟨m,0,none⟩:Addr).add C)=some d:=t.cells (g:=m) rfl;have N:l.length=c:=(by simpa using t.1);have f:=Lib.run_append_grow_string (P:=prog) b j d n e i (.int .u8 0) v w s z ⟨m,0,none⟩ c r l (by rw [y];simpa using N) L a oM (by unfold maxLen at B;omega) (by rw [x];exact growslice_fits oM oM);rw [u] at f;injection f with e1 e2;rw [e1];exact .inr rfl
def qB {d:World} {n:Array Oper} {o:List Oper} {b:Oper} {f:Act} {m:Exit->Act->World->Prop} (D:b.guard=none) (p s:Operand) (q r:TypeId)
 (F:b.op=.call { callee:=.builtin .append,args:=#[p,s],argTypes:=#[q,r] })
 (l:Nat) (g:TypeId) (i:TypeInfo) (K:prog.underlying q=some (.slice g)) (L:prog.underlying r=some .string) (E:prog.info? g=some i) (N:i.zero=some (.int .u8 0)) (J:i.size=1) (B:i.bytes=1)
 (k:Value) (j:Nat) (t:List Value) (I:f.eval p=k) (G:d.ownsRow l g 1 k j t) (c:ByteArray) (M:f.eval s=.string c) (y:j+c.size<=maxLen) (C:j+c.size<=140737488355328) (A:l<=d.heap.size)
 (u:∀a e,e.ownsRow l g 1 a (j+c.size) (t++Lib.strCells c)->d.grownBy e k.ownBlock->(a.ownBlock=k.ownBlock∨a.ownBlock=some d.heap.size)->wpList prog n m o (f.put b.dst a) e):wpList prog n m (b::o) f d:=by
 refine wpList_plain D fun O z=>?_;obtain ⟨a,e,H,v,w,x⟩:=vN b.type K L E N J B G y C A;unfold Oper.wp execOp;simp only [F,resolve,invoke,builtin,Sem.run_bind,Sem.run_pure,Result.andThen_ok,List.map_toArray,List.map_cons,List.map_nil,I,M,H];exact z _ _ (u a e v w x)
def BldV (e:World) (a:Nat) (d:List UInt8) (c:Value):Prop:=
 ∃b,(b=.pointer none∨b=.pointer (some a))/\e.heap[a]?=some (.cells #[b,c] 36 (0,0))/\e.ownsRow 0 5 1 c d.length (Lib.byteCells d)/\c.ownBlock≠some a
def BldV.new (a:World):BldV (a.alloc (.cells #[.pointer none,.slice none 0 0] 36)) a.heap.size [] (.slice none 0 0):=
 ⟨_,.inl rfl,heap_alloc_new a _,World.ownsRow_nil _ _ _ _,by intro b;cases b⟩
def BldV.bld {i:World} {c:Nat} {a:List UInt8} {b:Value} (j:BldV i c a b):BldAt i 0 c a:=by
 obtain ⟨l,k,e,f,g⟩:=j;have d:(Lib.byteCells a).length=a.length:=Lib.byteCells_length a;rcases k with rfl | rfl;exact .inl ⟨zAp _,b,e,by rw [d];exact f,g⟩;exact .inr ⟨zAp _,b,e,by rw [d];exact f,g⟩
def BldV.lt {c:World} {a:Nat} {f:List UInt8} {g:Value} (e:BldV c a f g):a < c.heap.size:=by
 obtain ⟨j,i,d,_⟩:=e;rcases zBe a c.heap.size with b | b;exact b
 · rw [Array.getElem?_eq_none b] at d;cases d
def yK {a:Nat} {g:List UInt8} {i:Value} {b:World} (k:BldV b a g i):
 Calls prog 19 #[a] b fun c e=>c=.returned (.tuple #[])/\e.heap[a]?=some (.cells #[a,i] 36 (0,0))/\e.ownsRow 0 5 1 i g.length (Lib.byteCells g)/\Keep (fun f=>f=a) b e:=by
 have r:=k.bld;obtain ⟨m,q,d,l,n⟩:=k;have j:b.cell? a=some m:=by rw [Lib.cell_of_heap d];rfl
 rcases q with rfl | rfl;refine (Any.Builder_copyCheck_fresh { shWrS with } shWrX.toX72 a b j (by simp [World.shape?,d];rfl) (Lib.frozen_of_heap d 0)).mono ?_;rintro c e ⟨rfl,rfl⟩;refine ⟨rfl,(heap_setCell_same b a 0 _ _ _ d).trans rfl,?_,Keep.setCell (F:=fun f=>f=a) (p:=a) (Keep.refl _ _) (.inl rfl) _⟩;exact l.kept (row:=some a) ⟨rfl,rfl,rfl,by simp [World.setCell],fun f _ o=>Below.heap_setCell _ _ _ _ (fun c=>o (by simp [c]))⟩ (Or.inr n);refine (Any.Builder_copyCheck_used { shWrS with } shWrX.toX72 a b j).mono ?_;rintro c e ⟨rfl,rfl⟩;exact ⟨rfl,d,l,Keep.refl _ _⟩
def aAk {a:Nat} {k:List UInt8} (c:List UInt8) {e:Value} {r:World} (s:BldV r a k e) (a2:k.length+c.length<=1000000000):
 Calls prog 11 #[a,dY c] r fun b E=>(∃V,b=.returned V)/\∃v,BldV E a (k++c) v/\Keep (fun d=>d=a∨e.ownBlock=some d) r E/\∀m,v.ownBlock=some m->e.ownBlock=some m∨r.heap.size<=m:=by
 have O:e.ownBlock≠some a:=s.choose_spec.2.2.2;have L:=s.lt;have z:=yK s;obtain ⟨S,K,P,Q,R⟩:=info_parts shWrX.infoByte;have T:=underlying34;have U:=underlying9;have y:=lhd z;clear z s;go_enter func11,ntmps11;go_wp2_with fail;refine y.out.mono ?_;rintro b w1 ⟨rfl,w,C,u⟩;have W:w1.cell? ⟨a,1,none⟩=some e:=by rw [Lib.cell_of_heap w];rfl
 go_wp2_with (at_builtin;refine qB rfl _ _ 34 9 rfl 0 5 S T U K P Q R _ _ _ rfl C ⟨c.toArray⟩ rfl ?c3 ?c4 (zAp _) ?_)
 case c3=>have H:=jZ c;unfold maxLen;omega
 case c4=>have H:=jZ c;omega
 intro v i q g J;have M:a < w1.heap.size:=zAl L u.size;have n:i.heap[a]?=some (.cells #[a,e] 36 (0,0)):=by rw [g.block a M (fun b=>O b.symm)];exact w
 have Y:i.cell? a=some (.pointer (some a)):=by rw [Lib.cell_of_heap n];rfl
 have Z:i.cell? ⟨a,1,none⟩=some e:=by rw [Lib.cell_of_heap n];rfl
 have a1:i.frozen? ⟨a,1,none⟩=false:=Lib.frozen_of_heap n 1;obtain ⟨j,l,f,rfl⟩:∃j l f,v=.slice j l f:=by rcases q.2 with ⟨x,_⟩|⟨m,f,X,x,_⟩;exact ⟨_,_,_,x⟩;exact ⟨_,_,_,x⟩
 have A:Keep (fun d=>d=a∨e.ownBlock=some d) r i:=by refine (u.mono fun d _ o=>.inl o).trans ⟨g.os,g.tape,g.output,g.size,fun d o N=>g.block d o fun b=>N (.inr b.symm)⟩
 have F:=lhd (A.setCell (p:=⟨a,1,none⟩) (.inl (.inl rfl)) (.slice j l f));have I:Lib.byteCells (k++c)=Lib.byteCells k++Lib.strCells ⟨c.toArray⟩:=by unfold Lib.byteCells Lib.strCells;rw [zAz]
 have a0:(⟨c.toArray⟩:ByteArray).size=c.length:=jZ c;rw [<-I] at q;have B:=Lib.ownBlock_ne q n dC;have D:BldV (i.setCell ⟨a,1,none⟩ (.slice j l f)) a (k++c) (.slice j l f):=by refine ⟨_,.inr rfl,(heap_setCell_same i a 1 _ _ _ n).trans rfl,?_,B⟩;rw [zAi];exact q.kept (row:=some a) ⟨rfl,rfl,rfl,by simp [World.setCell],fun d _ o=>Below.heap_setCell _ _ _ _ (fun b=>o (by simp [b]))⟩ (Or.inr B)
 have a3:=u.size;have G:=lhd D;clear D A q u g w C y;go_wp2_with fail;go_ret2;refine ⟨⟨_,rfl⟩,.slice j l f,G.out,F.out,fun m t=>?_⟩;rcases J with b | b;exact .inl (by rw [<-b];exact t);rw [b] at t;injection t with t;exact .inr oM
end
section
def kM (b:List Int) (g:b.length<=200) (c:∀a∈b,-9223372036854775808<=a/\a<=9223372036854775807):(aZ b).length<=5000:=by
 unfold aZ;split
 · simp
 · have e:=aA2 (b.map Lib.itoa) 20 (fun i f=>by
    obtain ⟨a,d,rfl⟩:=zAy.1 f;exact rC (c a d).1 (c a d).2)
   rw [zBc] at e;omega
def zI (a:Int) (c:-9223372036854775808<=a/\a<=9223372036854775807):(aZ [a]).length<=5000:=
 kM [a] (by simp) (fun d b=>by simp at b;subst b;exact c)
def aJy (b:List Nat) (d:b.length<=200) (e:∀a∈b,a<=1000000):(aZ (jX b)).length<=5000:=
 kM _ (by unfold jX;rw [zBc];exact d) (fun g f=>by
  obtain ⟨a,c,rfl⟩:=zAy.1 f;have:=e a c;omega)
def uX (b a:List UInt8) (e d f c:Int):(aZ [(doM b e d f c a).2.code]).length<=5000:=
 zI _ (by have:=fV b a e d f c;omega)
def aAe (a:List UInt8) (c d b:Int):(doM a c 5 d b []).2.data.length<=a.length:=by
 unfold doM;simp only [show ((5:Int)=1)=False by simp,show ((5:Int)=2)=False by simp,if_false,if_true];split
 · simp
 simp only [zAj,zAw];omega
def aG7 {a:List UInt8} (c d b:Int) (g:a.length<=127):(jQ (doM a c 5 d b []).2).length<=6000:=by
 have e:=uX a [] c 5 d b;have f:=aAe a c d b;unfold jQ;split;omega;split;simp only [zAi,zCg,List.length_nil];omega;rw [zAi,zAi,lB,List.length_singleton];omega
def aFm:aCF.length<=6000:=by unfold aCF;simp
def aIm (i:Nat) (b:Int) {c:Txt} (j d:List UInt8) (a:Nat) (g:c.1.length<=127):(aAc i b c j a d).2.length<=6000:=by
 have e:=aFm;unfold aAc;split;have:=uX c.1 d b 1 a 0;dsimp only;omega;split;have:=uX c.1 d b 3 a 0;dsimp only;omega;split;exact e
 · rename_i f _
   split;have:=uX c.1 [] b 2 a f;dsimp only;omega;split;exact aG7 b a f g;exact e
def aGw {ρ:List UInt8->List Nat} (g l:Nat) {b:List UInt8} {m:Nat->Prop} (t:List UInt8) (r:IsSuf (aF b) (ρ b)) (q:b.length<=127) (u:cardQ m<=1000):∀d,aloneS ρ g l (b,m) t=some d->d.length<=200/\∀c∈d,0<=c/\c<=4294967295:=by
 intro d a;have f:∀c:Int,0<=c->c<=4294967295->some [c]=some d->d.length<=200/\∀o∈d,0<=o/\o<=4294967295:=by intro c i j k;injection k with k;subst k;simp only [List.length_singleton,List.mem_singleton,forall_eq];exact ⟨by omega,i,j⟩
 have n:(aD (aF b) (ρ b)).length=b.length+1:=by rw [bF,r.len,aK]
 unfold aloneS at a;dsimp only at a;split at a;exact f _ oM oM a;split at a;injection a with a;subst a;unfold jX;refine ⟨by rw [zBc,n];omega,fun c e=>?_⟩;obtain ⟨s,p,rfl⟩:=zAy.1 e;have:=cL (dM b) s p;omega;split at a;exact f _ oM oM a;split at a;have i:=aAI (L:=aD (aF b) (ρ b));have j:=aAH (aD (aF b) (ρ b));exact f _ oM oM a;split at a
 · injection a with a;subst a;have i:=vH (ρ b) l (rate:=g) n q;have j:=rM (dN (aD (aF b) (ρ b)) (ρ b) l g b.length);refine ⟨by simp,fun c e=>?_⟩;simp only [List.mem_cons,List.not_mem_nil,or_false] at e;rcases e with rfl | rfl <;> omega
 split at a;exact f _ oM oM a
 · cases a
def qZ {ρ:List UInt8->List Nat} (d c:Nat) {a:List UInt8} {Q:Nat->Prop} (b:List UInt8) (o:IsSuf (aF a) (ρ a)) (g:a.length<=127) (l:cardQ Q<=1000):(lineS ρ d c (a,Q) b).2.length<=6000:=by
 have e:=aFm;unfold lineS;split
 · cases k:aloneS ρ d c (a,Q) b with
   | none=>exact e
   | some f=>
     obtain ⟨i,j⟩:=aGw d c b o g l f k;have:=kM f i fun q n=>by have:=j q n;omega
     show (aZ f).length<=6000;omega
 have r:=lC a (cV b).2.1;split;have:=zI ((dD a (cV b).2.1).length:Int) oM;dsimp only;omega;split;have:=aJy (dD a (cV b).2.1) oM (fun p m=>by have:=pQ a (cV b).2.1 p m;omega);dsimp only;omega;split;exact e;split;exact e;exact aIm d c _ _ _ g
noncomputable def rhoS (b:List UInt8):List Nat:=by
 classical
 exact if h:∃a,IsSuf (aF b) a then h.choose else []
def mU {b:List UInt8} {a:List Nat} (d:IsSuf (aF b) a):IsSuf (aF b) (rhoS b):=by
 have c:∃a,IsSuf (aF b) a:=⟨a,d⟩;unfold rhoS;rw [dif_pos c];exact c.choose_spec
end
section
open Go.RowKit
def pN (d:List UInt8):(bW d).length<=d.length+1/\∀b∈bW d,b.length<=d.length:=by
 induction d with
 | nil=>exact ⟨zAs _,fun b a=>by simp [bW] at a;subst a;exact zAs _⟩
 | cons i j c=>
   unfold bW;split
   · refine ⟨by simp only [zCg];omega,fun b a=>?_⟩;rcases List.mem_cons.1 a with rfl | a
     · simp
     have:=c.2 b a;simp only [zCg];omega
   · split
     · refine ⟨by simp,fun b a=>?_⟩;simp at a;subst a;simp
     · rename_i b k f
       rw [f] at c;refine ⟨by have:=c.1;simp only [zCg] at this⊢;omega,fun g e=>?_⟩;rcases List.mem_cons.1 e with rfl | e;have:=c.2 b (List.mem_cons_self ..);simp only [zCg];omega;have:=c.2 g (List.mem_cons_of_mem _ e);simp only [zCg];omega
def BldV.step {k l:World} {m c b:Nat} {own u:Nat->Nat} {j:List UInt8} {d:Value} (n:BldV k b j d) (i:LFS m c k l own u) (e:Ap own c b) (g:∀a,d.ownBlock=some a->Ap own c a):BldV l b j d:=by
 obtain ⟨v,s,o,p,q⟩:=n;refine ⟨v,s,i.bk (t:=36) o e.col e.ne dC dC,aA p fun a w f r=>?_,q⟩;exact i.bk r (g a f).col (g a f).ne dC dC
def BldV.bldB {f:World} {d e:Nat} {a:List UInt8} {c:Value} (q:BldV f e a c) (m:d<=e) (s:∀b,c.ownBlock=some b->d<=b):BldAt f d e a:=by
 obtain ⟨v,r,i,j,l⟩:=q;have g:(Lib.byteCells a).length=a.length:=Lib.byteCells_length a;have k:f.ownsRow d 5 1 c a.length (Lib.byteCells a):=by refine ⟨j.1,?_⟩;rcases j.2 with t |⟨b,o,p,n,_,u⟩;exact .inl t;exact .inr ⟨b,o,p,n,s b (by rw [n];rfl),u⟩
 rcases r with rfl | rfl;exact .inl ⟨m,c,i,by rw [g];exact k,l⟩;exact .inr ⟨m,c,i,by rw [g];exact k,l⟩
structure RunI (w wr:World) (gs gb gL most rate k:Nat) (cs:Array Value) (T:Txt) (out:List UInt8):Prop where
 st:∃own gl v,StAt wr w.heap.size own gs gl most rate T.1 T.2/\BldV wr gb out v/\Ap own gs gb/\(∀g,v.ownBlock=some g->Ap own gs g/\w.heap.size<=g)/\Kp wr own gs gL 9 cs
 bl:Below w.heap.size w wr
 lo:w.heap.size<=gb
 len:out.length<=6001*k
def RunI.next {i wr o x:World} {d c l z H I n:Nat} {p:Array Value} {own g:Nat->Nat} {r:Txt} {W w:List UInt8} {e:Value}
 (C:BldV wr c W e) (M:Ap own d c) (v:∀a,e.ownBlock=some a->Ap own d a/\i.heap.size<=a) (u:Kp wr own d l 9 p) (y:Below i.heap.size i wr) (V:i.heap.size<=c)
 (s:StAt o i.heap.size g d z H I r.1 r.2) (m:LFS i.heap.size d wr o own g)
 (J:∃q,BldV x c w q/\Keep (fun n=>n=c∨e.ownBlock=some n) o x/\∀a,q.ownBlock=some a->e.ownBlock=some a∨o.heap.size<=a) (Q:w.length<=6001*(n+1)):
 RunI i x d c l H I (n+1) p r w:=by
 obtain ⟨q,N,t,S⟩:=J;have P:c < wr.heap.size:=C.lt;obtain ⟨a0,Y,O,F,X⟩:=C;have T:∀a,e.ownBlock=some a->a < wr.heap.size:=fun a k=>(F.lt a k).2;have B:Ap g d c:=M.step m P;have G:∀a,e.ownBlock=some a->Ap g d a:=fun a k=>(v a k).1.step m (T a k);have K:∀f,(f=c∨e.ownBlock=some f)->Ap g d f:=fun f D=>D.elim (fun b=>b ▸ B) (G f);have Z:=m.size;have U:=y.size;have E:Kp o g d l 9 p:=u.step m dC dC;have R:¬(l=c∨e.ownBlock=some l):=by rintro (b | b);have A:=u.1;rw [b] at A;have j:wr.heap[c]?=some (.cells p 9 (0,0)):=A;rw [O] at j;injection j with j;injection j with _ j _;exact absurd j dC;exact aS F u.1 dC b.symm
 refine ⟨⟨g,z,q,s.far t K,N,B,fun a k=>?_,⟨t.bk E.1 R,E.2⟩⟩,?_,V,Q⟩;rcases S a k with b | b;exact ⟨G a b,(v a b).2⟩;exact ⟨⟨s.fresh b,by have:=s.blk.lt;omega⟩,by omega⟩;refine (y.trans (m.below U)).trans (t.to_below oM fun f D L=>?_);rcases L with b | b;omega;have:=(v f b).2;omega
def aBr (d a:Nat) {s:List UInt8} {m:World} (bi:d<=127) (bt:1<=a) (bu:a<=64) (bO:s.length<=100000) (a1:TabD m):
 Calls prog 6 #[(d:Int),(a:Int),dY s] m fun A bI=>A=.returned (dY (runS rhoS a d s))/\Below m.heap.size m bI:=by
 have bj:=aAl d a m oM bt bu;have a9:=a1.tab.pos;have aa:=a1.low.2;have ab:=a1.low.1;obtain ⟨g,ae⟩:=eqx (bW s);have aZ:=pN s;have G:=lA s;have b1:=fun w1 (bw:Below m.heap.size m w1)=>aGG s oM (a1.below bw a9 aa ab).mx;have av:runS rhoS a d s=if 300 < (if g.getLast (ae ▸ G)= [] then g.dropLast else g).length then [101,114,114,111,114,10] else linesRun rhoS a d ([],cY a 0) (if g.getLast (ae ▸ G)= [] then g.dropLast else g):=by unfold runS aET;subst ae;rfl
 rw [ae] at aZ G b1;obtain ⟨a6,a0⟩:=eqx g.length;have bJ:0 < a6:=by rw [<-a0];exact List.length_pos_iff.2 G
 have aY:g[a6 - 1]?=some (g.getLast G):=by rw [<-a0];exact (List.getLast?_eq_getElem? ▸ List.getLast?_eq_some_getLast G)
 obtain ⟨b6,a2⟩:=eqx (g.getLast G);rw [a2] at av aY;obtain ⟨bo,bf⟩:=eqx (runS rhoS a d s);rw [bf] at av⊢;obtain ⟨bc,aG,b9,bd,bb⟩:=hqq5 bj b1 a1 av aZ.2;have bK:a6<=100001:=by rw [<-a0];omega
 clear bj b1 a1 av aZ G ae bf a2;rw [a0] at aG;obtain ⟨j,rfl⟩:∃j,a6=j+1:=⟨a6 - 1,by omega⟩;rw [zBb] at aY;go_enter func6,ntmps6;go_wp2_with fail;refine bc.out.mono ?_;rintro A w1 ⟨t,aN,own,rfl,b2,aU⟩;obtain ⟨aH,ay⟩:=hqq2 b2 aU;have bA:=aU.size;have bN:t < w1.heap.size:=b2.blk.lt;clear b2 aU bc;go_wp2_with fail;refine (aG.out w1 ay.out).mono ?_;rintro A o ⟨rfl,rfl⟩;obtain ⟨q,bh⟩:=eqx w1.heap.size;obtain ⟨o,am⟩:=eqx (w1.alloc (.cells (g.map dY).toArray 9));have b3:StAt o m.heap.size own t aN d a [] (cY a 0):=by rw [<-am];exact aH.out.vb (Vis.of_below (bR.alloc nL _))
 have au:Kp o own t q 9 (g.map dY).toArray:=by rw [<-am,<-bh];exact Kp.new aH.out _ _
 have aV:Below m.heap.size m o:=by rw [<-am];exact ay.out.alloc bA _
 have be:o.cell? ⟨q,j,none⟩=some (dY b6):=(au.1.cell j).trans (by simp [aY]);have bg:∀(wr:World) bm,Kp wr bm t q 9 (g.map dY).toArray->∀b c,g[b]?=some c->wr.cell? ⟨q,b,none⟩=some (dY c):=fun wr bm ar b c i=>(ar.1.cell b).trans (by simp [i]);have bk:=aV.size;have bL:q < o.heap.size:=au.1.lt;have bM:t < o.heap.size:=b3.blk.lt;obtain ⟨Z,Y,X,ba⟩:=hqq4 b3 au aV bg;clear b3 au aV bg ay aH aG;rw [am,bh];clear am;by_cases a2:b6= []
 · subst a2;have p:=bd.out;rw [zBx rfl] at p;obtain ⟨e,w⟩:=eqx g.dropLast;have D:e.length=j:=(by rw [<-w,List.length_dropLast,a0];rfl);have aP:∀(b:Nat) (c:List UInt8),e[b]?=some c->g[b]?=some c:=fun b c i=>by
    have ar:b < e.length:=(zAc.1 i).1;rw [<-w,List.getElem?_dropLast] at i;split at i;exact i
    · cases i
   have aQ:∀c∈e,c∈g:=fun c i=>by rw [<-w] at i;exact List.dropLast_subset _ i
   rw [w] at p;clear w;rcases zBe 300 (j) with J | J
   · rw [D,zBx J] at p;have b5:(300:Int) < (j:Int):=oM;go_wp2_with fail;go_ret;exact ⟨by rw [p];kernel_rfl,X.out⟩
   · rw [D,zBw oM] at p;have b5:¬((300:Int) < (j:Int)):=oM;have bz:j<=300:=J;obtain ⟨C,aW⟩:=eqx o.heap.size;obtain ⟨aq,F⟩:=eqx (o.alloc (.cells #[.pointer none,.slice none 0 0] 36));have N:Below o.heap.size o aq:=(by rw [<-F];exact bR.alloc nL _);have ac:RunI m aq t C q d a 0 (g.map dY).toArray (textRun rhoS a d ([],cY a 0) (e.take 0)) (linesRun rhoS a d ([],cY a 0) (e.take 0)):=(by refine ⟨⟨own,aN,.slice none 0 0,Z.out.vb (Vis.of_below N),by rw [<-F,<-aW];exact BldV.new o,⟨Z.out.fresh oM,by omega⟩,(fun B y=>by cases y),?_⟩,X.out.trans (N.mono bk),by omega,zAp _⟩;exact ⟨by rw [<-F];exact Bk.alloc Y.out.1 _,Y.out.2⟩);have aw:=lhd ac;clear ac N Z Y X;go_wp2_with fail;clear F be;go_loopw [45] (fun W wr=>∃b:Nat,b<=j/\W=.int .i64 (b:Int)/\RunI m wr t C q d a b (g.map dY).toArray (textRun rhoS a d ([],cY a 0) (e.take b)) (linesRun rhoS a d ([],cY a 0) (e.take b))) (fun W _=>(j) -(intOf W).toNat)
     case atStart=>exact ⟨0,by omega,rfl,aw.out⟩
     case round=>
        obtain ⟨b,ar,rfl,f⟩:=hrel;by_cases b0:b < j
        · obtain ⟨c,i⟩:∃c,e[b]?=some c:=⟨_,zAa (by rw [D];exact b0)⟩;have b4:=zAd i;obtain ⟨ao,aO,b7,n,r,O,v,E⟩:=f.st;have bp:wr.cell? ⟨q,b,none⟩=some (dY c):=ba.out wr ao E b c (aP b c i);have T:e.take (b+1)=e.take b++ [c]:=(by rw [zAv,i];rfl);have l:=eZ rhoS a d c (e.take b) ([],cY a 0);have k:=dU rhoS a d c (e.take b) ([],cY a 0);rw [<-T] at l k;have bD:(b:Int) < (j:Int):=oM;by_cases U:c= []
          · subst U;rw [zBx rfl] at l k;rw [List.append_nil] at k;have ad:RunI m wr t C q d a (b+1) (g.map dY).toArray (textRun rhoS a d ([],cY a 0) (e.take (b+1))) (linesRun rhoS a d ([],cY a 0) (e.take (b+1))):=(by rw [l,k];exact ⟨f.st,f.bl,f.lo,zAk f.len oM⟩);have ax:=lhd ad;clear ad f n r O v E l k T i;go_wp2_with fail;go_roundw
            case rel=>exact ⟨b+1,by omega,by go_num,ax.out⟩
            case measure=>simp [intOf];omega
          · rw [zBw U] at l k;obtain ⟨⟨z,I⟩,af⟩:∃z,textRun rhoS a d ([],cY a 0) (e.take b)=z:=⟨_,rfl⟩;obtain ⟨aM,K⟩:=eqx (linesRun rhoS a d ([],cY a 0) (e.take b));rw [af] at l k n;dsimp only at n;rw [K] at k r;have bv:aM.length<=6001*b:=(by rw [<-K];exact f.len);obtain ⟨bH,_,_,_,al,_⟩:=n.tp;have V:=mU al;have aS:=n.n127;have aT:=qZ a d (Q:=I) c V aS (by obtain ⟨bE,bq,br,_⟩:=fC n;omega);have bC:=bb.out c (aQ c b4);have S:=aC8 (x:=c) V n oM bi (b9.out.below f.bl a9 aa ab) a9 aa ab;obtain ⟨bn,L⟩:=eqx ((lineS rhoS a d (z,I) c).1);obtain ⟨a7,M⟩:=eqx ((lineS rhoS a d (z,I) c).2);rw [L,M] at S;rw [M] at aT k;rw [L] at l;have bB:(c== [])=false:=(by rw [zCb];exact U);have u:=f.bl;have aR:=f.lo;obtain ⟨aC,a5,a3,a4,aA,H,aK,aE⟩:=hqq8 S r O v E u l k;clear S r O v E u l k f n al V af K L M T i;go_wp2_with fail;refine aC.out.mono ?_;rintro A b8 ⟨bF,bs,rfl,aj,R⟩;have ah:=a5.out.step R a3.out fun B y=>(a4.out B y).1;have an:=aAk (a7++ [10]) ah (by rw [zAi,List.length_singleton];omega);have bx:=run_string_add_lists (P:=prog) b8 a7 [10] oM dC;obtain ⟨aL,aI,aB⟩:=hqq3 an aj R;clear an aj R ah;go_wp2_with fail;refine aL.out.mono ?_;rintro A ap ⟨⟨bG,rfl⟩,a8⟩;have ai:RunI m ap t C q d a (b+1) (g.map dY).toArray (textRun rhoS a d ([],cY a 0) (e.take (b+1))) (linesRun rhoS a d ([],cY a 0) (e.take (b+1))):=(by rw [aK.out,aE.out];exact RunI.next a5.out a3.out a4.out aA.out H.out aR aI.out aB.out (by simpa [zCo] using a8) (by simp only [zAi,zCg,List.length_nil];omega));have aD:=lhd ai;clear ai a8;go_wp2_with fail;go_roundw
            case rel=>exact ⟨b+1,by omega,by go_num,aD.out⟩
            case measure=>simp [intOf];omega
        · have aX:b=j:=oM;rw [aX] at f⊢;rw [zAg (by rw [D];exact zAs _)] at f;obtain ⟨ao,aO,b7,_,r,_,v,_⟩:=f.st;have u:=f.bl;have ak:=qA (r.bldB f.lo fun B y=>(v B y).2) u.size;obtain ⟨H,aJ,aF⟩:=hqq3 u ak p;clear u ak f r v p;go_wp2_with fail;refine aJ.out.mono ?_;rintro A ap ⟨rfl,ag⟩;have az:=lhd (H.out.trans ag);clear ag;go_wp2_with fail;go_ret;exact ⟨by rw [aF.out];kernel_rfl,az.out⟩
 · have p:=bd.out;rw [zBw a2] at p;have bP:(b6== [])=false:=(by rw [zCb];exact a2);obtain ⟨e,w⟩:=eqx g;have D:e.length=j+1:=(by rw [<-w,a0]);have aP:∀(b:Nat) (c:List UInt8),e[b]?=some c->g[b]?=some c:=fun b c i=>by rw [w];exact i
   have aQ:∀c∈e,c∈g:=fun c i=>by rw [w];exact i
   have p:bo=if 300 < e.length then [101,114,114,111,114,10] else linesRun rhoS a d ([],cY a 0) e:=(by rw [<-w];exact p);clear w;rcases zBe 300 (j+1) with J | J
   · rw [D,zBx J] at p;have b5:(300:Int) < (j:Int)+1:=oM;go_wp2_with fail;go_ret;exact ⟨by rw [p];kernel_rfl,X.out⟩
   · rw [D,zBw oM] at p;have b5:¬((300:Int) < (j:Int)+1):=oM;have bz:j+1<=300:=J;obtain ⟨C,aW⟩:=eqx o.heap.size;obtain ⟨aq,F⟩:=eqx (o.alloc (.cells #[.pointer none,.slice none 0 0] 36));have N:Below o.heap.size o aq:=(by rw [<-F];exact bR.alloc nL _);have ac:RunI m aq t C q d a 0 (g.map dY).toArray (textRun rhoS a d ([],cY a 0) (e.take 0)) (linesRun rhoS a d ([],cY a 0) (e.take 0)):=(by refine ⟨⟨own,aN,.slice none 0 0,Z.out.vb (Vis.of_below N),by rw [<-F,<-aW];exact BldV.new o,⟨Z.out.fresh oM,by omega⟩,(fun B y=>by cases y),?_⟩,X.out.trans (N.mono bk),by omega,zAp _⟩;exact ⟨by rw [<-F];exact Bk.alloc Y.out.1 _,Y.out.2⟩);have aw:=lhd ac;clear ac N Z Y X;go_wp2_with fail;clear F be;go_loopw [45] (fun W wr=>∃b:Nat,b<=j+1/\W=.int .i64 (b:Int)/\RunI m wr t C q d a b (g.map dY).toArray (textRun rhoS a d ([],cY a 0) (e.take b)) (linesRun rhoS a d ([],cY a 0) (e.take b))) (fun W _=>(j+1) -(intOf W).toNat)
     case atStart=>exact ⟨0,by omega,rfl,aw.out⟩
     case round=>
        obtain ⟨b,ar,rfl,f⟩:=hrel;by_cases b0:b < j+1
        · obtain ⟨c,i⟩:∃c,e[b]?=some c:=⟨_,zAa (by rw [D];exact b0)⟩;have b4:=zAd i;obtain ⟨ao,aO,b7,n,r,O,v,E⟩:=f.st;have bp:wr.cell? ⟨q,b,none⟩=some (dY c):=ba.out wr ao E b c (aP b c i);have T:e.take (b+1)=e.take b++ [c]:=(by rw [zAv,i];rfl);have l:=eZ rhoS a d c (e.take b) ([],cY a 0);have k:=dU rhoS a d c (e.take b) ([],cY a 0);rw [<-T] at l k;have bD:(b:Int) < (j:Int)+1:=oM;by_cases U:c= []
          · subst U;rw [zBx rfl] at l k;rw [List.append_nil] at k;have ad:RunI m wr t C q d a (b+1) (g.map dY).toArray (textRun rhoS a d ([],cY a 0) (e.take (b+1))) (linesRun rhoS a d ([],cY a 0) (e.take (b+1))):=(by rw [l,k];exact ⟨f.st,f.bl,f.lo,zAk f.len oM⟩);have ax:=lhd ad;clear ad f n r O v E l k T i;go_wp2_with fail;go_roundw
            case rel=>exact ⟨b+1,by omega,by go_num,ax.out⟩
            case measure=>simp [intOf];omega
          · rw [zBw U] at l k;obtain ⟨⟨z,I⟩,af⟩:∃z,textRun rhoS a d ([],cY a 0) (e.take b)=z:=⟨_,rfl⟩;obtain ⟨aM,K⟩:=eqx (linesRun rhoS a d ([],cY a 0) (e.take b));rw [af] at l k n;dsimp only at n;rw [K] at k r;have bv:aM.length<=6001*b:=(by rw [<-K];exact f.len);obtain ⟨bH,_,_,_,al,_⟩:=n.tp;have V:=mU al;have aS:=n.n127;have aT:=qZ a d (Q:=I) c V aS (by obtain ⟨bE,bq,br,_⟩:=fC n;omega);have bC:=bb.out c (aQ c b4);have S:=aC8 (x:=c) V n oM bi (b9.out.below f.bl a9 aa ab) a9 aa ab;obtain ⟨bn,L⟩:=eqx ((lineS rhoS a d (z,I) c).1);obtain ⟨a7,M⟩:=eqx ((lineS rhoS a d (z,I) c).2);rw [L,M] at S;rw [M] at aT k;rw [L] at l;have bB:(c== [])=false:=(by rw [zCb];exact U);have u:=f.bl;have aR:=f.lo;obtain ⟨aC,a5,a3,a4,aA,H,aK,aE⟩:=hqq8 S r O v E u l k;clear S r O v E u l k f n al V af K L M T i;go_wp2_with fail;refine aC.out.mono ?_;rintro A b8 ⟨bF,bs,rfl,aj,R⟩;have ah:=a5.out.step R a3.out fun B y=>(a4.out B y).1;have an:=aAk (a7++ [10]) ah (by rw [zAi,List.length_singleton];omega);have bx:=run_string_add_lists (P:=prog) b8 a7 [10] oM dC;obtain ⟨aL,aI,aB⟩:=hqq3 an aj R;clear an aj R ah;go_wp2_with fail;refine aL.out.mono ?_;rintro A ap ⟨⟨bG,rfl⟩,a8⟩;have ai:RunI m ap t C q d a (b+1) (g.map dY).toArray (textRun rhoS a d ([],cY a 0) (e.take (b+1))) (linesRun rhoS a d ([],cY a 0) (e.take (b+1))):=(by rw [aK.out,aE.out];exact RunI.next a5.out a3.out a4.out aA.out H.out aR aI.out aB.out (by simpa [zCo] using a8) (by simp only [zAi,zCg,List.length_nil];omega));have aD:=lhd ai;clear ai a8;go_wp2_with fail;go_roundw
            case rel=>exact ⟨b+1,by omega,by go_num,aD.out⟩
            case measure=>simp [intOf];omega
        · have aX:b=j+1:=oM;rw [aX] at f⊢;rw [zAg (by rw [D];exact zAs _)] at f;obtain ⟨ao,aO,b7,_,r,_,v,_⟩:=f.st;have u:=f.bl;have ak:=qA (r.bldB f.lo fun B y=>(v B y).2) u.size;obtain ⟨H,aJ,aF⟩:=hqq3 u ak p;clear u ak f r v p;go_wp2_with fail;refine aJ.out.mono ?_;rintro A ap ⟨rfl,ag⟩;have az:=lhd (H.out.trans ag);clear ag;go_wp2_with fail;go_ret;exact ⟨by rw [aF.out];kernel_rfl,az.out⟩
def dG {z:Int} (a:World) (c:0<=z) (d:z<=4611686018427387904):
 Calls prog 4 #[.int .i64 z] a fun b e=>b=.returned (dY (aZ [z]))/\a=e:=by
 rw [pB];exact tK a c d
def aDp (a b:Int):aZ [a,b]=aZ [a]++ [32]++aZ [b]:=by
 rw [pB,pB];unfold aZ;rw [zBw (by simp)];show Lib.join [Lib.itoa a,Lib.itoa b] [32]=_;rw [show [Lib.itoa a,Lib.itoa b]= [Lib.itoa a]++ [Lib.itoa b] from rfl,zX _ (by simp),Lib.join_one]
def aAv (l:World) (a:Nat) (own:Nat->Nat) (b j k:Nat) (e:Txt) (c:Option (List Int)) (g:Ending) (f:World):Prop:=∃d i,g=.returned (.tuple #[dY ((c.map aZ).getD []),.bool c.isSome])/\StAt f a d b i j k e.1 e.2/\LFS a b l f own d
def aC1 {ρ:List UInt8->List Nat} {t:Nat} {own:Nat->Nat} {f e W B:Nat} {a x:List UInt8} {a5:Nat->Prop} {k:World} (V:IsSuf (aF a) (ρ a)) (g:StAt k t own f e W B a a5) (au:TabW k) (ar:7 < t):
 Calls prog 25 #[f,.string ⟨x.toArray⟩] k (aAv k t own f W B (jS B (a,a5) x) (aloneS ρ B W (a,a5) x)):=by
 obtain ⟨J,M⟩:=eqx a.length;have a9:J<=127:=by rw [<-M];exact g.n127
 have ac:=xN (J+1) g V oM;have j:=pX g V;have q:=oW g V;have ae:∀aj∈aD (aF a) (ρ a),aj < 257:=cL (dM a);have bk:=g.size;unfold aloneS aAv jS;dsimp only;rw [M] at j⊢;obtain ⟨o,aa⟩:=eqx (aD (aF a) (ρ a));have ad:o.length=J+1:=by rw [<-aa,bF,V.len,aK,M]
 rw [aa] at ac j q ae⊢;obtain ⟨a6,av⟩:=eqx (dN o (ρ a) W B J);have y:=vH (ρ a) W (rate:=B) ad a9;rw [av] at j y⊢;have bh:=aFb;have bi:=aIn;obtain ⟨c,G,aq,aS,aT,aU,b2,aY,aP⟩:=hqq9 g M au ac ad ae j q y;clear g M au ac ad ae j q y aa av V;by_cases al:x= [108,101,110]
 · subst al;rw [zBx rfl,zBw dC];have E:=dF (T2:=a) (r:=⟨0,(a.length:Int), [], []⟩) (kind:=4) (p:=0) (n:=0) (D:=[]) (A:=none) (m:=0) 0 rfl c.out ⟨Rd.nil _ _ _ _,fun g=>absurd g oM⟩ oM aq.out ar (by rw [G.out];exact a9);rw [G.out] at E;have a4:=lhd E;clear E;go_enter func25,ntmps25;go_wp2_with fail;refine a4.out.mono ?_;rintro b w1 ⟨i,d,aM,b6,X,K,rfl,R,P,_,_,_,_⟩;obtain ⟨I,H⟩:=hqq2 R P;clear R P;unfold kH;go_wp2_with fail;refine (dG w1 oM oM).mono ?_;rintro b F ⟨rfl,rfl⟩;go_wp2_with fail;go_ret2
   first
    | exact ⟨X,K,rfl,I.out,H.out⟩
    | exact ⟨rfl,X,⟨K,I.out⟩,H.out⟩
 rw [zBw al];have bn:(x== [108,101,110])=false:=by rw [zCb];exact al
 by_cases am:x= [108,97,115,116]
 · subst am;rw [zBx rfl,zBw dC];go_enter func25,ntmps25;go_wp2_with fail;refine aS.out.mono ?_;rintro b w1 ⟨i,d,rfl,Q,S⟩;have az:Rd w1 w1.heap.size 1 i (J+1) ((jX o).map zv):=(by have:=Q.rd;unfold jX;rw [zCh];exact this);have aH:=xS d az oM (fun l U=>by
    obtain ⟨aj,b8,rfl⟩:=zAy.1 U;have:=aU.out aj b8;omega)
   obtain ⟨b4,v⟩:=hqq2 aH S;clear aH S Q az;go_wp2_with fail;refine b4.out.mono ?_;rintro b F ⟨rfl,rfl⟩;go_wp2_with fail;go_ret2
   first
    | exact ⟨own,e,rfl,c.out.vb v.out.1,LFS.of_vb f own v.out⟩
    | exact ⟨rfl,own,⟨e,c.out.vb v.out.1⟩,LFS.of_vb f own v.out⟩
 rw [zBw am];have bo:(x== [108,97,115,116])=false:=by rw [zCb];exact am
 by_cases an:x= [112,97,105,114,115]
 · subst an;rw [zBx rfl,zBw dC];obtain ⟨aI,ay,bj,aC⟩:=fC c.out;rw [ay];have aX:=lhd aC;clear aC ay;go_enter func25,ntmps25;go_wp2_with fail;refine aX.out.mono ?_;rintro b w1 ⟨i,d,rfl,N⟩;have u:=lhd N;clear N;go_wp2_with fail;refine (dG w1 oM oM).mono ?_;rintro b F ⟨rfl,rfl⟩;go_wp2_with fail;go_ret2
   first
    | exact ⟨own,e,rfl,c.out.vb (Vis.of_below u.out),LFS.of_below t f own u.out⟩
    | exact ⟨rfl,own,⟨e,c.out.vb (Vis.of_below u.out)⟩,LFS.of_below t f own u.out⟩
 rw [zBw an];have bp:(x== [112,97,105,114,115])=false:=by rw [zCb];exact an
 by_cases ao:x= [110,111,100,101,115]
 · subst ao;rw [zBx rfl,zBw dC];have af:=aHl (L:=o) (by rw [aT.out];omega);have ax:=aAH o;have O:=aAI (L:=o);have q:=aY.out;unfold vA at q;obtain ⟨b9,aw⟩:=eqx (shA o 9);rw [aw] at af ax O q⊢;obtain ⟨aJ,aA⟩:=eqx b9.length;rw [aA] at ax O q;have bt:=aJ0;obtain ⟨b0,aW,aQ⟩:=hqq3 q af O;rw [O];clear q af aw aA O;go_enter func25,ntmps25;go_wp2_with fail;refine b0.out.mono ?_;rintro b w1 ⟨i,d,rfl,aE,N⟩;have ai:=aHH d aE nL oM aW.out;rw [aQ.out] at ai;obtain ⟨b1,u⟩:=hqq2 ai N;clear ai aE N;go_wp2_with fail;refine b1.out.mono ?_;rintro b F ⟨⟨bf,be,bd,rfl⟩,C⟩;have Z:=lhd (u.out.trans (C.mono u.out.size));clear C;go_wp2_with fail;refine (dG F oM oM).mono ?_;rintro b ak ⟨rfl,rfl⟩;go_wp2_with fail;go_ret2
   first
    | exact ⟨own,e,rfl,c.out.vb (Vis.of_below Z.out),LFS.of_below t f own Z.out⟩
    | exact ⟨rfl,own,⟨e,c.out.vb (Vis.of_below Z.out)⟩,LFS.of_below t f own Z.out⟩
 rw [zBw ao];have bq:(x== [110,111,100,101,115])=false:=by rw [zCb];exact ao
 by_cases ap:x= [115,97,118,101]
 · subst ap;rw [zBx rfl,zBw dC];have j:=b2.out;unfold eY at j;obtain ⟨s,aB⟩:=eqx a6.length;have y:=aP.out;rw [aB] at j y⊢;have b7:=rM a6;obtain ⟨l,U⟩:=eqx (lD a6);rw [U] at b7⊢;rw [show (some [(s:Int),(l:Int)]).map aZ=some (aZ [(s:Int)]++32::aZ [(l:Int)]) from congrArg some ((aDp _ _).trans (by simp))];have ba:=kM [(s:Int)] (by simp) (fun bc T=>by simp at T;subst T;omega);have bb:=kM [(l:Int)] (by simp) (fun bc T=>by simp at T;subst T;omega);obtain ⟨a2,ag⟩:=eqx (aZ [(s:Int)]);obtain ⟨aL,ah⟩:=eqx (aZ [(l:Int)]);rw [ag] at ba⊢;rw [ah] at bb⊢;have a7:=fun k=>dG (z:=(s:Int)) k oM oM;have a8:=fun k=>dG (z:=(l:Int)) k oM oM;rw [ag] at a7;rw [ah] at a8;obtain ⟨aN,aO,b5,b3⟩:=hqq4 a7 a8 U j;have bl:=fP a2 [32];have bm:=fP (a2++ [32]) aL;have bg:IntKind.i64.wrap (l:Int)=(l:Int):=(by rw [IntKind.wrap_i64];omega);have bv:=fO a2 [32] oM (by simp);have bw:=fO (a2++ [32]) aL (by rw [zAi,List.length_singleton];omega) oM;have aV:=lhd y;clear j aB U a7 a8 ag ah y;go_enter func25,ntmps25;go_wp2_with fail;refine b3.out.mono ?_;rintro b w1 ⟨i,d,rfl,Q,S⟩;have a1:Below w1.heap.size w1 (w1.alloc (.cells #[.slice i s d] 34)):=bR.alloc nL _;have ab:=lL (w:=w1.alloc (.cells #[.slice i s d] 34)) 1 ((Q.rd.below a1).mono a1.size) (zAk aV.out dC) (qK (Bk.new w1 34 #[.slice i s d]) rfl:Rd _ _ 1 (some ⟨w1.heap.size,0,none⟩) 1 [.slice i s d]);rw [b5.out] at ab;obtain ⟨aR,v,Y⟩:=hqq3 ab S a1;clear ab S a1 Q;go_wp2_with fail;refine (aN.out w1).mono ?_;rintro b F ⟨rfl,rfl⟩;go_wp2_with fail;refine aR.out.mono ?_;rintro b ak ⟨rfl,C⟩;have aG:VB t k ak:=⟨v.out.1.below (Y.out.trans (C.mono Y.out.size)),v.out.2.trans (Keep.of_below (Y.out.trans (C.mono Y.out.size)))⟩;have a0:=lhd aG;clear aG C;go_wp2_with fail;refine (aO.out ak).mono ?_;rintro b bu ⟨rfl,rfl⟩;go_wp2_with fail;go_ret2
   first
    | exact ⟨own,e,rfl,c.out.vb a0.out.1,LFS.of_vb f own a0.out⟩
    | exact ⟨rfl,own,⟨e,c.out.vb a0.out.1⟩,LFS.of_vb f own a0.out⟩
 rw [zBw ap];have br:(x== [115,97,118,101])=false:=by rw [zCb];exact ap
 by_cases a3:x= [114,101,108,111,97,100]
 · subst a3;rw [zBx rfl,zBx rfl];have E:=dF (T2:=a) (r:=⟨0,0, [], []⟩) (kind:=8) (p:=0) (n:=0) (D:=[]) (A:=none) (m:=0) 0 rfl c.out ⟨Rd.nil _ _ _ _,fun g=>absurd g oM⟩ oM aq.out ar (by rw [G.out];exact a9);have a4:=lhd E;clear E;go_enter func25,ntmps25;go_wp2_with fail;refine a4.out.mono ?_;rintro b w1 ⟨i,d,aM,b6,X,K,rfl,R,P,_,_,_,_⟩;obtain ⟨I,H⟩:=hqq2 R P;clear R P;unfold kH;go_wp2_with fail;refine (dG w1 oM oM).mono ?_;rintro b F ⟨rfl,rfl⟩;go_wp2_with fail;go_ret2
   first
    | exact ⟨X,K,rfl,by rw [<-G.out];exact I.out,H.out⟩
    | exact ⟨rfl,X,⟨K,by rw [<-G.out];exact I.out⟩,H.out⟩
 rw [zBw a3,zBw a3];have bs:(x== [114,101,108,111,97,100])=false:=by rw [zCb];exact a3
 go_enter func25,ntmps25;go_wp2_with fail;go_ret2
 first
  | exact ⟨own,e,rfl,c.out,LFS.refl _ _ _ _⟩
  | exact ⟨rfl,own,⟨e,c.out⟩,LFS.refl _ _ _ _⟩
def aGv {ρ:List UInt8->List Nat} {f e:Nat} {g:Txt} {c:List UInt8} {d:List Int} (b:aloneS ρ f e g c=some d):(cV c).2.2=false:=by
 unfold aloneS at b;split at b
 · rename_i a
   rw [a];rfl
 split at b
 · rename_i a
   rw [a];rfl
 split at b
 · rename_i a
   rw [a];rfl
 split at b
 · rename_i a
   rw [a];rfl
 split at b
 · rename_i a
   rw [a];rfl
 split at b
 · rename_i a
   rw [a];rfl
 · cases b
def wZ {ρ:List UInt8->List Nat} {c f:Nat} {b:Txt} {d:List UInt8} (a:aloneS ρ c f b d=none):jS c b d=b:=by
 unfold jS;split
 · rename_i e
   subst e;unfold aloneS at a;rw [zBw dC,zBw dC,zBw dC,zBw dC,zBw dC,zBx rfl] at a;cases a
 rfl
def aDz {a:Told} (c:a.code=0):jQ a= [48,32]++(if a.data= [] then [110,111,110,101] else gT a.data):=by
 have b:aZ [0]= [48]:=by kernel_rfl
 unfold jQ;rw [c,zBw dC,b];split <;> rfl
def zU {a:List UInt8} (b:jA a=none):yH a=-1:=by unfold yH;rw [b];rfl
def zT {a:List UInt8} {b:Nat} (c:jA a=some b):yH a=(b:Int):=by unfold yH;rw [c];rfl
def rW {ρ:List UInt8->List Nat} {l:Nat} {own:Nat->Nat} {n bm g a1:Nat} {b x:List UInt8} {a4:Nat->Prop} {H:World} (aC:IsSuf (aF b) (ρ b)) (E:StAt H l own n bm g a1 b a4) (bE:x.length<=100000) (bB:g<=127) (ag:TabW H) (F:7 < l):
 Calls prog 14 #[n,.string ⟨x.toArray⟩] H (lK H l own n g a1 (lineS ρ a1 g (b,a4) x).1 (lineS ρ a1 g (b,a4) x).2):=by
 have P:=aC1 (x:=x) aC E ag F;have bp:=E.size;have av:=E.len;cases V:aloneS ρ a1 g (b,a4) x with
 | some bq=>
   have a:lineS ρ a1 g (b,a4) x=(jS a1 (b,a4) x,aZ bq):=(by unfold lineS;rw [zBx (aGv V),V];rfl);rw [a];rw [V] at P;have U:=lhd P;clear P V a E ag aC;go_enter func14,ntmps14;go_wp2_with fail;refine U.out.mono ?_;rintro j w1 ⟨r,D,rfl,ac,ad⟩;obtain ⟨z,B⟩:=hqq2 ac ad;clear ac ad;go_wp2_with fail;go_ret;exact ⟨r,D,rfl,z.out,B.out⟩
 | none=>
   rw [V,wZ V] at P;obtain ⟨bx,a⟩:=eqx (lineS ρ a1 g (b,a4) x);rw [a];unfold lineS at a;rw [V,wZ V] at a;dsimp only at a;have b1:=rK x;have hcut:=fun H=>aAp x H oM;obtain ⟨L,aA⟩:=eqx ((cV x).1);obtain ⟨v,ay⟩:=eqx ((cV x).2.1);obtain ⟨br,b6⟩:=eqx ((cV x).2.2);rw [aA,ay,b6] at hcut a;rw [aA,ay] at b1;have bD:v.length<=100000:=oM;have bN:=aFb;have bO:=aIn;have bP:=aJ1;have al:=E.n127;obtain ⟨aO,U,aK,d⟩:=hqq4 hcut P ag a;clear P hcut b1 E ag aC aA ay b6 a V;go_enter func14,ntmps14;go_wp2_with fail;refine U.out.mono ?_;rintro j w1 ⟨k,ab,rfl,ac,ad⟩;have aT:=ad.below bp;obtain ⟨z,B,a9⟩:=hqq3 ac ad (aK.out.below aT F);have ae:=ac.size;clear ac ad aT U aK;go_wp2_with fail;refine (aO.out w1).mono ?_;rintro j bu ⟨rfl,aU⟩;have T:=lhd aU;clear aU aO;cases br with
   | false=>
     have a:=d.out;rw [zBx rfl] at a;have S:=lhd a;clear a d;go_wp2_with fail;go_ret;rw [<-S.out];exact ⟨k,ab,rfl,z.out.vb (Vis.of_below T.out),B.out.trans (LFS.of_below l n k T.out)⟩
   | true=>
     have a:=d.out;rw [zBw dC] at a;clear d;by_cases aj:L= [99,111,117,110,116]
     · subst aj;rw [zBx rfl] at a;obtain ⟨a8,ai⟩:∃a8:Int,((dD b v).length:Int)=a8:=⟨_,rfl⟩;have i:0<=a8/\a8<=4611686018427387904:=(by have:=lC b v;omega);have f:=aFa b v (g:Int) 0 0;rw [ai] at f a;have d:=lhd a;have u:=z.out.vb (Vis.of_below T.out);obtain ⟨aJ,a5,ak,aB,ao,s,Q⟩:=kA u v;have R:=u.vb (Vis.of_below s);have t:=T.out.trans (s.mono T.out.size);have o:=dF a5 f R Q oM (a9.out.below (t.mono ae) F) F al;obtain ⟨M,a3⟩:=hqq2 o t;clear u R o s t Q a ai;go_wp2_with fail;refine M.out.mono ?_;rintro j y ⟨a2,X,W,Y,r,D,rfl,q,p,G,K,_,_⟩;obtain ⟨I,J⟩:=hqq2 (B.out.trans ((LFS.of_below l n k a3.out).trans p)) q;clear q p G K;unfold kH;go_wp2_with fail;refine (dG y i.1 i.2).mono ?_;rintro j af ⟨rfl,rfl⟩;go_wp2_with fail;go_ret;rw [<-d.out];exact ⟨r,D,rfl,J.out,I.out⟩
     rw [zBw aj] at a;have bH:(L== [99,111,117,110,116])=false:=(by rw [zCb];exact aj);by_cases aD:L= [108,111,99,97,116,101]
     · subst aD;rw [zBx rfl] at a;have bn:=lC b v;have aw:=pQ b v;have f:=aAd b v (g:Int) 0 0;obtain ⟨bf,b9⟩:=eqx (dD b v);rw [b9] at f bn aw a;obtain ⟨bs,ax⟩:=eqx bf.length;have d:=lhd a;have u:=z.out.vb (Vis.of_below T.out);obtain ⟨aJ,a5,ak,aB,ao,s,Q⟩:=kA u v;have R:=u.vb (Vis.of_below s);have t:=T.out.trans (s.mono T.out.size);have o:=dF a5 f R Q oM (a9.out.below (t.mono ae) F) F al;obtain ⟨M,a3,bi⟩:=hqq3 o t aw;clear u R o s t Q a b9 aw;go_wp2_with fail;refine M.out.mono ?_;rintro j y ⟨a2,X,W,Y,r,D,rfl,q,p,G,K,_,_⟩;obtain ⟨I,J⟩:=hqq2 (B.out.trans ((LFS.of_below l n k a3.out).trans p)) q;have ba:Rd y y.heap.size 1 W bs ((jX bf).map zv):=(by have:=K.rd;unfold jX;rw [zCh];rw [<-ax];exact this);have bd:=xS Y ba oM (fun a8 ai=>by
        obtain ⟨bt,bo,rfl⟩:=zAy.1 ai;have:=bi.out bt bo;omega)
       have bl:=lhd bd;clear q p G K bd ba;unfold kH;rw [ax];clear ax;go_wp2_with fail;refine bl.out.mono ?_;rintro j af ⟨rfl,rfl⟩;go_wp2_with fail;go_ret;rw [<-d.out];exact ⟨r,D,rfl,J.out,I.out⟩
     rw [zBw aD] at a;have bI:(L== [108,111,99,97,116,101])=false:=(by rw [zCb];exact aD);have b2:=rK v;have an:=fun H=>aAp v H oM;obtain ⟨first,ar⟩:=eqx ((cV v).1);obtain ⟨O,am⟩:=eqx ((cV v).2.1);obtain ⟨bg,bc⟩:=eqx ((cV v).2.2);rw [ar,am,bc] at an a;rw [ar,am] at b2;have b7:=fun H=>aAo first H oM
     have b8:=fun H=>aAo O H oM;have bA:O.length<=100000:=oM;obtain ⟨aP,aQ,aR,d⟩:=hqq4 an b7 b8 a;clear an ar am bc b2 b7 b8 a;go_wp2_with fail;refine (aP.out bu).mono ?_;rintro j bv ⟨rfl,aV⟩;have aL:=lhd (T.out.trans (aV.mono T.out.size));clear aV aP;go_wp2_with fail;refine (aQ.out bv).mono ?_;rintro j bw ⟨rfl,aW⟩;have aM:=lhd (aL.out.trans (aW.mono aL.out.size));clear aW aQ;go_wp2_with fail;refine (aR.out bw).mono ?_;rintro j bQ ⟨rfl,aX⟩;have e:=lhd (aM.out.trans (aX.mono aM.out.size));clear aX aR;cases a6:jA first with
     | none=>
       have a:=d.out;rw [a6] at a;dsimp only at a;rw [zU a6];have S:=lhd a;clear a d a6;cases bg with
       | false=>
         go_wp2_with fail;go_ret;rw [<-S.out];exact ⟨k,ab,rfl,z.out.vb (Vis.of_below e.out),B.out.trans (LFS.of_below l n k e.out)⟩
       | true=>
         go_wp2_with fail;go_ret;rw [<-S.out];exact ⟨k,ab,rfl,z.out.vb (Vis.of_below e.out),B.out.trans (LFS.of_below l n k e.out)⟩
     | some C=>
       have bz:=(oC a6).2.2.2.2;have a:=d.out;rw [a6] at a;dsimp only at a;rw [zT a6];clear d a6;cases bg with
       | false=>
         rw [zBx rfl] at a;have S:=lhd a;clear a;go_wp2_with fail;go_ret;rw [<-S.out];exact ⟨k,ab,rfl,z.out.vb (Vis.of_below e.out),B.out.trans (LFS.of_below l n k e.out)⟩
       | true=>
         rw [zBw dC] at a;unfold aAc aBV at a;dsimp only at a;have bF:¬(C:Int) < 0:=oM;by_cases aE:L= [105,110,115,101,114,116]
         · subst aE;rw [zBx rfl] at a;have Z:=iV O 1 (C:Int) 0 av;have i:=fV b O (g:Int) 1 (C:Int) 0;obtain ⟨N,c,f⟩:∃N c,doM b (g:Int) 1 (C:Int) 0 O=(N,c):=⟨_,_,rfl⟩;rw [f] at Z i a;dsimp only at Z i a;have d:=lhd a;have u:=z.out.vb (Vis.of_below e.out);obtain ⟨aJ,a5,ak,aB,ao,s,Q⟩:=kA u O;have R:=u.vb (Vis.of_below s);have t:=e.out.trans (s.mono e.out.size);have o:=dF a5 f R Q oM (a9.out.below (t.mono ae) F) F oM;obtain ⟨M,a3⟩:=hqq2 o t;clear u R o s t Q a f;go_wp2_with fail;refine M.out.mono ?_;rintro j y ⟨a2,X,W,Y,r,D,rfl,q,p,G,K,_,_⟩;obtain ⟨I,J⟩:=hqq2 (B.out.trans ((LFS.of_below l n k a3.out).trans p)) q;clear q p G K;unfold kH;go_wp2_with fail;refine (dG y i.1 oM).mono ?_;rintro j af ⟨rfl,rfl⟩;go_wp2_with fail;go_ret;rw [<-d.out];exact ⟨r,D,rfl,J.out,I.out⟩
         rw [zBw aE] at a;have bJ:(L== [105,110,115,101,114,116])=false:=(by rw [zCb];exact aE);by_cases aG:L= [115,101,116]
         · subst aG;rw [zBx rfl] at a;have Z:=iV O 3 (C:Int) 0 av;have i:=fV b O (g:Int) 3 (C:Int) 0;obtain ⟨N,c,f⟩:∃N c,doM b (g:Int) 3 (C:Int) 0 O=(N,c):=⟨_,_,rfl⟩;rw [f] at Z i a;dsimp only at Z i a;have d:=lhd a;have u:=z.out.vb (Vis.of_below e.out);obtain ⟨aJ,a5,ak,aB,ao,s,Q⟩:=kA u O;have R:=u.vb (Vis.of_below s);have t:=e.out.trans (s.mono e.out.size);have o:=dF a5 f R Q oM (a9.out.below (t.mono ae) F) F oM;obtain ⟨M,a3⟩:=hqq2 o t;clear u R o s t Q a f;go_wp2_with fail;refine M.out.mono ?_;rintro j y ⟨a2,X,W,Y,r,D,rfl,q,p,G,K,_,_⟩;obtain ⟨I,J⟩:=hqq2 (B.out.trans ((LFS.of_below l n k a3.out).trans p)) q;clear q p G K;unfold kH;go_wp2_with fail;refine (dG y i.1 oM).mono ?_;rintro j af ⟨rfl,rfl⟩;go_wp2_with fail;go_ret;rw [<-d.out];exact ⟨r,D,rfl,J.out,I.out⟩
         rw [zBw aG] at a;have bK:(L== [115,101,116])=false:=(by rw [zCb];exact aG);cases a7:jA O with
         | none=>
           rw [a7] at a;dsimp only at a;rw [zU a7];have S:=lhd a;clear a a7;go_wp2_with fail;go_ret;rw [<-S.out];exact ⟨k,ab,rfl,z.out.vb (Vis.of_below e.out),B.out.trans (LFS.of_below l n k e.out)⟩
         | some a0=>
           have bC:=(oC a7).2.2.2.2;rw [a7] at a;dsimp only at a;rw [zT a7];have bG:¬(a0:Int) < 0:=oM;clear a7;by_cases aH:L= [100,101,108,101,116,101]
           · subst aH;rw [zBx rfl] at a;have Z:=iV [] 2 (C:Int) (a0:Int) av;have i:=fV b [] (g:Int) 2 (C:Int) (a0:Int);obtain ⟨N,c,f⟩:∃N c,doM b (g:Int) 2 (C:Int) (a0:Int) []=(N,c):=⟨_,_,rfl⟩;rw [f] at Z i a;dsimp only at Z i a;have d:=lhd a;have o:=dF (A:=none) (m:=0) 0 f (z.out.vb (Vis.of_below e.out)) ⟨Rd.nil _ _ _ _,fun E=>absurd E oM⟩ oM (a9.out.below (e.out.mono ae) F) F oM;have M:=lhd o;clear o a f;go_wp2_with fail;refine M.out.mono ?_;rintro j y ⟨a2,X,W,Y,r,D,rfl,q,p,G,K,_,_⟩;obtain ⟨I,J⟩:=hqq2 (B.out.trans ((LFS.of_below l n k e.out).trans p)) q;clear q p G K;unfold kH;go_wp2_with fail;refine (dG y i.1 oM).mono ?_;rintro j af ⟨rfl,rfl⟩;go_wp2_with fail;go_ret;rw [<-d.out];exact ⟨r,D,rfl,J.out,I.out⟩
           rw [zBw aH] at a;have bL:(L== [100,101,108,101,116,101])=false:=(by rw [zCb];exact aH);by_cases aI:L= [116,97,107,101]
           · subst aI;rw [zBx rfl] at a;have i:=fV b [] (g:Int) 5 (C:Int) (a0:Int);have ap:=aAe b (g:Int) (C:Int) (a0:Int);have aq:=aCy b (g:Int) (C:Int) (a0:Int);obtain ⟨N,c,f⟩:∃N c,doM b (g:Int) 5 (C:Int) (a0:Int) []=(N,c):=⟨_,_,rfl⟩;rw [f] at i a ap aq;dsimp only at i a ap aq;subst aq;have d:=lhd a;have o:=dF (A:=none) (m:=0) 0 f (z.out.vb (Vis.of_below e.out)) ⟨Rd.nil _ _ _ _,fun E=>absurd E oM⟩ oM (a9.out.below (e.out.mono ae) F) F al;have M:=lhd o;clear o a f;go_wp2_with fail;refine M.out.mono ?_;rintro j y ⟨a2,X,W,Y,r,D,rfl,q,p,G,K,_,_⟩;obtain ⟨I,J⟩:=hqq2 (B.out.trans ((LFS.of_below l n k e.out).trans p)) q;obtain ⟨aa,ah⟩:=eqx c.code;obtain ⟨aS,b3⟩:=eqx c.data.length;rw [b3] at G ap;rw [ah] at i;have P:Below y.heap.size y (y.alloc (.cells #[.int .i64 aa,.int .i64 c.num,.slice a2 aS X,.slice W c.places.length Y] 54)):=bR.alloc nL _;have au:=aGJ (w:=y.alloc (.cells #[.int .i64 aa,.int .i64 c.num,.slice a2 aS X,.slice W c.places.length Y] 54)) X ((G.rd.below P).mono P.size) oM;have az:aa=0->jQ c= [48,32]++(if c.data= [] then [110,111,110,101] else gT c.data):=fun E=>aDz (ah.trans E);have bb:¬aa=0->jQ c=aZ [aa]:=fun E=>by unfold jQ;rw [ah,zBx E]
             have b4:(if c.data= [] then [110,111,110,101] else gT c.data).length<=8388608:=by
              split
              · simp
              rw [lB];omega
             obtain ⟨be,b5⟩:∃a8,(if c.data= [] then [110,111,110,101] else gT c.data)=a8:=⟨_,rfl⟩;rw [b5] at au az b4;obtain ⟨U,bh,bk,bj⟩:=hqq4 P au az bb;unfold kH;rw [ah,b3];clear q p G K P au az bb b5;by_cases b0:aa=0
             · subst b0;have aj:=fP [48,32] be;have bS:=fO [48,32] be (by simp) (zAk b4 dC);go_wp2_with fail;refine bh.out.mono ?_;rintro j af ⟨rfl,aY⟩;have aN:=lhd (U.out.trans (aY.mono U.out.size));clear aY;go_wp2_with fail;go_ret;rw [<-d.out,bk.out (by first | rfl | trivial)];exact ⟨r,D,rfl,J.out.vb (Vis.of_below aN.out),I.out.trans (LFS.of_below l n r aN.out)⟩
             · go_wp2_with fail;refine (dG _ i.1 oM).mono ?_;rintro j af ⟨rfl,rfl⟩;go_wp2_with fail;go_ret;rw [<-d.out,bj.out b0];exact ⟨r,D,rfl,J.out.vb (Vis.of_below U.out),I.out.trans (LFS.of_below l n r U.out)⟩
           · rw [zBw aI] at a;have bM:(L== [116,97,107,101])=false:=(by rw [zCb];exact aI);have S:=lhd a;clear a;go_wp2_with fail;go_ret;rw [<-S.out];exact ⟨k,ab,rfl,z.out.vb (Vis.of_below e.out),B.out.trans (LFS.of_below l n k e.out)⟩
end
end Go.Proofs.YtcoooelofcejbaaGreatDoor
