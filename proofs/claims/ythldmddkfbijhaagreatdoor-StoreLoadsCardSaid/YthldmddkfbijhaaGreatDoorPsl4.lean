/- Lemmas of the walk. Conditions: each its own. -/
import Derived.Test.YthldmddkfbijhaaGreatDoorPsl2
import Derived.Test.YthldmddkfbijhaaGreatDoorProg
import Derived.Test.YthldmddkfbijhaaGreatDoorShl
import Derived.Test.YthldmddkfbijhaaGreatDoorShs
set_option linter.all false
set_option maxRecDepth 100000
set_option maxHeartbeats 4000000
open Go.Proofs.Tryz
namespace Go.Proofs.YthldmddkfbijhaaGreatDoor
section
open Go.ChangeShapes Go.WideShapes Go.ChangeAt Go.RowKit
def aA5:laidOutB prog=true:=by kernel_rfl
def own:ownKnob prog.godebug=none:=by kernel_rfl
def aI6 {k:IntKind} {w:World} {d:Addr} {c f:Nat} {b:List Int} (u:c<=f) (v:b.length=f) (n:0 < c->d.block < w.heap.size)
 (g:∀e,e < b.length->w.cell? (d.add e)=some (.int k (b.getD e 0))):Rd w w.heap.size 1 (some d) c ((b.take c).map (Value.int k)):=by
 refine ⟨by simp;omega,fun p=>?_⟩;have o:=g 0 oM;obtain ⟨m,r,s⟩:=d;have q:s=none:=by simpa [Addr.add] using World.cell?_spot o
 subst q;refine ⟨m,r,rfl,n p,fun j x a=>?_⟩;simp only [zAf,zBs] at a;split at a
 · rename_i t
   have:=g j oM;rw [lY] at this;rw [this];have i:j < b.length:=oM;rw [zAa i] at a;simp only [Option.map_some,Option.some.injEq] at a;rw [<-a,zAb,zAa i];rfl
 · simp at a
def aIv (a:List Int) (c:∀b∈a,(Lit.int .u8 b).wf=true):∃l:List UInt8,a.map (Value.int .u8)=l.map bv:=by
 induction a with
 | nil=>exact ⟨[],rfl⟩
 | cons d a g=>
   obtain ⟨l,e⟩:=g fun b f=>c b (List.mem_cons_of_mem _ f);have i:=bounds_u8 (c d (List.mem_cons_self ..));refine ⟨UInt8.ofNat d.toNat::l,?_⟩;simp only [List.map_cons,e];congr 1;unfold bv;congr 1;simp [UInt8.toNat_ofNat'];omega
def aIF {j:Type} {r:TypeId×Value->j} {q f:TypeId} {g:IntKind} {w:World} {k:Option Addr} {e c:Nat} {d:DataW j} {p:List MemPlace}
 (y:prog.underlying q=some (.slice f)) (u:prog.underlying f=some (.int g)) (t:prog.cellsOf f=1)
 (s:DataW.Trod r prog w 0 (fun _=>true) true q (.slice k e c) d p):
 ∃b:List Int,Rd w w.heap.size 1 k e (b.map (Value.int g))/\(∀i∈b,(Lit.int g i).wf=true)/\e<=c/\c<=maxLen:=by
 obtain ⟨E,v⟩:=s;rcases open_ints y u t v with ⟨a,_⟩|⟨C,l,D,b,a,_,n,x,A,F,m,z⟩;simp [Value.cells] at a;obtain ⟨rfl,rfl,rfl⟩:=a;exact ⟨[],Rd.nil _ _ _ _,by simp,zAs _,zAp _⟩;simp [Value.cells] at a;obtain ⟨rfl,rfl,rfl⟩:=a;have B:b.length=c:=(by simpa using A);refine ⟨b.take e,aI6 n B (fun o=>?_) m,fun i o=>z i (List.mem_of_mem_take o),n,x⟩;have:=World.block_lt_of_cell? w (C.add 0) (m 0 oM);simpa [Addr.add] using this
end
section
open Go.RowKit
def aHk {w:World} {d c:Nat} {a:Option Addr} {l:List UInt8} (e:Rd w d 1 a c (l.map bv)):∀b,(convert 26 9 (.slice a c b)).run prog w=.ok (.string ⟨l.toArray⟩) w:=
 fun b=>lK (P:=prog) 26 9 5 underlying26 underlying5 underlying9 e
section
variable (l : List UInt8) (w : World)
end
def aE5 (w:World):Calls prog 217 #[.slice none 0 0,.int .i64 0,.int .i64 0] w fun a b=>a=.returned (.tuple #[])/\b=w:=by
 go_enter func217,ntmps217;go_wp2_with fail;go_loopw [6] (fun c wr=>c=.int .i64 1/\wr=w) (fun _ _=>0)
 case atStart=>exact ⟨rfl,rfl⟩
 case round=>obtain ⟨rfl,rfl⟩:=hrel;go_wp2_with fail;go_end0;exact ⟨rfl,rfl⟩
def aE3 (l:Int) (w:World):Calls prog 184 #[.slice none 0 0,.int .i64 0,.int .i64 0,.int .i64 l] w fun a b=>a=.returned (.tuple #[])/\b=w:=by
 go_enter func184,ntmps184;go_wp2_with fail;go_loopw [1,2] (fun c d wr=>c=.int .i64 0/\d=.int .i64 0/\wr=w) (fun _ _ _=>0)
 case atStart=>exact ⟨rfl,rfl,rfl⟩
 case round=>obtain ⟨rfl,rfl,rfl⟩:=hrel;go_wp2_with fail;refine (aE5 wr).mono ?_;rintro a w1 ⟨rfl,rfl⟩;go_wp2_with fail;exact bodyPost_ret (results_none rfl _ _ _) rfl ⟨rfl,rfl⟩
def aDb (w:World):Calls prog 135 #[.slice none 0 0] w fun a b=>a=.returned (.tuple #[])/\b=w:=by
 have d:Calls prog 185 #[.int .u64 0] w fun a b=>a=.returned (.int .i64 (Lib.bitLen (0:Int).toNat))/\b=w:=calls_of_every_depth fun c=>AnyS.bits_LenIn shLen c 0 w oM oM;go_enter func135,ntmps135;go_wp2_with fail;refine d.mono ?_;rintro a w1 ⟨rfl,rfl⟩;go_wp2_with fail;refine (aE3 _ w1).mono ?_;rintro a e ⟨rfl,rfl⟩;go_wp2_with fail;go_end0;exact ⟨rfl,rfl⟩
def aDa (s:Nat) (y:Value) (a:Nat) (b:List Int) (w:World) (u:w.ownsRow s 3 1 y a (b.map (Value.int .i64))) (C:b.length=a) (K:a<=1000):
 ∃f i,y=.slice f a i/\Calls prog 135 #[.slice f a i] w fun c j=>c=.returned (.tuple #[])/\j.ownsRow s 3 1 (.slice f a i) a ((b.mergeSort fun q r=>decide (q<=r)).map (Value.int .i64))/\Keep (fun k=>(Value.slice f a i).ownBlock=some k) w j:=by
 subst C;rcases u.2 with ⟨m,v⟩|⟨d,t,J,m,o,p,D,B,F,G⟩;subst m;refine ⟨none,0,by rw [v],?_⟩;have H:b= []:=zBk v;subst H;refine (aDb w).mono ?_;rintro c j ⟨rfl,rfl⟩;exact ⟨rfl,by simpa using u,Keep.refl _ _⟩
 · subst m;refine ⟨_,t,rfl,?_⟩;have A:d < w.heap.size:=(zAh.1 p).1;have z:Sort.Holds (Value.int .i64) w d 0 b.toArray:=holds_of_blockI p (by rw [<-G];simp);refine (Any.slices_Sort_int shSrt d 0 t b w z A oM).mono ?_;rintro c j ⟨rfl,I,x,rfl⟩;have e:=grownBy_sortedI (w:=w) (g:=d) (n:=I) (os:=x) (b.mergeSort fun q r=>decide (q<=r)).toArray;refine ⟨rfl,ownsRow_sortedI (by simp) o p D B F,⟨e.os,e.tape,e.output,e.size,fun k o E=>e.block k o (fun c=>E c.symm)⟩⟩
section
variable {w W : World}
def lL {a:Nat} {g i j k b c d e:Value} (f:Bk W a 50 #[g,i,j,k]):
 Bk ((((W.setCell a b).setCell ⟨a,1,none⟩ c).setCell ⟨a,2,none⟩ d).setCell ⟨a,3,none⟩ e) a 50 #[b,c,d,e]:=by
 have:=(((f.set 0 b).set 1 c).set 2 d).set 3 e;simpa using this
def aCF {a:Nat} {v0 v1 v2 v3:Value} (b:w.heap.size<=a):Below w.heap.size w W->Below w.heap.size w ((((W.setCell a v0).setCell ⟨a,1,none⟩ v1).setCell ⟨a,2,none⟩ v2).setCell ⟨a,3,none⟩ v3):=
 fun c=>(((c.setCell (p:=a) b v0).setCell (p:=⟨a,1,none⟩) b v1).setCell (p:=⟨a,2,none⟩) b v2).setCell (p:=⟨a,3,none⟩) b v3
def wQ {c:Nat->Prop} {a:Nat} {v0 v1 v2 v3:Value} (b:w.heap.size<=a):Keep c w W->Keep c w ((((W.setCell a v0).setCell ⟨a,1,none⟩ v1).setCell ⟨a,2,none⟩ v2).setCell ⟨a,3,none⟩ v3):=
 fun d=>(((d.setCell (p:=a) (.inr b) v0).setCell (p:=⟨a,1,none⟩) (.inr b) v1).setCell (p:=⟨a,2,none⟩) (.inr b) v2).setCell (p:=⟨a,3,none⟩) (.inr b) v3
def pT {s:Nat} {v0 v1 v2 v3:Value}:Keep (fun a=>a=s) W ((((W.setCell s v0).setCell ⟨s,1,none⟩ v1).setCell ⟨s,2,none⟩ v2).setCell ⟨s,3,none⟩ v3):=
 ((((Keep.refl (fun a=>a=s) W).setCell (p:=s) (.inl rfl) v0).setCell (p:=⟨s,1,none⟩) (.inl rfl) v1).setCell (p:=⟨s,2,none⟩) (.inl rfl) v2).setCell (p:=⟨s,3,none⟩) (.inl rfl) v3
end
def aGh (b:Nat) (d:TypeId) (j i:Nat) (k:List Value):Stb (qW b d j i k):=fun _ _ _ ⟨a,c,e,f⟩ g=>⟨a,c,e,f.below g⟩
def xA (b c:List UInt8) (o a p n:Int):(doM b o a p n c).2.places.length<=b.length+1:=by
 unfold doM;by_cases d:a=1
 · rw [zBx d];split
   · simp
   · split <;> simp
 rw [zBw d];by_cases e:a=2
 · rw [zBx e];split <;> simp
 rw [zBw e];by_cases i:a=5
 · rw [zBx i];split <;> simp
 rw [zBw i];by_cases f:a=3
 · rw [zBx f];split <;> simp
 rw [zBw f];by_cases g:a=4
 · rw [zBx g];simp
 rw [zBw g];by_cases j:a=6
 · rw [zBx j];simp
 rw [zBw j];by_cases k:a=7;rw [zBx k];have:=aAn b c (b.length+1 - c.length);simp only [fH];omega;rw [zBw k];by_cases m:a=8
 · rw [zBx m];simp
 rw [zBw m];simp
def mN (d f c:Int) (a:Option Addr) (e b:Nat):Array Value:=#[.int .i64 d,.int .i64 f,.int .i64 c,.slice a e b]
def mP (a:Int):Prop:=-9223372036854775808<=a/\a<=9223372036854775807
def rX (w:World) (e:Option Addr) (i f:Nat) (g:Ending) (j:World):Prop:=
 ∃b d a c,g=.returned (.agg (mN b d a e c f))/\c<=i/\mP b/\mP d/\mP a/\Below w.heap.size w j
def wI {w e:World} {k:Array Value} {g m d j:Nat} {c a b:Int} {i:Option Addr} (u:k.getD 6 undef=.pointer (some g)) (r:Bk e g 46 (mN c a b i d j)) (t:d<=m) (n:mP c) (o:mP a) (q:mP b) (s:Below w.heap.size w e):
 bodyPost prog f20 (rX w i m j) .ret ⟨k, []⟩ e:=
 bodyPost_ret (results_cell_row (P:=prog) (fn:=f20) (p:=6) (ty:=46) rfl k e g 46 (mN c a b i d j) (0,0) _ u r underlying46 rfl kR) rfl ⟨c,a,b,d,rfl,t,n,o,q,s⟩
def aDs (e f d:Int) (c:Option Addr) (a b o i:Nat) (w:World) (a4:o<=1000000) (a0:i<=1000000) (a3:a<=b) (Z:b<=maxLen) (s:0 < a->∃q r,c=some ⟨q,r,none⟩) (z:mP e) (A:mP f) (B:mP d):
 Calls prog 20 #[.agg #[.int .i64 e,.int .i64 f,.int .i64 d,.slice c a b],(o:Int),(i:Int)] w (rX w c a b):=by
 obtain ⟨t,n⟩:=eqx w.heap.size;obtain ⟨W,p⟩:=eqx ((w.alloc (.cells #[.int .i64 e,.int .i64 f,.int .i64 d,.slice c a b] 46)).alloc (.cells #[.int .i64 0,.int .i64 0,.int .i64 0,.slice none 0 0] 46));have E:Bk W t 46 (mN e f d c a b):=by rw [<-p,<-n];exact (Bk.new w _ _).alloc _
 have D:Bk W (t+1) 46 (mN 0 0 0 none 0 0):=by rw [<-p,<-n];have:=Bk.new (w.alloc (.cells #[.int .i64 e,.int .i64 f,.int .i64 d,.slice c a b] 46)) 46 (mN 0 0 0 none 0 0);rw [World.size_alloc] at this;exact this
 have C:Below t w W:=by rw [<-p,<-n];exact (bR.alloc nL _).alloc (by simp) _
 have a1:((i:Int).tmod 7)=((i % 7:Nat):Int):=rfl;obtain ⟨R,O,Q,P,N,F,G,H⟩:=hqq8 n C E D p z A B;clear C E D p z A B;go_enter func20,ntmps20;by_cases Y:i % 7=6
 · have I:(((i % 7:Nat):Int)==6)=true:=(by rw [zCq];omega);clear n;go_wp2_with fail;refine wI (g:=w.heap.size+1) rfl ?_ (zAs a) F.out G.out H.out ((bR.alloc nL _).alloc (by simp) _);have:=Bk.new (w.alloc (.cells #[.int .i64 e,.int .i64 f,.int .i64 d,.slice c a b] 46)) 46 (mN e f d c a b);rw [World.size_alloc] at this;exact this
 · have I:(((i % 7:Nat):Int)==6)=false:=(by rw [zCb];omega);obtain ⟨j,a5,K⟩:=uP e 8 oM;obtain ⟨k,a6,L⟩:=uP f ((o:Int)+1) oM;obtain ⟨m,a7,M⟩:=uP d 7 oM;have S:IntKind.i64.wrap (j:Int)=(j:Int):=(by rw [IntKind.wrap_i64];omega);have T:IntKind.i64.wrap (k:Int)=(k:Int):=(by rw [IntKind.wrap_i64];omega);have U:IntKind.i64.wrap (m:Int)=(m:Int):=(by rw [IntKind.wrap_i64];omega);have V:IntKind.u64.wrap ((o:Int)+1)=(o:Int)+1:=(by rw [IntKind.wrap_u64];omega);have X:¬(o:Int)+1=0:=oM;have b1:mP (wrap64 (1+(j:Int))):=(by unfold mP wrap64;omega);have b2:mP (k:Int):=(by unfold mP;omega);have y:mP (m:Int):=(by unfold mP;omega);obtain ⟨u,v,x⟩:=hqq3 b1 b2 y;clear n K L M b1 b2 y;by_cases a2:6 < a
   · have J:decide ((a:Int) > 6)=true:=zBz oM;obtain ⟨q,r,rfl⟩:=s oM;clear s;go_wp2_with fail;refine wI (g:=w.heap.size+1) rfl ?_ (show 6<=a by omega) u.out v.out x.out ((bR.alloc nL _).alloc (by simp) _);have:=Bk.new (w.alloc (.cells #[.int .i64 (wrap64 (1+(j:Int))),(k:Int),(m:Int),.slice (some ⟨q,r,none⟩) 6 b] 46)) 46 (mN (wrap64 (1+(j:Int))) k m (some ⟨q,r,none⟩) 6 b);rw [World.size_alloc] at this;exact this
   · have J:decide ((a:Int) > 6)=false:=zBy oM;clear s;go_wp2_with fail;refine wI (g:=w.heap.size+1) rfl ?_ (zAs a) u.out v.out x.out ((bR.alloc nL _).alloc (by simp) _);have:=Bk.new (w.alloc (.cells #[.int .i64 (wrap64 (1+(j:Int))),(k:Int),(m:Int),.slice c a b] 46)) 46 (mN (wrap64 (1+(j:Int))) k m c a b);rw [World.size_alloc] at this;exact this
end
section
open Go.ChangeShapes Go.WideShapes Go.ChangeAt Go.RowKit Go.Deep
structure Stp where
 kind:Int
 p:Int
 k:Int
 A:Option Addr
 n:Nat
 c:Nat
 D:List UInt8
def jY (a:Stp):List Value:= [iv a.kind,iv a.p,iv a.k,.slice a.A a.n a.c]
def fU (l:List Stp):List Value:=l.flatMap jY
def qC (l:List Stp):(fU l).length=l.length*4:=by
 induction l with
 | nil=>rfl
 | cons b l a=>
   simp only [fU,List.flatMap_cons] at a⊢;rw [zAi,a,zCg];simp only [jY,zCg,List.length_nil];omega
def dB (l:List Stp) (a c:Nat) (f:Stp) (b:l[a]?=some f) (j:c < 4):(fU l)[a*4+c]?=(jY f)[c]?:=by
 induction l generalizing a with
 | nil=>simp at b
 | cons d l i=>
   have e:fU (d::l)=jY d++fU l:=(by simp [fU]);have g:(jY d).length=4:=rfl;rcases a with _ | a
   · simp at b;subst b;rw [e,Nat.zero_mul,zBi,zAn oM]
   simp only [zCf] at b;rw [e,zAo oM,g,show (a+1)*4+c - 4=a*4+c by omega];exact i a b
def aIb (a:Int):Prop:=-9223372036854775808<=a/\a<=9223372036854775807
def Stp.good (w:World) (a:Stp):Prop:=aIb a.kind/\aIb a.p/\aIb a.k/\Rd w w.heap.size 1 a.A a.n (a.D.map bv)/\a.n<=a.c/\a.c<=maxLen
def aDW {C:Type} {I:TypeId×Value->C} {w:World} {J:Nat} {n:List Value} {G:DataW C×List MemPlace}
 (O:DataW.trod I prog w 0 (fun _=>true) true J 46 n=some G):∃F:Stp,n=jY F/\F.good w:=by
 have K:prog.cellsOf 46=4:=by kernel_rfl
 obtain ⟨c,M,e,g,⟨ac,v,T⟩,⟨ad,x,U⟩,⟨ae,y,V⟩,⟨af,z,X⟩⟩:∃c:Array Field,prog.underlying 46=some (.struct c)/\oneCellFields prog c=true/\c.size=4/\(∃a,c[0]?=some a/\a.type=3)/\(∃a,c[1]?=some a/\a.type=3)/\(∃a,c[2]?=some a/\a.type=3)/\(∃a,c[3]?=some a/\a.type=26):=
  ⟨_,underlying46,rfl,rfl,⟨_,rfl,rfl⟩,⟨_,rfl,rfl⟩,⟨_,rfl,rfl⟩,⟨_,rfl,rfl⟩⟩
 obtain ⟨b,P,a9,aa,D,i,k⟩:=DataW.trod_struct M O;rw [K] at D
 match n,D with
 | [ag,ah,ai,Y],_=>
   have a0:b[0]?=some (b[0]'(by rw [i,g];decide)):=zAa _;have a1:b[1]?=some (b[1]'(by rw [i,g];decide)):=zAa _;have a2:b[2]?=some (b[2]'(by rw [i,g];decide)):=zAa _;have a3:b[3]?=some (b[3]'(by rw [i,g];decide)):=zAa _;have s:=k 0 _ v;rw [(hone_of e _ _ v).1,(hone_of e _ _ v).2,T,a0] at s;simp only [List.drop_zero,List.drop_succ_cons,List.take_succ_cons,List.take_zero] at s;have t:=k 1 _ x;rw [(hone_of e _ _ x).1,(hone_of e _ _ x).2,U,a1] at t;simp only [List.drop_zero,List.drop_succ_cons,List.take_succ_cons,List.take_zero] at t;have u:=k 2 _ y;rw [(hone_of e _ _ y).1,(hone_of e _ _ y).2,V,a2] at u;simp only [List.drop_zero,List.drop_succ_cons,List.take_succ_cons,List.take_zero] at u;have j:=k 3 _ z;rw [(hone_of e _ _ z).1,(hone_of e _ _ z).2,X,a3] at j;simp only [List.drop_zero,List.drop_succ_cons,List.take_succ_cons,List.take_zero] at j;obtain ⟨a4,o,_,w0⟩:=DataW.trod_int underlying3 s;obtain ⟨a5,q,_,w1⟩:=DataW.trod_int underlying3 t;obtain ⟨a6,r,_,Z⟩:=DataW.trod_int underlying3 u;injection o with o;injection q with q;injection r with r;subst o;subst q;subst r;have N:∃(m:Option Addr) (B A:Nat),Y=.slice m B A:=(by rcases open_slice underlying26 j with ⟨f,_⟩|⟨aj,ab,a8,_,_,_,_,f,_⟩;injection f with f;exact ⟨_,_,_,f⟩;injection f with f;exact ⟨_,_,_,f⟩);obtain ⟨m,B,A,rfl⟩:=N;obtain ⟨a7,E,Q,R,S⟩:=aIF (d:=(b[3]'(by rw [i,g];decide)).1) (p:=(b[3]'(by rw [i,g];decide)).2) underlying26 underlying5 kR ⟨P,by simpa [Value.cells] using j⟩;obtain ⟨H,L⟩:=aIv a7 Q;rw [L] at E;exact ⟨⟨a4,a5,a6,m,B,A,H⟩,rfl,bounds_i64 w0,bounds_i64 w1,bounds_i64 Z,E,R,S⟩
def aAv {o:Type} {E:TypeId×Value->o} {w:World} {p:Option Addr} {b m:Nat} {D:DataW o} {T:List MemPlace}
 (F:DataW.Trod E prog w 0 (fun _=>true) true 41 (.slice p b m) D T):
 ∃l:List Stp,Rd w w.heap.size 4 p b (fU l)/\l.length=b/\(∀e∈l,e.good w)/\b<=m/\m<=maxLen:=by
 obtain ⟨a1,J⟩:=F;rcases open_slice underlying41 J with ⟨i,_⟩|⟨k,l,Z,a4,a5,X,Y,i,_,N,O,z,_,K⟩;simp [Value.cells] at i;obtain ⟨rfl,rfl,rfl⟩:=i;exact ⟨[],Rd.nil _ _ _ _,rfl,by simp,zAs _,zAp _⟩;simp [Value.cells] at i;obtain ⟨rfl,rfl,rfl⟩:=i;simp at z;subst z;have G:prog.cellsOf 46=4:=(by kernel_rfl);have B:∀c,c < b->∃e:Stp,(∀a,a < 4->w.cell? (k.add (c*4+a))=(jY e)[a]?)/\e.good w:=(by intro c a3;obtain ⟨a0,v,R⟩:=K c oM;rw [G] at v;obtain ⟨e,rfl,j⟩:=aDW R;obtain ⟨_,a2,H⟩:=World.cells?_some v;refine ⟨e,fun a L=>?_,j⟩;have:=H a L;rw [Go.Deep.add_add] at this;exact this);have U:∃d:Nat->Stp,∀c,c < b->(∀a,a < 4->w.cell? (k.add (c*4+a))=(jY (d c))[a]?)/\(d c).good w:=(by refine ⟨fun g=>if f:g < b then Classical.choose (B g f) else ⟨0,0,0,none,0,0, []⟩,fun g f=>?_⟩;simp only [f,dif_pos];exact Classical.choose_spec (B g f));obtain ⟨d,j⟩:=U;refine ⟨(List.range b).map d,⟨by rw [qC];simp,fun P=>?_⟩,by simp,?_,N,O⟩;have x:=(j 0 P).1 0 oM;simp only [Nat.zero_mul,zBi] at x;have y:w.cell? (k.add 0)=some (iv (d 0).kind):=x.trans rfl;obtain ⟨C,S,V⟩:=k;have Q:V=none:=(by simpa [Addr.add] using World.cell?_spot y);subst Q;have I:=World.block_lt_of_cell? w _ y;refine ⟨C,S,rfl,by simpa [Addr.add] using I,fun a a6 A=>?_⟩;have M:a < b*4:=(by have:=(zAc.1 A).1;rw [qC] at this;simpa using this);have q:a / 4 < b:=Nat.div_lt_of_lt_mul (by rw [Nat.mul_comm];exact M);have r:a % 4 < 4:=Nat.mod_lt _ oM;have s:a / 4*4+a % 4=a:=Nat.div_add_mod' a 4;have n:((List.range b).map d)[a / 4]?=some (d (a / 4)):=(by rw [zAf,zCk q];rfl);have t:=dB _ (a / 4) (a % 4) _ n r;rw [s,A] at t;have u:=(j (a / 4) q).1 (a % 4) r;rw [s,<-t,lY] at u;exact u;intro e n;obtain ⟨g,f,rfl⟩:=zAy.1 n;exact (j g (zCj.1 f)).2
end
section
open Go.RowKit
def wW (l:List Stp) (a b:Nat):Bool:=(l.all fun c=>decide (c.n<=60))&&decide (a<=b)
def aDB (m:Option Addr) (c D v e:Nat) (l:List Stp) (w:World) (s:Rd w v 4 m c (fU l)) (p:l.length=c) (G:c<=maxLen) (q:∀a∈l,a.n<=maxLen):
 Calls prog 24 #[.slice m c D,(e:Int)] w fun E K=>E=.returned (.bool (wW l c e))/\w=K:=by
 obtain ⟨A,i,x⟩:=hqq3 s p q;unfold maxLen at G;clear s p q;go_enter func24,ntmps24;go_wp2;go_loopw [5] (fun k wr=>∃b:Nat,b<=c/\k=.int .i64 b/\(∀a∈l.take b,a.n<=60)/\w=wr) (fun k _=>c -(intOf k).toNat)
 case atStart=>exact ⟨0,zAp _,rfl,by simp,rfl⟩
 case round=>
  obtain ⟨b,P,rfl,g,rfl⟩:=hrel;by_cases Q:b < c
  · obtain ⟨a,d⟩:∃a,l[b]?=some a:=⟨l[b]'(by have:=i.out;omega),zAa (by have:=i.out;omega)⟩;obtain ⟨C,I,rfl,N,o⟩:=A.out.2 oM;have M:w.cell? ⟨C,I+b*4+3,none⟩=some (.slice a.A a.n a.c):=(by rw [Nat.add_assoc];exact o (b*4+3) _ ((dB l b 3 a d oM).trans rfl));have H:=x.out a (zAd d);unfold maxLen at H;have r:l.take (b+1)=l.take b++ [a]:=(by rw [zAv,d];rfl);obtain ⟨z,y,B⟩:=hqq3 g r d;clear o g r d;by_cases F:a.n<=60
    · have J:decide ((a.n:Int) > 60)=false:=(by simp;omega);go_wp2;go_roundw
      case rel=>refine ⟨b+1,by omega,by go_num,?_,trivial⟩;intro L u;rw [y.out] at u;rcases zCp.1 u with f | f;exact z.out L f;rw [List.mem_singleton.1 f];exact F
      case measure=>simp [intOf];omega
    · have J:decide ((a.n:Int) > 60)=true:=(by simp;omega);have j:wW l c e=false:=(by unfold wW;have:(l.all fun a=>decide (a.n<=60))=false:=(by rw [List.all_eq_false];exact ⟨a,zAd B.out,by simp;omega⟩);rw [this,Bool.false_and]);go_wp2;go_ret;exact ⟨cO j.symm,rfl⟩
  · have O:c<=b:=oM;have t:l.take b=l:=zAg (by have:=i.out;omega);rw [t] at g;have j:wW l c e=decide (c<=e):=(by unfold wW;rw [zBf.2 (fun a d=>zBz (g a d)),Bool.true_and]);clear t g;go_wp2;go_ret;exact ⟨cO (by rw [j] <;>(by_cases f:c<=e <;> simp [f] <;> omega)),rfl⟩
structure Shp where
 len:Int
 height:Int
 leaves:Int
 nodes:Int
def Shp.cells (a:Shp):List Value:= [iv a.len,iv a.height,iv a.leaves,iv a.nodes]
def Shp.val (a:Shp):Value:=.agg #[iv a.len,iv a.height,iv a.leaves,iv a.nodes]
def cH (l:List Shp):List Value:=l.flatMap Shp.cells
def Shp.zero:Shp:=⟨0,0,0,0⟩
def Shp.add (a b:Shp):Shp:=⟨a.len+b.len,max a.height b.height,a.leaves+b.leaves,a.nodes+b.nodes⟩
def dV (l:List Shp) (a c:Nat) (d:Shp) (b:l[a]?=some d) (g:c < 4):(cH l)[a*4+c]?=d.cells[c]?:=by
 induction l generalizing a with
 | nil=>simp at b
 | cons f l e=>
   rcases a with _ | a
   · simp at b;subst b;simp only [cH,List.flatMap_cons,Nat.zero_mul,zBi];rw [zAn (by simp [Shp.cells];omega)]
   simp only [zCf] at b;have:=e a b;simp only [cH,List.flatMap_cons] at this⊢;rw [zAo (by simp [Shp.cells];omega)];rw [<-this];congr 1;simp [Shp.cells];omega
def qH (l:List Shp):(cH l).length=l.length*4:=by
 induction l with
 | nil=>rfl
 | cons a l d=>
   have c:a.cells.length=4:=rfl;have b:cH (a::l)=a.cells++cH l:=(by simp [cH]);rw [b,zAi,d,c,zCg];omega
def aCr (w:World):Calls prog 176 #[.int .i64 0] w fun b c=>b=.returned (.int .i64 1)/\w=c:=by
 go_enter func176,ntmps176;go_wp2;go_loopw [3,5] (fun d a wr=>a=.int .i64 0/\d=.int .i64 1/\wr=w) (fun _ a _=>1 -(intOf a).toNat)
 case atStart=>exact ⟨rfl,rfl,rfl⟩
 case round=>obtain ⟨rfl,rfl,rfl⟩:=hrel;go_wp2;go_ret;exact ⟨rfl,rfl⟩
def aD5 (a:Int) (w:World) (d:0<=a) (e:a<=1099511627776):
 Calls prog 177 #[.int .i64 a] w fun b c=>b=.returned (.int .i64 (a / 128*4+a % 128*4 / 128))/\w=c:=by
 go_enter func177,ntmps177;go_wp2;go_ret;exact ⟨rfl,rfl⟩
def aF9 (a:Int) (w:World) (b:0 < a) (e:a<=1099511627776):
 Calls prog 128 #[.agg #[.int .i64 a,.int .i64 0,.int .i64 1,.int .i64 1]] w fun c d=>c=.returned (.bool true)/\Below w.heap.size w d:=by
 have f:(a==0)=false:=by rw [zCb];omega
 have g:decide (a > 0)=true:=zBz b;have i:decide (0 < a)=true:=zBz b;have j:decide ((0:Int)<=a / 128*4+a % 128*4 / 128)=true:=zBz oM;go_enter func128,ntmps128;go_wp2_with fail
 go_quiet (first
  |(go_at_call 176;exact pF (aCr _))
  |(go_at_call 177;exact pF (aD5 _ _ oM oM)))
 go_wp2;go_ret;exact ⟨rfl,below_drewN (bR.alloc nL _) _⟩
def aGH (y:Option Addr) (c P:Nat) (l:List Shp) (q:Int) (O:List Shp) (z:Nat) (w:World) (u:Rd w z 4 y c (cH l)) (R:z<=w.heap.size) (a1:c<=65536) (s:l=⟨q,0,1,1⟩::O)
 (J:∀b∈l,∃g:Int,0 < g/\g<=1099511627776/\b=⟨g,0,1,1⟩):
 Calls prog 71 #[.slice y c P,.int .i64 q] w fun F d=>F=.returned (.bool true)/\Below w.heap.size w d:=by
 have t:l.length=c:=by have:=u.1;rw [qH] at this;omega
 have I:0 < c:=by rw [<-t,s];simp
 obtain ⟨e,n,rfl,j,k⟩:=(u.mono R).2 I;have H:∀a b,l[a]?=some b->∀d,Below w.heap.size w d->d.cell? ⟨e,n+a*4,none⟩=some (.int .i64 b.len)/\d.cell? ⟨e,n+a*4+1,none⟩=some (.int .i64 b.height)/\d.cell? ⟨e,n+a*4+2,none⟩=some (.int .i64 b.leaves)/\d.cell? ⟨e,n+a*4+3,none⟩=some (.int .i64 b.nodes):=fun a b m d p=>
  ⟨(p.cell j).trans (k (a*4+0) _ ((dV l a 0 b m oM).trans rfl)),(p.cell j).trans (k (a*4+1) _ ((dV l a 1 b m oM).trans rfl)),(p.cell j).trans (k (a*4+2) _ ((dV l a 2 b m oM).trans rfl)),(p.cell j).trans (k (a*4+3) _ ((dV l a 3 b m oM).trans rfl))⟩
 obtain ⟨B,N,L,M⟩:=hqq4 H J s t;clear u k H J s t;go_enter func71,ntmps71;go_wp2_with fail;go_loopw [5] (fun x wr=>∃a:Nat,a<=c/\x=.int .i64 (a:Int)/\Below w.heap.size w wr) (fun x _=>c -(intOf x).toNat)
 case atStart=>exact ⟨0,zAp _,rfl,Below.refl _ _⟩
 case round=>
  obtain ⟨a,m,rfl,f⟩:=hrel;have Y:=f.size;by_cases U:a < c
  · obtain ⟨b,v⟩:∃b,l[a]?=some b:=⟨_,zAa (by rw [M.out];exact U)⟩;obtain ⟨i,C,D,E⟩:=B.out a b v wr f;obtain ⟨g,V,X,rfl⟩:=N.out b (zAd v);simp only at i C D E;have Q:decide (g < 1)=false:=zBy oM;have G:∀W,Below wr.heap.size wr W->W.cell? ⟨e,n+a*4,none⟩=some (.int .i64 g):=fun W S=>(S.cell (by have:e < w.heap.size:=j;show e < wr.heap.size;omega)).trans i;obtain ⟨A,o⟩:=hqq2 G f;clear v G f;go_wp2_with fail;refine (aF9 g wr V X).mono ?_;rintro F w1 ⟨rfl,r⟩;have Z:=A.out w1 r;have K:=lhd (o.out.trans (r.mono Y));clear r A o i C D E;go_wp2_with fail;go_roundw
    case rel=>exact ⟨a+1,by omega,by go_num,K.out⟩
    case measure=>simp [intOf];omega
  · have T:a=c:=oM;subst T;have i:=(B.out 0 ⟨q,0,1,1⟩ (by rw [L.out];rfl) wr f).1;simp only [Nat.zero_mul,zBq] at i;have Q:decide ((a:Int) > 0)=true:=zBz oM;have a0:decide (0 < a)=true:=zBz I;have o:=lhd f;clear f;go_wp2_with fail;go_ret;exact ⟨by first | rfl | simp,o.out⟩
def aHI (Y:Option Addr) (n x:Nat) (l:List Shp) (a8:Nat) (w:World) (a4:Rd w a8 4 Y n (cH l)) (am:a8<=w.heap.size) (bg:n<=1000) (au:∀q∈l,∃a7:Int,0 < a7/\a7<=1000/\q=⟨a7,0,1,1⟩):
 Calls prog 81 #[.slice Y n x] w fun a1 aR=>(∃j:Int,a1=.returned (.agg #[.int .i64 j,.int .i64 0,(n:Int),(n:Int)]))/\Below w.heap.size w aR:=by
 have ar:l.length=n:=by have:=a4.1;rw [qH] at this;omega
 obtain ⟨s,J⟩:=eqx w.heap.size;obtain ⟨d,a3⟩:=eqx (s+1);obtain ⟨W,L⟩:=eqx ((w.alloc (.cells #[.int .i64 0,.int .i64 0,.int .i64 0,.int .i64 0] 122)).alloc (.cells #[.int .i64 0,.int .i64 0,.int .i64 0,.int .i64 0] 122));have ao:Below s w W:=by rw [<-L,<-J];exact (bR.alloc nL _).alloc (by simp) _
 have o:Bk W s 122 #[.int .i64 0,.int .i64 0,.int .i64 0,.int .i64 0]:=by rw [<-L,<-J];exact (Bk.new w _ _).alloc _
 have v:Bk W d 122 #[.int .i64 0,.int .i64 0,.int .i64 0,.int .i64 0]:=by rw [<-L,<-a3,<-J];have:=Bk.new (w.alloc (.cells #[.int .i64 0,.int .i64 0,.int .i64 0,.int .i64 0] 122)) 122 #[.int .i64 0,.int .i64 0,.int .i64 0,.int .i64 0];rw [World.size_alloc] at this;exact this
 have U:s≠d:=oM;have aq:s<=d:=oM;have T:∃e g,0 < n->Y=some ⟨e,g,none⟩/\∀(a:Nat) (q:Shp),l[a]?=some q->∀b,Below s w b->b.cell? ⟨e,g+a*4,none⟩=some (.int .i64 q.len)/\b.cell? ⟨e,g+a*4+1,none⟩=some (.int .i64 q.height)/\b.cell? ⟨e,g+a*4+2,none⟩=some (.int .i64 q.leaves)/\b.cell? ⟨e,g+a*4+3,none⟩=some (.int .i64 q.nodes):=by rcases zBa n with ak | ak;exact ⟨0,0,fun aj=>by omega⟩;obtain ⟨e,g,a1,N,z⟩:=(a4.mono am).2 ak;rw [J] at N;exact ⟨e,g,fun _=>⟨a1,fun a q O b V=>⟨(V.cell N).trans (z (a*4+0) _ ((dV l a 0 q O oM).trans rfl)),(V.cell N).trans (z (a*4+1) _ ((dV l a 1 q O oM).trans rfl)),(V.cell N).trans (z (a*4+2) _ ((dV l a 2 q O oM).trans rfl)),(V.cell N).trans (z (a*4+3) _ ((dV l a 3 q O oM).trans rfl))⟩⟩⟩
 obtain ⟨e,g,T⟩:=T;obtain ⟨aG,aI,aJ,aw,az,aB,aF,aa,aH⟩:=hqq9 T ar au L ao o v J a3;have R:=lhd aq;clear T ar au L ao o v J a3 a4 am aq;rw [aa.out];go_enter func81,ntmps81;go_wp2_with fail;rw [aw.out]
 try rw [aa.out]
 try rw [aH.out]
 go_loopw [4] (fun X wr=>∃(a:Nat) (j:Int),a<=n/\X=.int .i64 (a:Int)/\Bk wr d 122 #[.int .i64 j,.int .i64 0,(a:Int),(a:Int)]/\Bk wr s 122 #[.int .i64 0,.int .i64 0,.int .i64 0,.int .i64 0]/\0<=j/\j<=1000*(a:Int)/\Below s w wr) (fun X _=>n -(intOf X).toNat)
 case atStart=>exact ⟨0,0,zAp _,rfl,aF.out,aB.out,by omega,by omega,az.out⟩
 case round=>
  obtain ⟨a,j,O,rfl,v,o,be,an,M⟩:=hrel;by_cases aO:a < n
  · obtain ⟨q,a5⟩:∃q,l[a]?=some q:=⟨_,zAa (by rw [aI.out];exact aO)⟩;obtain ⟨u,bh,bi,rfl⟩:=aJ.out q (zAd a5);obtain ⟨aL,z⟩:=aG.out oM;subst aL;have a6:s<=wr.heap.size:=(by have:=o.lt;omega);have al:∀b,Keep (fun _=>False) wr b->b.cell? ⟨e,g+a*4,none⟩=some (.int .i64 u)/\b.cell? ⟨e,g+a*4+1,none⟩=some (.int .i64 0)/\b.cell? ⟨e,g+a*4+2,none⟩=some (.int .i64 1)/\b.cell? ⟨e,g+a*4+3,none⟩=some (.int .i64 1)/\b.cell? d=some (.int .i64 j)/\b.cell? ⟨d,1,none⟩=some (.int .i64 0)/\b.cell? ⟨d,2,none⟩=some (.int .i64 (a:Int))/\b.cell? ⟨d,3,none⟩=some (.int .i64 (a:Int)):=fun b c=>by obtain ⟨aS,aT,aV,aW⟩:=z a _ a5 b (M.trans (c.to_below a6 fun _ _ r=>r.elim));have S:=Keep.bk c v fun r=>r;exact ⟨aS,aT,aV,aW,S.cell 0,S.cell 1,S.cell 2,S.cell 3⟩
    have bj:(a:Int) < (n:Int):=oM;have bf:j<=1000000:=oM;have bl:IntKind.i64.wrap (j+u)=j+u:=(by rw [IntKind.wrap_i64];omega);have bm:IntKind.i64.wrap ((a:Int)+1)=(a:Int)+1:=(by rw [IntKind.wrap_i64];omega);obtain ⟨y,aE,aA,ax,av,aK⟩:=hqq6 al v o M an a6;clear al v o M z a5 an a6;go_wp2_with fail;refine wp_region_any kR ?_;refine cV 33 [11,12,13,14,15,16,17,18,19,20,21,22,23,24,25,26,27,28,29,30,31,32,33,34,35,36,37,38,39,40,41,42,43] (fun _=>False) 0 [] (fun _=>True) (is d) [dA,is (j:Int),is (.slice (some ⟨e,g,none⟩) n x),is (a:Int),is (.pointer (some ⟨e,g+a*4,none⟩)),is (.pointer (some ⟨e,g+a*4,none⟩)),is (u:Int),is (j+u:Int),is (.pointer (some ⟨d,1,none⟩)),is (0:Int),is (.slice (some ⟨e,g,none⟩) n x),is (a:Int),is (.pointer (some ⟨e,g+a*4,none⟩)),is (.pointer (some ⟨e,g+a*4+1,none⟩)),is (0:Int),is (0:Int),is (.pointer (some ⟨d,2,none⟩)),is (a:Int),is (.slice (some ⟨e,g,none⟩) n x),is (a:Int),is (.pointer (some ⟨e,g+a*4,none⟩)),is (.pointer (some ⟨e,g+a*4+2,none⟩)),is (1:Int),is (.int .i64 ((a:Int)+1)),is (.pointer (some ⟨d,3,none⟩)),is (a:Int),is (.slice (some ⟨e,g,none⟩) n x),is (a:Int),is (.pointer (some ⟨e,g+a*4,none⟩)),is (.pointer (some ⟨e,g+a*4+3,none⟩)),is (1:Int),is (.int .i64 ((a:Int)+1)),is (.agg #[(j+u:Int),.int .i64 0,.int .i64 ((a:Int)+1),.int .i64 ((a:Int)+1)])] _ _ rfl dC kR kR kR (trivial) (fun _ _ _ _ _=>trivial) (fun _ _ _ aj _=>aj) tA0 ?_ ?_
    · refine bG ?_;refine sC3 (fun H _ _ _ _ _ aP _ _ _ _ m=>?_) ?_
      · have b8:H (.tmp 3)=.pointer (some d):=aP 3 kR;go_simp;exact m _ _ (aU (Keep.refl _ _)) rfl
      refine sC3 (fun H b c _ _ _ _ k _ _ _ m=>?_) ?_
      · replace c:Keep (fun _=>False) wr b:=kD c;have aQ:(is d) (H (.tmp 11)) b:=k 0 11 kR rfl;have b1:H (.tmp 11)=.pointer (some d):=aQ;obtain ⟨k0,A,B,C,D,E,F,G⟩:=y.out b c;go_simp;exact kq m rfl
      refine pH3 0 (.slice (some ⟨e,g,none⟩) n x) ?_;refine pH3 4 (.int .i64 (a:Int)) ?_;refine pW3 2 13 3 14 ?_;refine pV3 4 15 ?_;refine sC3 (fun _ b c _ _ _ _ k _ _ _ m=>?_) ?_
      · replace c:Keep (fun _=>False) wr b:=kD c;have b2:_=_:=k 5 16 kR rfl;obtain ⟨k0,A,B,C,D,E,F,G⟩:=y.out b c;go_simp;exact kq m rfl
      refine pW3 1 12 6 17 ?_;refine pH3 3 (.pointer (some d)) ?_;refine sC3 (fun _ b c _ _ _ _ k _ _ _ m=>?_) ?_
      · replace c:Keep (fun _=>False) wr b:=kD c;have b4:_=_:=k 8 19 kR rfl;obtain ⟨k0,A,B,C,D,E,F,G⟩:=y.out b c;go_simp;exact kq m rfl
      refine pH3 0 (.slice (some ⟨e,g,none⟩) n x) ?_;refine pH3 4 (.int .i64 (a:Int)) ?_;refine pW3 10 21 11 22 ?_;refine pV3 12 23 ?_;refine sC3 (fun _ b c _ _ _ _ k _ _ _ m=>?_) ?_
      · replace c:Keep (fun _=>False) wr b:=kD c;have b5:_=_:=k 13 24 kR rfl;obtain ⟨k0,A,B,C,D,E,F,G⟩:=y.out b c;go_simp;exact kq m rfl
      refine pW3 9 20 14 25 ?_;refine pH3 3 (.pointer (some d)) ?_;refine sC3 (fun _ b c _ _ _ _ k _ _ _ m=>?_) ?_
      · replace c:Keep (fun _=>False) wr b:=kD c;have b7:_=_:=k 16 27 kR rfl;obtain ⟨k0,A,B,C,D,E,F,G⟩:=y.out b c;go_simp;exact kq m rfl
      refine pH3 0 (.slice (some ⟨e,g,none⟩) n x) ?_;refine pH3 4 (.int .i64 (a:Int)) ?_;refine pW3 18 29 19 30 ?_;refine pV3 20 31 ?_;refine sC3 (fun _ b c _ _ _ _ k _ _ _ m=>?_) ?_
      · replace c:Keep (fun _=>False) wr b:=kD c;have b9:_=_:=k 21 32 kR rfl;obtain ⟨k0,A,B,C,D,E,F,G⟩:=y.out b c;go_simp;exact kq m rfl
      refine pW3 17 28 22 33 ?_;refine pH3 3 (.pointer (some d)) ?_;refine sC3 (fun _ b c _ _ _ _ k _ _ _ m=>?_) ?_
      · replace c:Keep (fun _=>False) wr b:=kD c;have bb:_=_:=k 24 35 kR rfl;obtain ⟨k0,A,B,C,D,E,F,G⟩:=y.out b c;go_simp;exact kq m rfl
      refine pH3 0 (.slice (some ⟨e,g,none⟩) n x) ?_;refine pH3 4 (.int .i64 (a:Int)) ?_;refine pW3 26 37 27 38 ?_;refine pV3 28 39 ?_;refine sC3 (fun _ b c _ _ _ _ k _ _ _ m=>?_) ?_
      · replace c:Keep (fun _=>False) wr b:=kD c;have bc:_=_:=k 29 40 kR rfl;obtain ⟨k0,A,B,C,D,E,F,G⟩:=y.out b c;go_simp;exact kq m rfl
      refine pW3 25 36 30 41 ?_;refine sC3 (fun _ _ _ _ _ _ _ k _ _ _ m=>?_) ?_
      · have b3:_=_:=k 7 18 kR rfl;have b6:_=_:=k 15 26 kR rfl;have ba:_=_:=k 23 34 kR rfl;have bd:_=_:=k 31 42 kR rfl;go_simp;exact kq m rfl
      exact aD
    · intro H Q r c k;replace c:Keep (fun _=>False) wr Q:=kD c;have aM:H (.tmp 43)=.agg #[(j+u:Int),.int .i64 0,.int .i64 ((a:Int)+1),.int .i64 ((a:Int)+1)]:=k 32 43 dC rfl;simp only [zqq];rw [aM];clear k;have t:Bk Q d 122 #[.int .i64 j,.int .i64 0,(a:Int),(a:Int)]:=Keep.bk c aE.out fun r=>r;have af:=t.frozen 0;have ag:=t.frozen 1;have ah:=t.frozen 2;have ai:=t.frozen 3;have ab:=t.cell 0;have ac:=t.cell 1;have ad:=t.cell 2;have ae:=t.cell 3;obtain ⟨ay,a9⟩:=hqq2 t c;clear t c;change wpAny prog Region.Mode.any _ _ (1+r) (bX 33 34) _ Q;rw [zCs 1 r];refine bC (f:=r) (i:=33) kR ?_;refine bN rfl rfl ?_;generalize m:wpAny prog _ _ _ r _=K5;go_simp;subst m;refine bT kR ?_;have t:=ax.out.trans (a9.out.to_below aK.out fun _ _ r=>r.elim);have I:=(((t.setCell (p:=d) R.out (.int .i64 (j+u))).setCell (p:=⟨d,1,none⟩) R.out (.int .i64 0)).setCell (p:=⟨d,2,none⟩) R.out (.int .i64 ((a:Int)+1))).setCell (p:=⟨d,3,none⟩) R.out (.int .i64 ((a:Int)+1));have K:=(((ay.out.set 0 (.int .i64 (j+u))).set 1 (.int .i64 0)).set 2 (.int .i64 ((a:Int)+1))).set 3 (.int .i64 ((a:Int)+1));have ap:Bk Q s 122 #[.int .i64 0,.int .i64 0,.int .i64 0,.int .i64 0]:=Keep.bk a9.out aA.out fun r=>r;have a2:=(((ap.far (p:=d) U (.int .i64 (j+u))).far (p:=⟨d,1,none⟩) U (.int .i64 0)).far (p:=⟨d,2,none⟩) U (.int .i64 ((a:Int)+1))).far (p:=⟨d,3,none⟩) U (.int .i64 ((a:Int)+1));generalize (((Q.setCell d (.int .i64 (j+u))).setCell ⟨d,1,none⟩ (.int .i64 0)).setCell ⟨d,2,none⟩ (.int .i64 ((a:Int)+1))).setCell ⟨d,3,none⟩ (.int .i64 ((a:Int)+1))=w9 at I K a2⊢;obtain ⟨Z,a0,aC⟩:=hqq3 I K a2;clear I K ap a2 t af ag ah ai ab ac ad ae;go_wp2_with fail;go_roundw
      case rel=>exact ⟨a+1,j+u,by omega,by go_num,a0.out,aC.out,by omega,by have:=av.out;omega,Z.out⟩
      case measure=>simp [intOf];omega
  · have aN:a=n:=oM;subst aN;have ab:=v.cell 0;have ac:=v.cell 1;have ad:=v.cell 2;have ae:=v.cell 3;have aX:=o.cell 0;have aY:=o.cell 1;have aZ:=o.cell 2;have b0:=o.cell 3;have af:=o.frozen 0;have ag:=o.frozen 1;have ah:=o.frozen 2;have ai:=o.frozen 3;have K:=(((o.set 0 (.int .i64 j)).set 1 (.int .i64 0)).set 2 (.int .i64 (a:Int))).set 3 (.int .i64 (a:Int));have I:=(((M.setCell (p:=s) nL (.int .i64 j)).setCell (p:=⟨s,1,none⟩) nL (.int .i64 0)).setCell (p:=⟨s,2,none⟩) nL (.int .i64 (a:Int))).setCell (p:=⟨s,3,none⟩) nL (.int .i64 (a:Int));obtain ⟨a0,Z⟩:=hqq2 K I;clear K I v o M;go_wp2_with fail;exact bodyPost_ret (results_cell_row (P:=prog) (fn:=f81) (p:=2) (ty:=122) rfl _ _ s 122 #[.int .i64 j,.int .i64 0,(a:Int),(a:Int)] (0,0) _ rfl a0.out underlying122 rfl kR) rfl ⟨⟨j,rfl⟩,Z.out⟩
def aCl (a:Nat) (w:World) (d:a<=1000000):Calls prog 137 #[(a:Int)] w fun b c=>b=.returned (.int .i64 (a:Int))/\w=c:=by
 go_enter func137,ntmps137;go_wp2;go_ret;exact ⟨by first | rfl |(congr 3;omega)|(simp;omega),rfl⟩
def aEa (a:Nat) (w:World) (d:a<=1000000):Calls prog 82 #[(a:Int)] w fun b e=>(∃c:Int,b=.returned (.int .i64 c)/\9216<=c)/\w=e:=by
 go_enter func82,ntmps82;go_wp2_with fail;refine (aCl a w d).mono ?_;rintro b w1 ⟨rfl,rfl⟩;go_wp2_with fail;go_ret;exact ⟨⟨_,rfl,by omega⟩,rfl⟩
end
end Go.Proofs.YthldmddkfbijhaaGreatDoor
