/- Lemmas of the walk. Conditions: each its own. -/
import Derived.Test.YtecdldbdednahaaGreatDoorPu1
import Derived.Test.YtecdldbdednahaaGreatDoorProg
import Derived.Test.YtecdldbdednahaaGreatDoorShl
import Derived.Test.YtecdldbdednahaaGreatDoorShs
set_option linter.all false
set_option maxRecDepth 100000
set_option maxHeartbeats 4000000
open Go.Proofs.Tryz
namespace Go.Proofs.YtecdldbdednahaaGreatDoor
section
open Go.ChangeShapes Go.WideShapes Go.ChangeAt Go.RowKit
def oZ:laidOutB prog=true:=by kernel_rfl
def own:ownKnob prog.godebug=none:=by kernel_rfl
def aJ1 {k:IntKind} {w:World} {d:Addr} {c f:Nat} {b:List Int} (v:c<=f) (x:b.length=f) (o:0 < c->d.block < w.heap.size)
 (g:∀e,e < b.length->w.cell? (d.add e)=some (.int k (b.getD e 0))):Rd w w.heap.size 1 (some d) c ((b.take c).map (Value.int k)):=by
 refine ⟨by simp;omega,fun q=>?_⟩;have p:=g 0 oM;obtain ⟨m,s,t⟩:=d;have r:t=none:=by simpa [Addr.add] using World.cell?_spot p
 subst r;refine ⟨m,s,rfl,o q,fun j y a=>?_⟩;simp only [zAf,zBs] at a;split at a
 · rename_i u
   have:=g j oM;rw [jX] at this;rw [this];have i:j < b.length:=oM;rw [zAa i] at a;simp only [Option.map_some,Option.some.injEq] at a;rw [<-a,zAb,zAa i];rfl
 · simp at a
def aC5 (a:List Int) (b:∀n∈a,(Lit.int .u8 n).wf=true):∃l:List UInt8,a.map (Value.int .u8)=l.map bv:=by
 induction a with
 | nil=>exact ⟨[],rfl⟩
 | cons c a f=>
   obtain ⟨l,d⟩:=f fun n e=>b n (List.mem_cons_of_mem _ e);have g:=bounds_u8 (b c (List.mem_cons_self ..));refine ⟨UInt8.ofNat c.toNat::l,?_⟩;simp only [List.map_cons,d];congr 1;unfold bv;congr 1;simp [UInt8.toNat_ofNat'];omega
def aC9 {g:Type} {q:TypeId×Value->g} {o e} {f:IntKind} {w i d c} {p:DataW g} {B:List MemPlace} (x:prog.underlying o=some (.slice e)) (t:prog.underlying e=some (.int f)) (s:prog.cellsOf e=1) (r:DataW.Trod q prog w 0 (fun _=>true) true o (.slice i d c) p B):
 ∃b:List Int,Rd w w.heap.size 1 i d (b.map (Value.int f))/\(∀n∈b,(Lit.int f n).wf=true)/\d<=c/\c<=maxLen:=by
 obtain ⟨E,u⟩:=r;rcases open_ints x t s u with ⟨a,_⟩|⟨C,l,D,b,a,_,k,v,z,F,j,y⟩;simp [Value.cells] at a;obtain ⟨rfl,rfl,rfl⟩:=a;exact ⟨[],Rd.nil _ _ _ _,by simp,zAs _,zAp _⟩;simp [Value.cells] at a;obtain ⟨rfl,rfl,rfl⟩:=a;have A:b.length=c:=(by simpa using z);refine ⟨b.take d,aJ1 k A (fun m=>?_) j,fun n m=>y n (List.mem_of_mem_take m),k,v⟩;have:=World.block_lt_of_cell? w (C.add 0) (j 0 oM);simpa [Addr.add] using this
end
section
open Go.RowKit
def aE1:(prog.info? 112).map (fun a=>(a.zero,a.size,a.bytes))=some (some (.slice none 0 0),1,24):=by kernel_rfl
def aEf:(prog.info? 183).map (fun a=>(a.zero,a.size,a.bytes))=some (some (.agg #[.pointer none,o0,o0]),3,24):=by kernel_rfl
def aIe (n:Nat) (g:n<=1000000) (w):(Instr.makeSlice 217 (.int .i64 (n:Int)) (.int .i64 (n:Int))).run prog w=.ok (.slice (some w.heap.size) n n) (w.alloc (.cells (rowC (fun _=>.slice none 0 0) n) 112)):=by
 obtain ⟨f,b,c,d,e⟩:=info_parts aE1;have:=run_make (P:=prog) w 217 112 f (.slice none 0 0) underlying217 b c .i64 .i64 n n oM (Int.le_refl _) (by rw [e];omega) oM;rw [this,d,aEl];have a:madeCells #[()] n=Array.replicate n (.slice none 0 0):=by apply Array.ext';rw [toList_madeCells_one];simp
 simp only [Value.cells,zBr,zBl];rw [a]
def bM (l:List Nat) (a:Nat):Nat:=l.getD ((a+l.length - 1)% l.length) 0
def aH (l a:List Nat):List Nat:=a.map (bM l)
def bW (l a):(aH l a).length=a.length:=by simp [aH]
def aIt {l} (c:∀d∈l,d < 257) (a):bM l a < 257:=by
 unfold bM;rw [zAb];cases b:l[(a+l.length - 1)% l.length]? with
 | none=>simp
 | some e=>simpa using c e (zAd b)
def dR {l rs} (b:∀a∈l,a < 257):∀a∈aH l rs,a < 257:=by
 intro a c;obtain ⟨d,_,rfl⟩:=zAy.1 c;exact aIt b d
def aGq (n:Nat) (f:n<=1000000) (w):(Instr.makeSlice 39 (.int .i64 0) (.int .i64 (n:Int))).run prog w=.ok (.slice (some w.heap.size) 0 n) (w.alloc (.cells (madeCells #[o0] n) 3)):=by
 obtain ⟨e,a,b,c,d⟩:=info_parts gN;have:=run_make (P:=prog) w 39 3 e (.int .i64 0) underlying39 a b .i64 .i64 0 n oM oM (by rw [d];omega) oM;rw [this,c];simp only [Value.cells,zBr,zBl];rfl
def aCJ {w b i n a j row} (e:Rd w w.heap.size i a n j) (g:w.grownBy b row) (m:∀c,a=some c->row≠some c.block):Rd b b.heap.size i a n j:=by
 refine ⟨e.1,fun p=>?_⟩;obtain ⟨d,s,rfl,f,o⟩:=e.2 p;refine ⟨d,s,rfl,zAl f g.size,fun r t q=>?_⟩;rw [World.cell?_of_block (w:=w) (g.block d f (fun k=>m _ rfl k.symm))];exact o r t q
def Apt (c:Value) (b:Option Addr):Prop:=∀a,b=some a->c.ownBlock≠some a.block
def Apt.next {i e c f} (j:Apt i c) (m:e.ownBlock=i.ownBlock∨e.ownBlock=some f) (k:∀a,c=some a->a.block < f):Apt e c:=by
 intro a g b;rcases m with d | d;exact j a g (d.symm.trans b);rw [d] at b;injection b with b;have:=k a g;omega
def oG (o e v a2 c w) (T:Rd w a2 1 o e (c.map bv)) (ab:a2<=w.heap.size) (b5:e<=200):
 Calls prog 77 #[.slice o e v] w fun I au=>∃g j k,IsSuf (aJ c) g/\I=.returned (.slice j (e+1) k)/\Made au w.heap.size 3 1 j (e+1) k ((aH (aJ c) g).map sv)/\Below w.heap.size w au:=by
 obtain ⟨bc,b1,b9,ba,bb⟩:=info_parts gN;have aq:c.length=e:=by simpa using T.1
 obtain ⟨aa,aI⟩:=hqq2 T aq;clear T aq;go_enter func77,ntmps77;go_wp2_with fail;obtain ⟨n,z⟩:=eqx (e+1);have V:=yS w.heap.size 0 o e v w.heap.size c (w.alloc (.cells #[.slice o e v] 22)) (ke _ _ _) ((aa.out.mono ab).alloc nL _) (by simp) oM;have U:=fun W (m:Below w.heap.size w W)=>oF o e v w.heap.size c W ((aa.out.mono ab).below m) m.size b5;simp only [z] at V U;have bl:n<=201:=oM;have bk:1<=n:=oM;have ai:(aJ c).length=n:=by rw [aR,aI.out,z]
 obtain ⟨a3,E,a4⟩:=hqq3 z ai U;clear z ai U;refine V.mono ?_;clear V;rintro I w1 ⟨C,bh,rfl,ak,af⟩;have ag:=((kh w.heap.size w).alloc nL _).trans (af.mono (by simp));have bd:=aGq n oM;obtain ⟨F,u⟩:=hqq2 ak ag;clear ak af ag;go_wp2_with fail;clear bd;have r:=u.out.alloc u.out.size (.cells (madeCells #[o0] n) 3);have M:=F.out.below (bR.alloc nL (.cells (madeCells #[o0] n) 3));have f:(w1.alloc (.cells (madeCells #[o0] n) 3)).ownsRow w.heap.size 3 1 (.slice (some w1.heap.size) 0 n) 0 []:=World.ownsRow_made _ _ _ u.out.size (by unfold maxLen;omega) (by simp [madeCells]);obtain ⟨q,K⟩:=eqx w1.heap.size;have b0:q < (w1.alloc (.cells (madeCells #[o0] n) 3)).heap.size:=by rw [<-K];simp
 have ac:Apt (.slice (some q) 0 n) C:=by
  intro a b m;obtain ⟨aw,aM,i,_,J⟩:=aW F.out.own;injection i with i;have:=(J a (i.symm.trans b)).2;have aO:q=a.block:=by simpa [Value.ownBlock] using m
  omega
 have ax:=lhd ac;clear ac;rw [K] at f⊢;generalize w1.alloc (.cells (madeCells #[o0] n) 3)=W2 at r M f b0⊢;obtain ⟨a6,a5⟩:=hqq2 f M;clear f M F u K;refine (a4.out W2 r).mono ?_;rintro I bt ⟨g,D,bi,ao,rfl,N,x⟩;have ah:=r.trans (x.mono r.size);have am:=aQ a6.out x;have al:=a5.out.below x;have ad:Apt (.slice (some q) 0 n) D:=by
  intro a b m;obtain ⟨aw,aM,i,_,J⟩:=aW N.own;injection i with i;have:=(J a (i.symm.trans b)).1;have aO:q=a.block:=by simpa [Value.ownBlock] using m
  omega
 have ay:=lhd ad;clear ad;obtain ⟨G,aC,aB,aD,az⟩:=hqq5 ao N.rd al.rd am ah;clear ao N al am ah x r a6 a5 a4;go_wp2_with fail;go_loopw [4,6,16] (fun a1 _ Z wr=>∃d:Nat,d<=n/\Z=.int .i64 d/\wr.ownsRow w.heap.size 3 1 a1 d ((aH (aJ c) (g.take d)).map sv)/\Below w.heap.size w wr/\Apt a1 C/\Apt a1 D/\Rd wr wr.heap.size 1 C n ((aJ c).map sv)/\Rd wr wr.heap.size 1 D n (g.map sv)) (fun _ _ Z _=>n -(intOf Z).toNat)
 case atStart=>exact ⟨0,by omega,rfl,aD.out,az.out,ax.out,ay.out,aB.out,aC.out⟩
 case round=>
  obtain ⟨d,bj,rfl,f,y,R,S,A,B⟩:=hrel;by_cases b4:d < n
  · obtain ⟨aK,be,bp,rfl,aP,X,aV⟩:=B.get b4;rw [zAf] at X;obtain ⟨t,O,rfl⟩:=Option.map_eq_some_iff.1 X;have bm:t < n:=(by have:=G.out.lt (zAd O);rw [E.out] at this;exact this);obtain ⟨a0,s⟩:=eqx ((t+n - 1)% n);have b8:a0 < n:=(by rw [<-s];exact Nat.mod_lt _ oM);obtain ⟨aL,bf,bq,rfl,aT,Y,aX⟩:=A.get b8;rw [zAf] at Y;obtain ⟨av,ar,rfl⟩:=Option.map_eq_some_iff.1 Y;have an:bM (aJ c) t=av:=(by unfold bM;rw [E.out,s,zAb,ar];rfl);have ap:aH (aJ c) (g.take (d+1))=aH (aJ c) (g.take d)++ [av]:=(by rw [zAv,O,aH,zAz,<-an];rfl);unfold sv at aV aX;have b7:((t:Int)+(n:Int) - 1)%(n:Int)=(a0:Int):=(by rw [<-s,Int.natCast_emod];congr 1;omega);have bn:((t:Int)+(n:Int) - 1).tmod (n:Int)=(a0:Int):=(by rw [Int.tmod_eq_emod_of_nonneg oM];exact b7);obtain ⟨aG,a7,a8,a9,p,aE,aF,bg⟩:=hqq8 ap f R S y A B s;clear X Y ar an ap f y R S A B s O;go_wp2_with (at_builtin;refine bL _ rfl (.tmp 20) (.tmp 32) _ rfl w.heap.size 3 bc (.int .i64 0) 1 8 underlying39 b1 b9 ba bb rfl dC _ d _ rfl a7.out rfl rfl (by simp [Value.oneCell']) (by unfold maxLen;omega) oM p.out.size ?_;intro br bs b6 L bo ae);have aU:=aZ p.out a7.out L p.out.size;have b2:∀a,some (⟨aL,bf,none⟩:Addr)=some a->a.block < _:=fun a b=>by injection b with b;subst b;exact aT
    have b3:∀a,some (⟨aK,be,none⟩:Addr)=some a->a.block < _:=fun a b=>by injection b with b;subst b;exact aP
    go_roundw
    case rel=>refine ⟨d+1,by omega,by go_num,?_,aU,a8.out.next ae (fun a b=>Nat.lt_succ_of_lt (b2 a b)),a9.out.next ae (fun a b=>Nat.lt_succ_of_lt (b3 a b)),aCJ aE.out L a8.out,aCJ aF.out L a9.out⟩;rw [aG.out,zAz];exact b6
    case measure=>simp [intOf];omega
  · obtain rfl:n=d:=oM;rw [zAg (by rw [G.out.len,E.out];omega)] at f;obtain ⟨j,k,rfl,aj⟩:=aS f;obtain ⟨aA,p⟩:=hqq2 aj y;clear f aj y R S A B;go_wp2_with fail;go_ret;have aY:∀H,Made wr w.heap.size 3 1 j n k H->Made wr w.heap.size 3 1 j (e+1) k H:=fun H aN=>by rw [a3.out];exact aN
    exact ⟨g,j,k,G.out,by rw [a3.out];rfl,aY _ aA.out,p.out⟩
end
section
open Go.RowKit Go.Shelf
open Go.Sort (Holds)
def jQ (b:Nat->Bool):List Nat->Nat->Int
 | [],_=>-1
 | k::l,a=>if b k then (a:Int) else jQ b l (a+1)
def lG {p:Nat->Bool} {l} (b:∀a∈l,p a=false) (c):jQ p l c=-1:=by
 induction l generalizing c with
 | nil=>rfl
 | cons a l e=>
   unfold jQ;rw [zBw (by rw [b a (by simp)];simp)];exact e (fun a d=>b a (by simp [d])) _
def uS {p:Nat->Bool} {l} (b:∃a∈l,p a=true) (d):∃(e a:Nat),jQ p l d=((d+e:Nat):Int)/\l[e]?=some a/\p a=true:=by
 induction l generalizing d with
 | nil=>obtain ⟨a,f,_⟩:=b;cases f
 | cons i l q=>
   unfold jQ;by_cases c:p i=true;rw [zBx c];exact ⟨0,i,rfl,rfl,c⟩;rw [zBw c];obtain ⟨a,f,g⟩:=b;have o:a∈l:=(by rcases List.mem_cons.1 f with rfl | b;exact absurd g c;exact b);obtain ⟨e,r,j,k,m⟩:=q ⟨a,o,g⟩ (d+1);exact ⟨e+1,r,by rw [j];congr 1;omega,by simpa using k,m⟩
def aGK {b c} (e:∀a∈c,a < b+1) (f:Nat->Bool) (g:Fin (b+1)) (d):Lib.idxByFrom (fun (_ k:Fin (b+1))=>f k.val) g ((c.map fun a=>(⟨a %(b+1),Nat.mod_lt _ (Nat.succ_pos b)⟩:Fin (b+1)))) d=jQ f c d:=by
 induction c generalizing d with
 | nil=>rfl
 | cons a l j=>
   rw [List.map_cons];unfold Lib.idxByFrom jQ;simp only [zBu (e a (by simp))];rw [j (fun a i=>e a (by simp [i]))]
def jO (M o T:Nat) (a9 z aa a8) (N P:Nat) (c f a7 S) (e:Nat) (w) (i:PermAt w M o T a9 z aa a8 N P c f a7 S) (I:c.length<=1099511627776):
 Calls prog 85 #[o,(e:Int)] w fun b p=>b=.returned (.int .i64 (jQ (fun a=>decide (aI f a=e)) c 0))/\Below w.heap.size w p:=by
 have af:=i.blk.lt;have O:w.cell? ⟨o,2,none⟩=some z:=(i.blk.cell 2).trans rfl;obtain ⟨W,s⟩:∃W,W=(w.alloc (.cells #[o] 87)).alloc (.cells #[(e:Int)] 3):=⟨_,rfl⟩;have g:Below w.heap.size w W:=s ▸(bR.alloc nL _).alloc (by simp) _;have u:Bk W w.heap.size 87 #[o]:=s ▸(ke _ _ _).alloc _;have v:Bk W (w.heap.size+1) 3 #[(e:Int)]:=by have:=ke (w.alloc (.cells #[o] 87)) 3 #[(e:Int)];rw [<-s] at this;simpa using this
 have F:∀m n j,z=.slice m n j->Calls prog 144 #[.slice m n j,.func (.func 145) #[] #[w.heap.size,.pointer (some ⟨w.heap.size+1,0,none⟩)]] W fun b p=>b=.returned (.int .i64 (jQ (fun a=>decide (aI f a=e)) c 0))/\Below w.heap.size w p:=by
  intro m n j B;rcases zBa c.length with r | r;have a4:c= []:=zBk r;obtain ⟨ab,ac,q,_⟩:=aW i.orow;rw [B] at q;injection q with _ q _;rw [r] at q;subst q;subst a4;refine (AnyE.slices_IndexFunc_empty shIdx m j (.func (.func 145) #[] #[w.heap.size,.pointer (some ⟨w.heap.size+1,0,none⟩)]) _).mono ?_;rintro b p ⟨rfl,rfl⟩;exact ⟨rfl,g⟩
  · rcases i.orow.2 with ⟨_,b⟩|⟨C,ad,R,b,ae,a0,ah,ag,ai,K⟩;omega
    · rw [B] at b;injection b with e1 e2 e3;subst e1 e2 e3;rw [zBl] at K;obtain ⟨k0,a3⟩:∃a,a∈c:=(by obtain ⟨k,a5⟩:=List.exists_mem_of_length_pos r;exact ⟨k,a5⟩);obtain ⟨d,G⟩:∃d,f.length=d+1:=⟨f.length - 1,by have:=i.lt k0 a3;omega⟩;have J:∀a∈c,a < d+1:=fun a I=>by rw [<-G];exact i.lt a I
      have H:Bk w C 3 R:=a0;have a1:=H.below g H.lt;have V:=qM a1 J K;have y:PredAt prog 145 #[w.heap.size,.pointer (some ⟨w.heap.size+1,0,none⟩)] (fM d) (fun k=>decide (aI f k.val=e)) W:=(by intro A k t;have Y:=u.below t u.lt;have Z:=v.below t v.lt;obtain ⟨m,n,j,b,y⟩:=i.prd (w':=A) (Y.cell 0) (g.trans (t.mono g.size));exact aBX w.heap.size (w.heap.size+1) o m n j f k.val e A y (Z.cell 0) (by rw [G];exact k.isLt));have aj:c.length=(c.map fun a=>(⟨a %(d+1),Nat.mod_lt _ (Nat.succ_pos d)⟩:Fin (d+1))).length:=(by simp);have D:=AnyE.slices_IndexFunc shIdx (fM d) (fun k=>decide (aI f k.val=e)) 145 #[w.heap.size,.pointer (some ⟨w.heap.size+1,0,none⟩)] (enters_of func145 kR rfl) C 0 c.length j (c.map fun a=>(⟨a %(d+1),Nat.mod_lt _ (Nat.succ_pos d)⟩:Fin (d+1))) W y (by simp) oM (fun a6 a2=>by
       have U:=(V a6 (by simpa [gC] using a2)).1;simpa [gC] using U)
      rw [zAg (by simp),Lib.idxBy,aGK J (fun a=>decide (aI f a=e))] at D;refine D.mono ?_;rintro b p ⟨rfl,ak,rfl⟩;exact ⟨rfl,g.os,g.tape,g.output,g.size,g.block⟩
 obtain ⟨m,j,b,_⟩:=aW i.orow;have E:=F _ _ _ b;rw [b] at O;obtain ⟨L,x⟩:∃L,jQ (fun a=>decide (aI f a=e)) c 0=L:=⟨_,rfl⟩;rw [x] at E;rw [x];subst s;clear F i x g b u v;go_enter func85,ntmps85;go_wp2_with fail;refine E.mono ?_;rintro b p ⟨rfl,X⟩;go_wp2_with fail;go_ret;exact ⟨rfl,X⟩
end
section
open Go.RowKit
def aDb (b a:Nat) (e:b < 18446744073709551616) (f:a < 18446744073709551616):bits .andNot .u64 (b:Int) (a:Int)=((b&&&(18446744073709551615 - a):Nat):Int):=by
 have c:b % 2 ^ 64=b:=zBu oM;have d:a % 2 ^ 64=a:=zBu oM;have g:b&&&(18446744073709551615 - a) < 2 ^ 64:=Nat.and_lt_two_pow _ oM;show IntKind.u64.wrap (((BitVec.ofInt 64 (b:Int)&&& ~~~ BitVec.ofInt 64 (a:Int)).toNat:Nat):Int)=_;rw [BitVec.ofInt_natCast,BitVec.ofInt_natCast,BitVec.toNat_and,BitVec.toNat_not,BitVec.toNat_ofNat,BitVec.toNat_ofNat,c,d,ko,show 2 ^ 64 - 1 - a=18446744073709551615 - a by omega];omega
def aFE {a b} (c:a < 18446744073709551616) (d:b < 18446744073709551616):a||| b < 18446744073709551616:=Nat.or_lt_two_pow (n:=64) c d
def aDc (a) {b} (c:b < 18446744073709551616):a&&& b < 18446744073709551616:=Nat.and_lt_two_pow (n:=64) a c
def aEG (b a:Nat) (c:a < 64):aBf b (a:Int)=b % 2 ^ a:=by
 unfold aBf;rw [show min ((a:Int)).toNat 64=a by omega]
def aJG (b c:Nat) (f) (o:b < 18446744073709551616) (z:c < 64) (w):
 Calls prog 267 #[.int .u64 (b:Int),(c:Int),.bool f] w fun u I=>u=.returned (.tuple #[.int .u64 ((rP b c f:Nat):Int),.bool (b.testBit 63)])/\w=I:=by
 have A:=aEG b c z;obtain ⟨d,i⟩:=eqx (b % 2 ^ c);have s:d < 18446744073709551616:=by rw [<-i];exact xO b c o
 obtain ⟨g,m⟩:=eqx (2 ^ c);have S:g < 18446744073709551616:=by rw [<-m];exact Nat.pow_lt_pow_right (a:=2) dC (show c < 64 from z)
 have R:(2:Int)^ c=(g:Int):=by rw [<-m];push_cast;rfl
 obtain ⟨r,e⟩:=eqx ((if f then g else 0:Nat));have x:r < 18446744073709551616:=by rw [<-e];split <;> omega
 have J:IntKind.u64.wrap (g:Int)=(g:Int):=by rw [ko];omega
 have v:=aGA d r s x;obtain ⟨p,j⟩:=eqx (d||| r);have G:p < 18446744073709551616:=by rw [<-j];exact aFE s x
 have E:=aDb b d o s;obtain ⟨t,k⟩:=eqx (b&&&(18446744073709551615 - d));have O:t < 18446744073709551616:=by rw [<-k];exact aDc _ oM
 obtain ⟨q,B⟩:=eqx (t*2 % 18446744073709551616);have H:q < 18446744073709551616:=oM;have L:IntKind.u64.wrap ((t:Int)*2)=(q:Int):=by rw [ko];omega
 have F:=aGA p q G H;have y:rP b c f=p||| q:=by unfold rP;rw [i,m,e,j,k,B]
 have C:((b:Int)/ 9223372036854775808==1)=b.testBit 63:=by rw [<-aJI b o,Bool.eq_iff_iff,zCq,zCa];omega
 rw [j] at v;rw [k] at E;rw [y,<-C];have M:decide ((c:Int) < 0)=false:=by simp
 have N:¬((c:Int)>=64):=oM;have D:=lhd (A.trans i);clear y C A i m j k B;go_enter func267,ntmps267;go_wp2_with fail;refine (rY b (c:Int) o oM _).mono ?_;rintro u w1 ⟨rfl,rfl⟩;rw [D.out];cases f with
 | true=>
   rw [zBx rfl] at e;subst e;go_wp2_with fail;go_ret2;exact ⟨rfl,rfl⟩
 | false=>
   rw [zBw (by simp)] at e;subst e;have K:bits .or .u64 (d:Int) 0=(p:Int):=v;go_wp2_with fail;go_ret2;exact ⟨by rw [<-F];rfl,rfl⟩
def aDW (b a:Nat) (i) (x:b < 18446744073709551616) (F:a < 64) (w):
 Calls prog 258 #[.int .u64 (b:Int),(a:Int),.bool i] w fun j T=>j=.returned (.tuple #[.int .u64 ((oB b a i:Nat):Int),.bool (b.testBit a)])/\w=T:=by
 have G:=aEG b a F;have u:=aEG (b / 2) a F;obtain ⟨r,k⟩:=eqx (b % 2 ^ a);have C:r < 18446744073709551616:=by rw [<-k];exact xO b a x
 have S:b / 2 < 18446744073709551616:=oM;obtain ⟨s,e⟩:=eqx (b / 2 % 2 ^ a);have N:s < 18446744073709551616:=by rw [<-e];exact xO _ a S
 obtain ⟨g,q⟩:=eqx (b / 2);have a2:(b:Int)/ 2=(g:Int):=oM;have y:g < 18446744073709551616:=oM;obtain ⟨t,f⟩:=eqx ((if i then 9223372036854775808 else 0:Nat));have O:t < 18446744073709551616:=by rw [<-f];split <;> omega
 have K:=aDb g s y N;obtain ⟨z,p⟩:=eqx (g&&&(18446744073709551615 - s));have H:z < 18446744073709551616:=by rw [<-p];exact aDc _ oM
 have J:=aGA r z C H;obtain ⟨d,o⟩:=eqx (r||| z);have R:d < 18446744073709551616:=by rw [<-o];exact aFE C H
 have B:=aGA d t R O;have E:oB b a i=d||| t:=by unfold oB;rw [k,q,f];rw [q] at e;rw [e,p,o]
 obtain ⟨c,m⟩:=eqx (b / 2 ^ a);have Y:(b:Int)/ 2 ^ a=(c:Int):=by rw [<-m];push_cast;rfl
 have Z:c < 18446744073709551616:=by rw [<-m];exact Nat.lt_of_le_of_lt (Nat.div_le_self _ _) x
 have M:bits .and .u64 (c:Int) 1=((c&&& 1:Nat):Int):=(bits_nat .u64 64 dC (fun n V X=>by rw [ko];omega) c 1 oM dC).1;have v:(((c&&& 1:Nat):Int)==1)=b.testBit a:=by rw [Nat.testBit_eq_decide_div_mod_eq,m,Nat.and_one_is_mod,Bool.eq_iff_iff,zCq,zCa];omega
 obtain ⟨U,D⟩:=eqx (c&&& 1);rw [D] at M v;rw [o] at J;rw [p] at K;rw [E,<-v];have a0:decide ((a:Int) < 0)=false:=by simp
 have a1:¬((a:Int)>=64):=oM;rw [q] at u e;obtain ⟨I,A⟩:=hqq2 (G.trans k) (u.trans e);clear E v G u k e q o p m D;go_enter func258,ntmps258;go_wp2_with fail;refine (rY b (a:Int) x oM _).mono ?_;rintro j w1 ⟨rfl,rfl⟩;rw [I.out];cases i with
 | true=>
   rw [zBx rfl] at f;subst f;have L:bits .or .u64 (d:Int) 9223372036854775808=((d||| 9223372036854775808:Nat):Int):=B;go_wp2_with fail;refine (rY g (a:Int) y oM _).mono ?_;rintro j w1 ⟨rfl,rfl⟩;rw [A.out];go_wp2_with fail;go_ret2;exact ⟨rfl,rfl⟩
 | false=>
   rw [zBw (by simp)] at f;subst f;have L:bits .or .u64 (d:Int) 0=((d||| 0:Nat):Int):=B;go_wp2_with fail;refine (rY g (a:Int) y oM _).mono ?_;rintro j w1 ⟨rfl,rfl⟩;rw [A.out];go_wp2_with fail;go_ret2;exact ⟨by rw [Nat.or_zero];rfl,rfl⟩
def aE2 (b:Nat) (a:Array Value):Value->World->Prop:=fun _ w=>Bk w b 245 a
def yB (c b):Stb (aE2 c b):=fun _ _ _ a d=>kg a d (Bk.lt a)
def oD (n:Int) (a b:Nat):Array Value:=#[.int .i64 n,.int .u64 (a:Int),.int .u64 (b:Int)]
def yD (n b c a) (d:a < 2):(oD n b c)[1+a]?=some (.int .u64 (((if a=0 then b else c):Nat):Int)):=by
 obtain rfl | rfl:a=0∨a=1:=oM;rfl;rfl
def yC (n:Int) (c d b a:Nat) (e:a < 2):(oD n c d).setIfInBounds (1+a) (.int .u64 (b:Int))=oD n (if a=0 then b else c) (if a=0 then d else b):=by
 obtain rfl | rfl:a=0∨a=1:=oM;rfl;rfl
def aAJ {w a n c d} (e:Bk w a 245 (oD n c d)) (b):Bk (w.setCell a (.int .i64 b)) a 245 (oD b c d):=e.set 0 _
structure InsI (l l':List Bool) (k:Nat) (b:Bool) (i a:Nat) (bb:Bool) (u0 u1:Nat):Prop where
 at0:i=0->k < 64/\a=k/\bb=b/\u0=w0 l/\u1=w1 l
 at1:i=1->a < 64/\u0=w0 l'/\rP u1 a bb=w1 l'/\u1 < 18446744073709551616
 at2:i=2->u0=w0 l'/\u1=w1 l'
 le:i<=2
def vQ (b l d c w) (a5:Bk w b 245 (iS l)) (aF:l.length<=127) (H:d<=l.length):
 Calls prog 254 #[b,(d:Int),.bool c] w fun m ad=>m=.returned (.int .i64 0)/\Bk ad b 245 (iS (aV l d c))/\Keep (fun c=>c=b) w ad:=by
 obtain ⟨n,V⟩:=eqx l.length;have a9:(aV l d c).length=n+1:=by rw [gO _ _ H,V]
 have E:Bk w b 245 (oD (n:Int) (w0 l) (w1 l)):=by rw [<-V];exact a5
 have a7:∀W,Bk W b 245 (oD ((n+1:Nat):Int) (w0 (aV l d c)) (w1 (aV l d c)))->Bk W b 245 (iS (aV l d c)):=fun W r=>by unfold iS;rw [a9];exact r
 have a1:=nO l;have O:=nJ l oM;have aH:∃K z:Nat,(d:Int)/ 64=(K:Int)/\(d:Int)% 64=(z:Int)/\InsI l (aV l d c) d c K z c (w0 l) (w1 l):=by by_cases ap:d < 64;exact ⟨0,d,by omega,by omega,fun _=>⟨ap,rfl,rfl,rfl,rfl⟩,fun m=>by omega,fun m=>by omega,by omega⟩;obtain ⟨N,C⟩:=aK2 l d c H oM oM;exact ⟨1,d - 64,by omega,by omega,fun m=>by omega,fun _=>⟨by omega,N.symm,C.symm,O⟩,fun m=>by omega,by omega⟩
 have aa:∀a o g e f,a < 2->InsI l (aV l d c) d c a o g e f->o < 64/\(if a=0 then e else f) < 18446744073709551616/\InsI l (aV l d c) d c (a+1) 0 ((if a=0 then e else f).testBit 63) (if a=0 then rP e o g else e) (if a=0 then f else rP f o g):=by intro a o g e f aU r;obtain rfl | rfl:a=0∨a=1:=oM;obtain ⟨B,rfl,rfl,rfl,rfl⟩:=r.at0 rfl;obtain ⟨N,C⟩:=aK1 l o g H oM B;have aA:(w0 l).testBit 63=l.getD 63 false:=(by rw [jR];simp);simp only [if_true,aA];exact ⟨B,a1,fun m=>by omega,fun _=>⟨by omega,N.symm,C.symm,O⟩,fun m=>by omega,by omega⟩;obtain ⟨B,aq,ar,au⟩:=r.at1 rfl;simp only [show ¬((1:Nat)=0) by omega,if_false];exact ⟨B,au,fun m=>by omega,fun m=>by omega,fun _=>⟨aq,ar⟩,by omega⟩
 obtain ⟨K,z,aW,aQ,a2⟩:=aH;have aE:¬((d:Int) > (n:Int)):=oM;have aD:decide ((d:Int) < 0)=false:=by simp
 have aZ:((n:Int)==128)=false:=by rw [zCb];omega
 have A:w.cell? b=some (.int .i64 (n:Int)):=(E.cell 0).trans rfl;have aR:=E.lt;have b0:n<=127:=oM;obtain ⟨ag,ak,an,ae⟩:=hqq4 E a7 aa a2;clear a5 E a7 a1 O aa a2 a9 V aF H;go_enter func254,ntmps254;go_wp2_with fail;clear A aD aE;go_loopw [2,7,8] (fun i j Z wr=>∃(a o:Nat) (g:Bool) (e f:Nat),i=.bool g/\j=.int .i64 (o:Int)/\Z=.int .i64 (a:Int)/\InsI l (aV l d c) d c a o g e f/\Bk wr b 245 (oD (n:Int) e f)/\Keep (fun c=>c=b) w wr) (fun _ _ Z _=>2 -(intOf Z).toNat)
 case atStart=>exact ⟨K,z,c,_,_,rfl,rfl,rfl,ae.out,ag.out,kf _ _⟩
 case round=>
  obtain ⟨a,s,g,e,f,rfl,rfl,rfl,t,q,I⟩:=hrel;by_cases U:a < 2
  · obtain ⟨aG,ab,R⟩:=an.out a s g e f U t;have G:=yD (n:Int) e f a U;have X:=fun j=>yC (n:Int) e f j a U;obtain ⟨i,x⟩:∃i,(if a=0 then e else f)=i:=⟨_,rfl⟩;obtain ⟨j,J⟩:=eqx (rP i s g);obtain ⟨M,a6⟩:=eqx (oD (n:Int) e f)
    have a3:InsI l (aV l d c) d c (a+1) 0 (i.testBit 63) (if a=0 then j else e) (if a=0 then f else j):=by
        have ay:(if a=0 then rP e s g else e)=if a=0 then j else e:=by
         split
         · rw [<-J,<-x,zBx (by assumption)]
         rfl
        have az:(if a=0 then f else rP f s g)=if a=0 then f else j:=by
         split;rfl
         · rw [<-J,<-x,zBw (by assumption)]
        rw [x,ay,az] at R;exact R
    rw [x] at G ab;rw [a6] at G X q;have aX:(a:Int) < 2:=oM;obtain ⟨a0,am,aj,ao,af,L⟩:=hqq6 G X q J a3 I;clear t R q I G X x J a6 a3;go_wp2_with fail;refine wp_region_any kR ?_;refine aY [38,39,40,41,42,43,44,45,46,47,48,37,49,50,51,52,53,2] (fun c=>c=b) 17 [7,17] (fun w1=>Bk w1 b 245 M) (aE2 b (M.setIfInBounds (1+a) (.int .u64 (j:Int)))) [is b,is (a:Int),is b,is (a:Int),is b,is (.pointer (some ⟨b,1,none⟩)),is (.pointer (some ⟨b,1+a,none⟩)),is (.int .u64 (i:Int)),is (s:Int),is (.bool g),is (.tuple #[.int .u64 (j:Int),.bool (i.testBit 63)]),is (.tuple #[.int .u64 (j:Int),.bool (i.testBit 63)]),is (.int .u64 (j:Int)),is (.bool (i.testBit 63)),is b,is (.pointer (some ⟨b,1,none⟩)),is (.pointer (some ⟨b,1+a,none⟩)),cJ,is (.bool (i.testBit 63))] _ _ rfl kR kR (aj.out) (fun w1 b2 r _ aB=>kg r aB r.lt) (yB _ _) tA0 ?_ ?_
    · refine aK ?_;refine pH3 0 (.pointer (some b)) ?_;refine pH3 8 (.int .i64 (a:Int)) ?_;refine pH3 0 (.pointer (some b)) ?_;refine pH3 8 (.int .i64 (a:Int)) ?_;refine pV3 2 40 ?_;refine pV3 4 42 ?_;refine pW3 5 43 3 41 ?_;refine sC3 (fun _ y _ S _ _ _ k _ _ _ u=>?_) ?_
      · have v:=S rfl;have aJ:_=_:=k 6 44 kR rfl;have A:y.cell? ⟨b,1+a,none⟩=some (.int .u64 (i:Int)):=(v.cell (1+a)).trans a0.out;go_simp;exact kq u rfl
      refine pH3 7 (.int .i64 (s:Int)) ?_;refine pH3 2 (.bool g) ?_;refine sC3 (fun _ y _ _ _ _ _ k _ _ _ u=>?_) ?_
      · have aL:_=_:=k 7 45 kR rfl;have aM:_=_:=k 8 46 kR rfl;have aN:_=_:=k 9 47 kR rfl;go_simp;refine (aJG i s g ab aG y).mono ?_;rintro m b3 ⟨rfl,rfl⟩;rw [ao.out];exact kq u rfl
      refine pV3 10 48 ?_;refine pV3 11 37 ?_;refine pV3 11 37 ?_;refine pV3 0 38 ?_;refine pV3 14 51 ?_;refine pW3 15 52 1 39 ?_;refine sC3 (fun _ y _ S _ _ _ k _ _ _ u=>?_) ?_
      · have v:=S rfl;have aP:_=_:=k 16 53 kR rfl;have aO:_=_:=k 12 49 kR rfl;have A:y.cell? ⟨b,1+a,none⟩=some (.int .u64 (i:Int)):=(v.cell (1+a)).trans a0.out;have ax:=v.frozen (1+a);go_simp;exact u (.bool true) _ (aT (ka (F:=fun c=>c=b) (kf _ _) (p:=⟨b,1+a,none⟩) (.inl rfl) _)) (v.set (1+a) _)
      refine pV3 13 50 ?_;exact aC
    · intro aw Y D k a4;replace D:Keep (fun c=>c=b) wr Y:=kD D;have av:aw (.tmp 2)=.bool (i.testBit 63):=k 18 2 rfl;obtain ⟨b1,ac⟩:∃aI,(aE2 b (M.setIfInBounds (1+a) (.int .u64 (j:Int)))) aI Y:=a4 17 dC;simp only [zqq];rw [av];clear k a4;have T:Bk Y b 245 _:=ac;rw [am.out] at T;have a8:=L.out.trans D;obtain ⟨ai,al⟩:=hqq2 T a8;clear T a8 ac D;go_wp2_with fail;go_roundw
      case rel=>exact ⟨a+1,0,_,_,_,rfl,rfl,by go_num,af.out,ai.out,al.out⟩
      case measure=>simp [intOf];omega
  · obtain rfl:a=2:=(by have:=t.le;omega);obtain ⟨rfl,rfl⟩:=t.at2 rfl;have A:wr.cell? b=some (.int .i64 (n:Int)):=(q.cell 0).trans rfl;have ax:=q.frozen 0;have aS:=q.lt;obtain ⟨ah,L⟩:=hqq2 q I;clear q I t;have C:IntKind.i64.wrap ((n:Int)+1)=((n+1:Nat):Int):=(by rw [wI0];omega);go_wp2_with fail;go_ret;exact ⟨rfl,ak.out _ (aAJ ah.out _),ka (F:=fun c=>c=b) L.out (p:=b) (.inl rfl) _⟩
def vS (b l c w) (ac:Bk w b 245 (iS l)) (V:l.length<=128) (O:c < l.length):
 Calls prog 247 #[b,(c:Int)] w fun z aG=>z=.returned (.tuple #[.bool (l.getD c false),o0])/\Bk aG b 245 (iS (aF l c))/\Keep (fun g=>g=b) w aG:=by
 have aw:=tI b l c w ac O;obtain ⟨n,ag⟩:=eqx l.length;have b0:(aF l c).length+1=n:=by rw [dD _ O,ag]
 have ad:Bk w b 245 (oD (n:Int) (w0 l) (w1 l)):=by rw [<-ag];exact ac
 have au:∀W,Bk W b 245 (oD ((n:Int) - 1) (w0 (aF l c)) (w1 (aF l c)))->Bk W b 245 (iS (aF l c)):=fun W D=>by unfold iS;rw [show (((aF l c).length:Nat):Int)=(n:Int) - 1 by omega];exact D
 have ap:=nO l;have aq:=nJ l V;obtain ⟨t,e,bm,aQ,bo,aR,aZ⟩:∃t e:Nat,(c:Int)/ 64=(t:Int)/\(c:Int)% 64=(e:Int)/\t < 2/\e < 64/\c=64*t+e:=⟨c / 64,c % 64,by omega,by omega,by omega,by omega,by omega⟩;have aD:t=0->w0 (aF l c)=oB (w0 l) e ((w1 l).testBit 0)/\w1 (aF l c)=oB (w1 l) 0 false/\(w0 l).testBit e=l.getD c false:=fun z=>by have x:c=e:=oM;have k:=aLm l c O V oM;rw [iL,zBq,<-x];refine ⟨k.1,k.2,?_⟩;rw [jR,zBz oM,Bool.true_and]
 have ax:t=1->w0 (aF l c)=w0 l/\w1 (aF l c)=oB (w1 l) e false/\(w1 l).testBit e=l.getD c false:=fun z=>by have x:c - 64=e:=oM;have k:=cut_hi l c O V oM;rw [x] at k;refine ⟨k.1,k.2,?_⟩;rw [iL];congr 1;omega
 have aV:=ad.lt;have bq:n<=128:=oM;have aS:0 < oB 0 0 true:=dC;obtain ⟨am,aJ,aN,aL,aH,al⟩:=hqq6 ad au aD ax ap aq;clear ac ad au ap aq aD ax b0 ag V O aS aZ;go_enter func247,ntmps247;go_wp2_with fail;refine aw.mono ?_;rintro z b6 ⟨rfl,ae⟩;have ar:=am.out.below ae aV;have aB:Keep (fun g=>g=b) w b6:=kF ae;obtain ⟨aI,aM⟩:=hqq2 ar aB;clear aw ae ar aB am;go_wp2_with fail;go_loopw [7,8] (fun d ak wr=>∃(a u:Nat) (v:Bool),d=.bool v/\ak=.int .i64 (a:Int)/\t<=a/\a < 2/\(a=1->v=false/\u=w1 l)/\(a=0->v=(w1 l).testBit 0/\u=oB (w1 l) 0 false)/\Bk wr b 245 (oD (n:Int) (w0 l) u)/\Keep (fun g=>g=b) w wr) (fun _ ak _=>(intOf ak).toNat)
 case atStart=>exact ⟨1,w1 l,false,rfl,rfl,by omega,by omega,fun _=>⟨rfl,rfl⟩,fun z=>by omega,aI.out,aM.out⟩
 case round=>
  obtain ⟨a,u,v,rfl,rfl,bn,az,k,ab,H,U⟩:=hrel;by_cases av:t < a
  · obtain rfl:a=1:=oM;obtain ⟨rfl,rfl⟩:=k rfl;obtain rfl:t=0:=oM;obtain ⟨a,ay⟩:∃a,a=1:=⟨1,rfl⟩;have j:=yD (n:Int) (w0 l) (w1 l) a oM;have q:=fun i=>yC (n:Int) (w0 l) (w1 l) i a oM;rw [zBw oM] at j;obtain ⟨d,X⟩:=eqx (w1 l);obtain ⟨i,G⟩:=eqx (oB d 0 false);obtain ⟨C,N⟩:=eqx (oD (n:Int) (w0 l) (w1 l));have Y:=al.out;rw [N] at j q H;rw [X] at j Y;have aE:oB (w1 l) 0 false=i:=(by rw [X];exact G);obtain ⟨I,ah⟩:=eqx (d.testBit 0);have M:(w1 l).testBit 0=I:=(by rw [X];exact ah);have aO:=lhd ah;have aX:(a:Int) < 2:=oM;obtain ⟨J,a4,a1,a5,aP,Z,a2⟩:=hqq7 j q H G aE M U;have bp:a < 2:=oM;have aA:¬a=0:=oM;have aW:¬(a:Int)<=0:=oM;rw [show ((1:Nat):Int)=(a:Int) by omega];have an:=lhd ay;have bi:¬(a:Int)<=0:=aW;have bj:(a:Int) > 0:=oM;clear H U j q X G aE N k ab M ay av ah;go_wp2_with fail;refine wp_region_any kR ?_;refine aY [22,23,24,25,26,27,28,29,30,31,21,32,33,34,35,36,7] (fun g=>g=b) 16 [7,16] (fun w1=>Bk w1 b 245 C) (aE2 b (C.setIfInBounds (1+a) (.int .u64 (i:Int)))) [is b,is (a:Int),is b,is (a:Int),is b,is (.pointer (some ⟨b,1,none⟩)),is (.pointer (some ⟨b,1+a,none⟩)),is (.int .u64 (d:Int)),is (.bool false),is (.tuple #[.int .u64 (i:Int),.bool I]),is (.tuple #[.int .u64 (i:Int),.bool I]),is (.int .u64 (i:Int)),is (.bool I),is b,is (.pointer (some ⟨b,1,none⟩)),is (.pointer (some ⟨b,1+a,none⟩)),cJ,is (.bool I)] _ _ rfl kR kR (a1.out) (fun w1 b4 D _ af=>kg D af D.lt) (yB _ _) tA0 ?_ ?_
    · refine aK ?_;refine pH3 0 (.pointer (some b)) ?_;refine pH3 8 (.int .i64 (a:Int)) ?_;refine pH3 0 (.pointer (some b)) ?_;refine pH3 8 (.int .i64 (a:Int)) ?_;refine pV3 2 24 ?_;refine pV3 4 26 ?_;refine pW3 5 27 3 25 ?_;refine sC3 (fun _ r _ E _ _ _ f _ _ _ m=>?_) ?_
      · have o:=E rfl;have b7:_=_:=f 6 28 kR rfl;have T:r.cell? ⟨b,1+a,none⟩=some (.int .u64 (d:Int)):=(o.cell (1+a)).trans J.out;go_simp;exact kq m rfl
      refine pH3 7 (.bool false) ?_;refine sC3 (fun _ r _ _ _ _ _ f _ _ _ m=>?_) ?_
      · have b8:_=_:=f 7 29 kR rfl;have b9:_=_:=f 8 30 kR rfl;go_simp;refine (aDW d 0 false Y oM r).mono ?_;rintro z b5 ⟨rfl,rfl⟩;rw [a5.out,aO.out];exact kq m rfl
      refine pV3 9 31 ?_;refine pV3 10 21 ?_;refine pV3 10 21 ?_;refine pV3 0 22 ?_;refine pV3 13 34 ?_;refine pW3 14 35 1 23 ?_;refine sC3 (fun _ r _ E _ _ _ f _ _ _ m=>?_) ?_
      · have o:=E rfl;have bb:_=_:=f 15 36 kR rfl;have ba:_=_:=f 11 32 kR rfl;have T:r.cell? ⟨b,1+a,none⟩=some (.int .u64 (d:Int)):=(o.cell (1+a)).trans J.out;have ao:=o.frozen (1+a);go_simp;exact m (.bool true) _ (aT (ka (F:=fun g=>g=b) (kf _ _) (p:=⟨b,1+a,none⟩) (.inl rfl) _)) (o.set (1+a) _)
      refine pV3 12 33 ?_;exact aC
    · intro aa B y f L;replace y:Keep (fun g=>g=b) wr B:=kD y;have a9:aa (.tmp 7)=.bool I:=f 17 7 rfl;obtain ⟨b3,S⟩:∃aj,(aE2 b (C.setIfInBounds (1+a) (.int .u64 (i:Int)))) aj B:=L 16 dC;simp only [zqq];rw [a9];clear f L;have s:Bk B b 245 _:=S;rw [a4.out,zBw aA,zBw aA] at s;have R:=a2.out.trans y;obtain ⟨a0,a3⟩:=hqq2 s R;have K:IntKind.i64.wrap ((a:Int) - 1)=((0:Nat):Int):=(by have:=an.out;rw [wI0];omega);clear s R S y;go_wp2_with fail;go_roundw
      case rel=>exact ⟨0,_,_,rfl,rfl,by omega,by omega,fun z=>by omega,fun _=>⟨Z.out.symm,aP.out.symm⟩,a0.out,a3.out⟩
      case measure=>have:=an.out;simp [intOf];omega
  · obtain rfl:a=t:=oM
    have aU:∃d:Nat,(oD (n:Int) (w0 l) u)[1+a]?=some (.int .u64 (d:Int))/\d < 18446744073709551616/\(oD (n:Int) (w0 l) u).setIfInBounds (1+a) (.int .u64 ((oB d e v:Nat):Int))=oD (n:Int) (w0 (aF l c)) (w1 (aF l c))/\d.testBit e=l.getD c false:=by
        have j:=yD (n:Int) (w0 l) u a az;have q:=fun i=>yC (n:Int) (w0 l) u i a az;obtain A | A:a=0∨a=1:=oM
        · obtain ⟨K,x⟩:=ab A;obtain ⟨a6,a7,a8⟩:=aN.out A;rw [zBx A] at j;refine ⟨w0 l,j,aH.out,?_,a8⟩;rw [q,zBx A,zBx A,a6,a7,K,x]
        · obtain ⟨K,x⟩:=k A;obtain ⟨a6,a7,a8⟩:=aL.out A;have ai:¬a=0:=oM;rw [zBw ai] at j;refine ⟨u,j,by rw [x];exact al.out,?_,by rw [x];exact a8⟩;rw [q,zBw ai,zBw ai,a6,a7,K,x]
    obtain ⟨d,j,Y,q,M⟩:=aU;obtain ⟨bt,b2⟩:=eqx e;subst b2;have b1:=aR;obtain ⟨i,G⟩:=eqx (oB d e v);obtain ⟨C,N⟩:=eqx (oD (n:Int) (w0 l) u);rw [G] at q;rw [N] at j q H;obtain ⟨J,a4,a1,a5,Z,a2⟩:=hqq6 j q H G M U;have bk:¬(a:Int) > (a:Int):=oM;have aX:(a:Int) < 2:=oM;have bs:IntKind.i64.wrap (a:Int)=(a:Int):=(by rw [wI0];omega);have br:((c:Int)).tmod 64=(e:Int):=(by rw [Int.tmod_eq_emod_of_nonneg oM];exact aQ);clear H U j q G N k ab M av;go_wp2_with fail;refine wp_region_any kR ?_;refine aY [38,39,40,41,42,43,44,45,46,47,48,49,50,51,37,52,53,54,55,56,7] (fun g=>g=b) 20 [9,20] (fun w1=>Bk w1 b 245 C) (aE2 b (C.setIfInBounds (1+a) (.int .u64 (i:Int)))) [is b,is (c:Int),is (a:Int),is b,is (c:Int),is (a:Int),is b,is (.pointer (some ⟨b,1,none⟩)),is (.pointer (some ⟨b,1+a,none⟩)),is (.int .u64 (d:Int)),is (c:Int),is (e:Int),is (.bool v),is (.tuple #[.int .u64 (i:Int),.bool (d.testBit e)]),is (.tuple #[.int .u64 (i:Int),.bool (d.testBit e)]),is (.int .u64 (i:Int)),is (.bool (d.testBit e)),is b,is (.pointer (some ⟨b,1,none⟩)),is (.pointer (some ⟨b,1+a,none⟩)),cJ,is (.bool (d.testBit e))] _ _ rfl kR kR (a1.out) (fun w1 b4 D _ af=>kg D af D.lt) (yB _ _) tA0 ?_ ?_
    · refine aK ?_;refine pH3 0 (.pointer (some b)) ?_;refine pH3 1 (.int .i64 (c:Int)) ?_;refine pV3 1 39 ?_;refine pH3 0 (.pointer (some b)) ?_;refine pH3 1 (.int .i64 (c:Int)) ?_;refine pV3 4 42 ?_;refine pV3 3 41 ?_;refine pV3 6 44 ?_;refine pW3 7 45 5 43 ?_;refine sC3 (fun _ r _ E _ _ _ f _ _ _ m=>?_) ?_
      · have o:=E rfl;have bc:_=_:=f 8 46 kR rfl;have T:r.cell? ⟨b,1+a,none⟩=some (.int .u64 (d:Int)):=(o.cell (1+a)).trans J.out;go_simp;exact kq m rfl
      refine pH3 1 (.int .i64 (c:Int)) ?_;refine pV3 10 48 ?_;refine pH3 7 (.bool v) ?_;refine sC3 (fun _ r _ _ _ _ _ f _ _ _ m=>?_) ?_
      · have bd:_=_:=f 9 47 kR rfl;have be:_=_:=f 11 49 kR rfl;have bf:_=_:=f 12 50 kR rfl;go_simp;refine (aDW d e v Y b1 r).mono ?_;rintro z b5 ⟨rfl,rfl⟩;rw [a5.out];exact kq m rfl
      refine pV3 13 51 ?_;refine pV3 14 37 ?_;refine pV3 14 37 ?_;refine pV3 0 38 ?_;refine pV3 17 54 ?_;refine pW3 18 55 2 40 ?_;refine sC3 (fun _ r _ E _ _ _ f _ _ _ m=>?_) ?_
      · have o:=E rfl;have bh:_=_:=f 19 56 kR rfl;have bg:_=_:=f 15 52 kR rfl;have T:r.cell? ⟨b,1+a,none⟩=some (.int .u64 (d:Int)):=(o.cell (1+a)).trans J.out;have ao:=o.frozen (1+a);go_simp;exact m (.bool true) _ (aT (ka (F:=fun g=>g=b) (kf _ _) (p:=⟨b,1+a,none⟩) (.inl rfl) _)) (o.set (1+a) _)
      refine pV3 16 53 ?_;exact aC
    · intro aa B y f L;replace y:Keep (fun g=>g=b) wr B:=kD y;have a9:aa (.tmp 7)=.bool (d.testBit e):=f 21 7 rfl;obtain ⟨b3,S⟩:∃aj,(aE2 b (C.setIfInBounds (1+a) (.int .u64 (i:Int)))) aj B:=L 20 dC;simp only [zqq];rw [a9];clear f L;have s:Bk B b 245 _:=S;rw [a4.out] at s;have R:=a2.out.trans y;have T:B.cell? b=some (.int .i64 (n:Int)):=(s.cell 0).trans rfl;have ao:=s.frozen 0;have bl:=s.lt;obtain ⟨a0,a3⟩:=hqq2 s R;have K:IntKind.i64.wrap ((n:Int) - 1)=(n:Int) - 1:=(by rw [wI0];omega);rw [Z.out];clear s R S y;go_wp2_with fail;go_ret2;exact ⟨rfl,aJ.out _ (aAJ a0.out _),ka (F:=fun g=>g=b) a3.out (p:=b) (.inl rfl) _⟩
end
section
def Pq (l:List Nat) (a:Bool):List Nat->Nat->Bool
 | [],_=>a
 | b::q,p=>decide (aN l p < (b:Int))||(decide (aN l p=(b:Int))&&Pq l a q (p+1))
def tP (l:List Nat):List Nat->Nat->Bool
 | [],_=>true
 | a::q,p=>decide (aN l p=(a:Int))&&tP l q (p+1)
def aBQ (l c b d a):Pq l c (b::d) a=(decide (aN l a < (b:Int))||(decide (aN l a=(b:Int))&&Pq l c d (a+1))):=rfl
def aAB (l c b a):tP l (c::b) a=(decide (aN l a=(c:Int))&&tP l b (a+1)):=rfl
def iW (l c d):sufLt l c d↔aN l c < aN l d∨(aN l c=aN l d/\sufLt l (c+1) (d+1)):=by
 constructor
 · rintro ⟨w,b,k,e,f⟩;rcases b with _ | b;exact .inl f
   · refine .inr ⟨e 0 oM,w,b,by omega,fun a g=>?_,?_⟩
     · have:=e (a+1) oM;rwa [show c+(a+1)=c+1+a by omega,show d+(a+1)=d+1+a by omega] at this
     · rwa [show c+(b+1)=c+1+b by omega,show d+(b+1)=d+1+b by omega] at f
 · rintro (i |⟨j,w,b,k,e,f⟩);exact ⟨1,0,by omega,fun a g=>absurd g oM,i⟩
   · refine ⟨w+1,b+1,by omega,fun a g=>?_,?_⟩
     · rcases a with _ | a;exact j
       · have:=e a oM;rwa [show c+(a+1)=c+1+a by omega,show d+(a+1)=d+1+a by omega]
     · rwa [show c+(b+1)=c+1+b by omega,show d+(b+1)=d+1+b by omega]
def aBP {l e} (d):∀ {b c:Nat},sufLt l c b->Pq l e d b=true->Pq l e d c=true:=by
 induction d with
 | nil=>intro b c _ a;exact a
 | cons m d k=>
   intro b c j a;unfold Pq at a⊢;simp only [Bool.or_eq_true,zBd,zCa] at a⊢;rcases (iW l c b).1 j with f |⟨f,g⟩;rcases a with a |⟨a,_⟩;exact .inl oM;exact .inl oM;rcases a with a |⟨a,i⟩;exact .inl oM;exact .inr ⟨by omega,k g i⟩
def tN {e:Nat->Nat->Prop} {P:Nat->Bool} {b:List Nat} (p:b.Pairwise e) (k:∀c a,e c a->P a=true->P c=true):b.take (b.countP P)=b.filter P:=by
 induction b with
 | nil=>rfl
 | cons c l r=>
   obtain ⟨g,i⟩:=List.pairwise_cons.1 p;rw [zBn,List.filter_cons];by_cases d:P c=true
   · simp only [d,if_true];rw [List.take_succ_cons,r i]
   · have f:∀a∈l,¬P a=true:=fun a q o=>d (k c a (g a q) o);have j:l.countP P=0:=List.countP_eq_zero.2 f;have m:l.filter P= []:=List.filter_eq_nil_iff.2 f;simp [d,j,m]
def Nq (l:List Nat) (a:Bool) (b:List Nat):Nat:=(List.range l.length).countP (Pq l a b)
def IsSuf.count {l a} (b:IsSuf l a) (P:Nat->Bool):a.countP P=(List.range l.length).countP P:=b.perm.countP_eq P
def aKN (l a b):Nq l a b<=l.length:=by
 unfold Nq;have:=zBh (p:=Pq l a b) (l:=List.range l.length);simpa using this
def aD6 {l e} (c:IsSuf l e) (b a f):((aH l e).take (Nq l b a)).count f=(List.range l.length).countP (fun d=>decide (bM l d=f)&&Pq l b a d):=by
 have g:Nq l b a=e.countP (Pq l b a):=(c.count _).symm;rw [g,aH,<-List.map_take,tN c.sorted (fun k m i j=>aBP a i j),<-c.count,List.count_eq_countP,List.countP_map,List.countP_filter];refine List.countP_congr fun d _=>?_;simp [Function.comp,and_comm]
def bT {l} (a:0 < l.length):bM l 0=l.getD (l.length - 1) 0:=by
 unfold bM;rw [zBi,zBu oM]
def bE {l a} (b:a+1 < l.length):bM l (a+1)=l.getD a 0:=by
 unfold bM;rw [show a+1+l.length - 1=a+l.length by omega,Nat.add_mod_right,zBu oM]
def fH {l a} (b:a < l.length):aN l a=((l.getD a 0:Nat):Int):=by
 rw [aKM b,zAb,zAa b];rfl
def gZ {m} (b:Nat->Bool) (c:Nat->Bool) (d:b 0=c m) (e:∀a,a < m->b (a+1)=c a):(List.range (m+1)).countP b=(List.range (m+1)).countP c:=by
 rw [List.range_succ_eq_map,zBn,List.countP_map,<-List.range_succ_eq_map,List.range_succ,List.countP_append,zBn,List.countP_nil,zBi,d];congr 1;refine List.countP_congr fun a f=>?_;have g:a < m:=by simpa using f
 simp [Function.comp,e a g]
def uA {α:Type} (l:List α) (b c:α->Bool) (d:∀a∈l,¬(b a=true/\c a=true)):l.countP (fun a=>b a||c a)=l.countP b+l.countP c:=by
 induction l with
 | nil=>rfl
 | cons a l f=>
   rw [zBn,zBn,zBn,f (fun g e=>d g (by simp [e]))];have:=d a (by simp);cases i:b a <;> cases j:c a <;> simp_all <;> omega
structure EndOk (l:List Nat) (m:Nat):Prop where
 len:l.length=m+1
 last:l.getD m 0=0
 pos:∀p,p < m->0 < l.getD p 0
def aFK {l i d} (j:IsSuf l i) (k:EndOk l d) (e f b) (v:0 < b):cL (aH l i) b (Nq l e f)=Nq l e (b::f):=by
 have c:=k.len;unfold cL;rw [aD6 j];have m:(aH l i).countP (fun r=>decide (r < b))=(List.range (d+1)).countP (fun a=>decide (l.getD a 0 < b)):=by
  rw [aH,List.countP_map,j.count,c];refine gZ _ _ ?_ fun a g=>?_
  · show decide (bM l 0 < b)=_;rw [bT oM,c,zBb]
  · show decide (bM l (a+1) < b)=_;rw [bE oM]
 have o:(List.range l.length).countP (fun a=>decide (bM l a=b)&&Pq l e f a)=(List.range (d+1)).countP (fun a=>decide (l.getD a 0=b)&&Pq l e f (a+1)):=by
  rw [c];refine gZ _ _ ?_ fun a g=>?_;show (decide (bM l 0=b)&&_)=(decide (l.getD d 0=b)&&_);rw [bT oM,c,zBb,k.last];have:decide (0=b)=false:=(by simp;omega);rw [this];rfl
  · show (decide (bM l (a+1)=b)&&_)=_;rw [bE oM]
 rw [m,o,<-uA]
 · unfold Nq;rw [c];refine List.countP_congr fun a g=>?_;have u:a < d+1:=(by simpa using g);rw [aBQ,fH oM];have p:decide (((l.getD a 0:Nat):Int) < (b:Int))=decide (l.getD a 0 < b):=(by rw [decide_eq_decide];omega);have q:decide (((l.getD a 0:Nat):Int)=(b:Int))=decide (l.getD a 0=b):=(by rw [decide_eq_decide];omega);rw [p,q]
 intro a _;simp only [zBd,zCa];rintro ⟨s,t,_⟩;omega
def aLz (l):Nq l false []=0/\Nq l true []=l.length:=by
 constructor;unfold Nq;exact List.countP_eq_zero.2 fun _ _ a=>by simp [Pq] at a
 · unfold Nq;have:=(List.countP_eq_length (p:=Pq l true []) (l:=List.range l.length)).2 (fun _ _=>rfl);rw [this];simp
def eP (a):EndOk (aJ a) a.length:=by
 refine ⟨aR a,?_,fun c b=>?_⟩
 · unfold aJ dI;rw [zAb,zAo (by simp)];simp
 · unfold aJ dI;rw [zAb,zAn (by simpa using b),zAf,zAa b];simp
def aJw (l b):∀a,Pq l true b a=(Pq l false b a||tP l b a)/\¬(Pq l false b a=true/\tP l b a=true):=by
 induction b with
 | nil=>intro a;exact ⟨rfl,fun i=>by simp [Pq] at i⟩
 | cons c b m=>
   intro a;obtain ⟨j,k⟩:=m (a+1);rw [aBQ,aBQ,aAB,j];by_cases d:aN l a < (c:Int)
   · have:¬aN l a=(c:Int):=oM;simp [d,this]
   · by_cases e:aN l a=(c:Int);have f:decide (aN l a < (c:Int))=false:=(by simpa using d);have g:decide (aN l a=(c:Int))=true:=(by simpa using e);rw [f,g,Bool.false_or,Bool.true_and,Bool.false_or,Bool.true_and,Bool.true_and];exact ⟨rfl,k⟩
     · simp [d,e]
def occ (l:List Nat) (a:List Nat):Nat:=(List.range l.length).countP (tP l a)
def aFp (l a):Nq l true a=Nq l false a+occ l a:=by
 unfold Nq occ;rw [<-uA _ _ _ fun b _=>(aJw l a b).2];exact List.countP_congr fun b _=>by rw [(aJw l a b).1]
end
section
open Go.RowKit
def uL {a b} (c:a.Perm b):tcells a=tcells b:=by
 refine qG _ _ (eW a) (fun e d=>?_) ?_
 · rw [dZ a d,c.count_eq]
 · rw [iV,c.length_eq]
def aD3 (b d a) (k:a < 257) (e:b.Perm (a::d)):((tcells b).setIfInBounds a (.int .i64 (((b.count a - 1:Nat)):Int))).setIfInBounds 257 (.int .i64 ((b.length - 1:Nat):Int))=tcells d:=by
 have f:=e.count_eq;have g:=e.length_eq;rw [zCg] at g;apply qG
 · simp [eW]
 · intro i j;rw [zCe oM];by_cases c:a=i
   · subst c;rw [Array.getElem?_setIfInBounds_self_of_lt (by rw [eW];omega),f a];simp
   · rw [zCe c,dZ b j,f i,List.count_cons_of_ne c]
 rw [Array.getElem?_setIfInBounds_self_of_lt (by simp [eW]),g];rfl
def aBF (a:Nat) (c x) (b:Nat) (w) (y:c.Perm (b::x)) (f:Bk w a 196 (tcells c)) (q:b < 257) (I:c.length<=1000):
 Calls prog 157 #[a,(b:Int),(-1:Int)] w fun G J=>G=.returned (.int .i64 0)/\Bk J a 196 (tcells x)/\Keep (fun g=>g=a) w J:=by
 have u:=lhd f;clear f;have a9:¬((b:Int) < 0):=oM;have aa:((b:Int) < 257):=oM;obtain ⟨d,o⟩:=eqx (c.count b);obtain ⟨n,k⟩:=eqx c.length;have ae:d<=1000:=by rw [<-o];exact zAk zBv I
 rw [k] at I;have ad:1<=d:=by rw [<-o,y.count_eq];simp
 have ac:1<=n:=by rw [<-k,y.length_eq];simp
 have A:=aD3 c x b q y;rw [o,k] at A;obtain ⟨K,v,E⟩:=hqq3 A o k;clear A o k;go_enter func157,ntmps157;go_wp2_with fail;refine (fO b _ q).mono ?_;rintro G w1 ⟨rfl,B⟩;have t:=u.out.below B u.out.lt;have U:w1.cell? ⟨a,b,none⟩=some (.int .i64 (d:Int)):=by rw [<-v.out];exact (t.cell b).trans (dZ c q)
 have V:w1.cell? ⟨a,257,none⟩=some (.int .i64 (n:Int)):=by rw [<-E.out];exact (t.cell 257).trans (iV c)
 have af:¬((-1:Int) < -(d:Int)):=oM;have ag:¬((-1:Int) > 2147483648 -(n:Int)):=oM;obtain ⟨L,N⟩:=hqq2 B t;clear B t u;go_wp2_with fail;refine wp_region_any kR ?_;refine aY [33,34,35,36,37,38,39,40,41,42,43] (fun g=>g=a) 11 [5,11] (fun i=>Bk i a 196 (tcells c)) (fun _ i=>Bk i a 196 ((tcells c).setIfInBounds b (.int .i64 ((d - 1:Nat):Int)))) [is a,is (b:Int),is a,is a,is (.pointer (some ⟨a,b,none⟩)),is (d:Int),is (.int .i64 (-1)),is (.int .i64 ((d - 1:Nat):Int)),is a,is a,is (.pointer (some ⟨a,b,none⟩)),cJ] _ _ rfl kR kR (N.out) (fun i ai f _ R=>kg f R f.lt) (fun _ _ _ f S=>kg f S f.lt) tA0 ?_ ?_
 · refine aK ?_;refine pH3 0 (.pointer (some a)) ?_;refine pH3 1 (.int .i64 (b:Int)) ?_;refine pV3 0 33 ?_;refine pV3 2 35 ?_;refine pW3 3 36 1 34 ?_;refine sC3 (fun _ C _ z _ _ _ e _ _ _ j=>?_) ?_
   · have m:=z rfl;have a0:_=_:=e 4 37 kR rfl;have Y:C.cell? ⟨a,b,none⟩=some (.int .i64 (d:Int)):=(by rw [<-v.out];exact (m.cell b).trans (dZ c q));go_simp;exact kq j rfl
   refine pH3 2 (.int .i64 (-1)) ?_;refine sC3 (fun _ _ _ _ _ _ _ e _ _ _ j=>?_) ?_
   · have a1:_=_:=e 5 38 kR rfl;have a2:_=_:=e 6 39 kR rfl;go_simp;exact j _ _ (aE bR) (cO (by rw [wI0];omega))
   refine pV3 0 33 ?_;refine pV3 8 41 ?_;refine pW3 9 42 1 34 ?_;refine sC3 (fun _ C _ z _ _ _ e _ _ _ j=>?_) ?_
   · have m:=z rfl;have a4:_=_:=e 10 43 kR rfl;have a3:_=_:=e 7 40 kR rfl;have Z:C.cell? ⟨a,b,none⟩=some (.int .i64 (d:Int)):=(by rw [<-v.out];exact (m.cell b).trans (dZ c q));have a8:=m.frozen b;go_simp;exact j (.bool true) _ (aT (ka (F:=fun g=>g=a) (kf _ _) (p:=⟨a,b,none⟩) (.inl rfl) _)) (m.set b _)
   exact aC
 · intro a6 D s e H;replace s:Keep (fun g=>g=a) w1 D:=kD s;obtain ⟨ah,r⟩:∃T,(fun _ i=>Bk i a 196 ((tcells c).setIfInBounds b (.int .i64 ((d - 1:Nat):Int)))) T D:=H 11 dC;simp only [zqq];clear e H;have X:D.cell? ⟨a,257,none⟩=some (.int .i64 (n:Int)):=(by refine (r.cell 257).trans ?_;rw [zCe oM,<-E.out];exact iV c);have a7:=r.frozen 257;have a5:(n:Int)+-1=((n - 1:Nat):Int):=oM;obtain ⟨O,M⟩:=hqq2 r s;have ab:=r.lt;clear r s;go_wp2_with fail;go_ret;refine ⟨rfl,?_,?_⟩;rw [<-K.out];exact O.out.set 257 _;exact ((kF L.out).trans M.out).setCell (.inl rfl) _
end
section
open Go.RowKit Go.Shelf
def mH (w:World) (a:List (Nat×Nat)) (e:Ending) (d:World):Prop:=
 ∃b c,e=.returned (.slice b a.length c)/\Made d w.heap.size 114 2 b a.length c (bU a)/\Below w.heap.size w d
end
section
open Go.RowKit
def kY (c:IntKind) (n:Nat) (a:Nat->Nat):Array Value:=((List.range n).map fun b=>Value.int c ((a b:Nat):Int)).toArray
def mC (b:IntKind) (n a):(kY b n a).size=n:=by simp [kY]
def gP {c:IntKind} {n b a} (d:a < n):(kY c n b)[a]?=some (.int c ((b a:Nat):Int)):=by
 unfold kY;rw [zCw,zAf,zCk d];rfl
def uC {c:IntKind} {n b a} (d:¬a < n):(kY c n b)[a]?=none:=Array.getElem?_eq_none (by rw [mC];omega)
def dH {d:IntKind} {n b c} (e:∀a,a < n->b a=c a):kY d n b=kY d n c:=by
 unfold kY;congr 1;exact List.map_congr_left fun a f=>by rw [e a (zCj.1 f)]
def mD {e:IntKind} {n f d i} (g:d < n):(kY e n f).setIfInBounds d (.int e ((i:Nat):Int))=kY e n (fun c=>if c=d then i else f c):=by
 apply Array.ext_getElem?;intro c;rw [zCd,mC];by_cases b:c < n
 · rw [gP b,gP b];by_cases a:d=c
   · subst a;rw [zBx rfl,zBx b,zBx rfl]
   · rw [zBw a,zBw (fun g=>a g.symm)]
 · rw [uC b,uC b];by_cases a:d=c
   · subst a;rw [zBx rfl,zBw b]
   · rw [zBw a]
def pK (b:IntKind) (n):Array.replicate n (Value.int b 0)=kY b n (fun _=>0):=by
 apply Array.ext_getElem?;intro c;by_cases a:c < n;rw [gP a,Array.getElem?_replicate,zBx a];rfl
 · rw [uC a,Array.getElem?_replicate,zBw a]
def aG1 (b:IntKind) (n a):(kY b n a).toList=(List.range n).map fun d=>Value.int b ((a d:Nat):Int):=rfl
@[irreducible] def cntL (c:List Nat):List Value:=(List.range 257).map fun e=>.int .i64 ((c.count e:Nat):Int)
def aBs (b) {a} (c:a < 257):(cntL b)[a]?=some (.int .i64 ((b.count a:Nat):Int)):=by
 unfold cntL;rw [zAf,zCk c];rfl
def aC3 (a):(cntL a).length=257:=by unfold cntL;simp
def aIT {w b a} (f:Bk w b 196 (tcells a)):(loadCells ⟨b,0,none⟩ 257).run prog w=.ok (cntL a).toArray w:=by
 have:=run_loadCells_list (P:=prog) w ⟨b,0,none⟩ (cntL a) (fun c i e=>by
  have g:(⟨b,0,none⟩:Addr).add c=⟨b,c,none⟩:=by unfold Addr.add;split <;> simp_all
  have d:c < 257:=by rw [<-aC3 a];exact (zAc.1 e).1
  rw [g,f.cell c,dZ a d,<-aBs a d,e])
 rw [aC3] at this;exact this
def zL {g:Oper} {b:Act} {w:World} {i:Act->World->Prop} {Q:Exit->Act->World->Prop} (a:TypeId) (k:Operand) (q:g.op=.load a k)
 (c:Addr) (u:b.eval k=.pointer (some c)) (d:Array Value) (n:Nat) (e:TypeDesc)
 (s:prog.underlying a=some e) (x:(match e with | .struct _ | .array _ _=>true | _=>false)=true) (j:(prog.info? a).map (·.size)=some n)
 (p:(loadCells c n).run prog w=.ok d w) (m:i (b.put g.dst (.agg d)) w):g.wp prog b w i Q:=by
 have t:(loadVar a c).run prog w=.ok (.agg d) w:=by
  cases f:prog.info? a with
  | none=>simp [f] at j
  | some v=>
    have r:v.size=n:=(by simpa [f] using j);have o:(isAgg a).run prog w=.ok true w:=(by unfold isAgg;rw [Sem.run_bind,run_underlying s w];cases e <;> simp_all);simp [loadVar,Sem.run_bind,o,sizeOf,typeInfo,f,r,p]
 unfold Oper.wp execOp;simp only [q,u,Instr.loadAt,Instr.sureAddr,Sem.run_bind,Sem.run_pure,Result.andThen_ok,t];exact m
def aLf (b) (a:Nat) (c:a < 257) (w):(Instr.index 194 (.agg (cntL b).toArray) (.int .i64 (a:Int))).run prog w=.ok (.int .i64 ((b.count a:Nat):Int)) w:=by
 have j:(cntL b).toArray[a]?=some (.int .i64 ((b.count a:Nat):Int)):=by rw [zCw];exact aBs b c
 have d:(0:Int)<=(a:Int)/\(a:Int) < ((257:Nat):Int):=oM;have g:=underlying194;have i:=underlying3;have f:=aBs b c;have e:(isAgg 3).run prog w=.ok false w:=by unfold isAgg;rw [Sem.run_bind,run_underlying i w];rfl
 simp [Instr.index,asIntOf,Sem.run_bind,run_underlying g w,d,Tryz.sizeOf3,c,part,e,f]
def yR (y b c d w) (o:Bk w y 196 (tcells b)) (a3:d < 257) (j:b.countP (fun a=>decide (a < d))<=c) (g:c < b.countP (fun a=>decide (a < d))+b.count d) (a2:b.length<=1000):
 Calls prog 115 #[y,(c:Int)] w fun M X=>M=.returned (.int .i64 (d:Int))/\Below w.heap.size w X:=by
 have G:=aIT o;have Y:=lhd o;clear o;have a0:decide ((c:Int) < 0)=false:=by simp
 go_enter func115,ntmps115;go_wp2_with fail;refine zL 194 (.tmp 15) rfl ⟨y,0,none⟩ rfl (cntL b).toArray 257 _ underlying194 rfl kR G ?_;have z:=fun a=>uV b a;have F:∀a,a < d->b.countP (fun e=>decide (e < a))+b.count a<=b.countP (fun e=>decide (e < d)):=fun a U=>by rw [<-z a];exact List.countP_mono_left fun e _ o=>by simp at o⊢;omega
 obtain ⟨D,J,I,C⟩:=hqq4 z F j g;clear z F j g G;have a1:c<=1000:=by
  have g:=C.out;have p:b.countP (fun a=>decide (a < d))+b.count d<=b.length:=by rw [<-D.out d];exact zBh
  omega
 simp only [Act.put,List.setIfInBounds_toArray,List.set_cons_zero,List.set_cons_succ];go_wp2_with fail;go_loopw [1,17] (fun i B wr=>∃a:Nat,a<=d/\B=.int .i64 (a:Int)/\i=.int .i64 ((c - b.countP (fun e=>decide (e < a)):Nat):Int)/\wr=w) (fun _ B _=>257 -(intOf B).toNat)
 case atStart=>exact ⟨0,by omega,rfl,by simp,rfl⟩
 case round=>
  obtain ⟨a,U,rfl,rfl,rfl⟩:=hrel;have T:=aLf b a oM;have j:=I.out;have g:=C.out;have p:=D.out a;have k:=J.out a;obtain ⟨f,u⟩:∃f,b.countP (fun e=>decide (e < d))=f:=⟨_,rfl⟩;obtain ⟨i,m⟩:∃f,b.countP (fun e=>decide (e < a))=f:=⟨_,rfl⟩;obtain ⟨H,v⟩:∃f,b.countP (fun e=>decide (e < a+1))=f:=⟨_,rfl⟩;obtain ⟨s,q⟩:=eqx (b.count a);rw [u] at j g k;rw [m] at p k;rw [v,q] at p;rw [q] at k T;by_cases V:a < d
  · have S:=k V;have t:¬c - i < s:=oM;have N:decide (c - i < s)=false:=zBy t;have E:IntKind.i64.wrap (((c - i:Nat):Int) -(s:Int))=((c - H:Nat):Int):=(by rw [wI0];omega);have O:a < 257:=oM;have R:(a:Int) < 257:=oM;rw [m];obtain ⟨x,r⟩:=eqx (c - i);obtain ⟨Z,A⟩:∃x,c - H=x:=⟨_,rfl⟩;rw [r] at t N E⊢;rw [A] at E;obtain ⟨K,L⟩:=hqq2 A v;clear j g p k S u m v q r A;go_wp2_with fail;go_roundw
    case rel=>exact ⟨a+1,by omega,by go_num,by rw [L.out,K.out],by first | rfl | trivial⟩
    case measure=>simp [intOf];omega
  · obtain rfl:a=d:=oM;rw [m];obtain rfl:f=i:=(by rw [<-u,<-m]);rw [q] at g;have t:c - f < s:=oM;have O:a < 257:=oM;have R:(a:Int) < 257:=oM;obtain ⟨x,r⟩:=eqx (c - f);rw [r] at t⊢;clear j g p k u m v q r;go_wp2_with fail;go_ret;exact ⟨rfl,kh _ _⟩
end
section
def vL (b:List UInt8) (a:Nat) (c:List UInt8):List UInt8:=b.take a++(c++b.drop a)
def aIO (a b):vL a b []=a:=by
 unfold vL;rw [List.nil_append,zAu]
def xN (a) {k} (b) (c:k<=a.length):(vL a k b).length=a.length+b.length:=by
 unfold vL;rw [zAi,zAi,zAj,zAw];omega
def aIP (b) {a} (c d) (f:a<=b.length):aV (vL b a c) (a+c.length) d=vL b a (c++ [d]):=by
 have e:(b.take a).length=a:=by rw [zAj];omega
 unfold aV vL;rw [List.take_append,List.drop_append,e,Nat.add_sub_cancel_left,List.take_append_of_le_length nL,List.take_length,List.drop_append_of_le_length nL,List.drop_length,zAg oM,List.drop_of_length_le oM];simp
def aI8 (b:List UInt8) {a c:Nat} (e:a+c < b.length):aF (b.take a++b.drop (a+c)) a=b.take a++b.drop (a+(c+1)):=by
 have d:(b.take a).length=a:=by rw [zAj];omega
 unfold aF;rw [List.take_append_of_le_length oM,zAg oM,List.drop_append,d,List.drop_of_length_le oM,show a+1 - a=1 by omega,List.nil_append,List.drop_drop];rfl
def aFU (a:List UInt8) {p j:Nat} (b:p+j<=a.length):(a.take p++a.drop (p+j)).length=a.length - j:=by
 rw [zAi,zAj,zAw];omega
def aH7 (c d:List UInt8) {b a:Nat} {e:UInt8} (f:d[a]?=some e) (g:b+a < c.length):(c.take b++(d.take a++c.drop (b+a))).set (b+a) e=c.take b++(d.take (a+1)++c.drop (b+(a+1))):=by
 have j:(c.take b).length=b:=by rw [zAj];omega
 obtain ⟨m,k⟩:=zAc.1 f;have i:(d.take a).length=a:=by rw [zAj];omega
 rw [List.set_append_right _ _ oM,j,Nat.add_sub_cancel_left,List.set_append_right _ _ oM,i,Nat.sub_self,zAx g,List.set_cons_zero,zAv,f];simp [Nat.add_assoc]
def aFB (a b:List UInt8) {p j:Nat} (d:j<=b.length) (c:p+j<=a.length):(a.take p++(b.take j++a.drop (p+j))).length=a.length:=by
 rw [zAi,zAi,zAj,zAj,zAw];omega
end
section
open Go.RowKit
def aFr (w):Calls prog 177 #[(),o0,o0] w fun a b=>a=.returned (.tuple #[])/\b=w:=by
 go_enter func177,ntmps177;go_wp2_with fail;go_loopw [6] (fun c wr=>c=.int .i64 1/\wr=w) (fun _ _=>0)
 case atStart=>exact ⟨rfl,rfl⟩
 case round=>obtain ⟨rfl,rfl⟩:=hrel;go_wp2_with fail;go_end0;exact ⟨rfl,rfl⟩
def aFo (l w):Calls prog 121 #[(),o0,o0,(l:Int)] w fun a b=>a=.returned (.tuple #[])/\b=w:=by
 go_enter func121,ntmps121;go_wp2_with fail;go_loopw [1,2] (fun c d wr=>c=.int .i64 0/\d=.int .i64 0/\wr=w) (fun _ _ _=>0)
 case atStart=>exact ⟨rfl,rfl,rfl⟩
 case round=>obtain ⟨rfl,rfl,rfl⟩:=hrel;go_wp2_with fail;refine (aFr wr).mono ?_;rintro a w1 ⟨rfl,rfl⟩;go_wp2_with fail;exact bodyPost_ret (results_none rfl _ _ _) rfl ⟨rfl,rfl⟩
def aDs (w):Calls prog 64 #[()] w fun a b=>a=.returned (.tuple #[])/\b=w:=by
 have d:Calls prog 122 #[.int .u64 0] w fun a b=>a=.returned (.int .i64 (Lib.bitLen (0:Int).toNat))/\b=w:=calls_of_every_depth fun c=>AnyS.bits_LenIn shLen c 0 w oM oM;go_enter func64,ntmps64;go_wp2_with fail;refine d.mono ?_;rintro a w1 ⟨rfl,rfl⟩;go_wp2_with fail;refine (aFo _ w1).mono ?_;rintro a e ⟨rfl,rfl⟩;go_wp2_with fail;go_end0;exact ⟨rfl,rfl⟩
def aDr (r:Nat) (x:Value) (n:Nat) (a:List Int) (w:World) (t:w.ownsRow r 3 1 x n (a.map (Value.int .i64))) (B:a.length=n) (J:n<=1000):
 ∃e f,x=.slice e n f/\Calls prog 64 #[.slice e n f] w fun b i=>b=.returned (.tuple #[])/\i.ownsRow r 3 1 (.slice e n f) n ((a.mergeSort fun p q=>decide (p<=q)).map (Value.int .i64))/\Keep (fun j=>(Value.slice e n f).ownBlock=some j) w i:=by
 subst B;rcases t.2 with ⟨k,u⟩|⟨c,s,I,k,m,o,C,A,E,F⟩;subst k;refine ⟨none,0,by rw [u],?_⟩;have G:a= []:=zBk u;subst G;refine (aDs w).mono ?_;rintro b i ⟨rfl,rfl⟩;exact ⟨rfl,by simpa using t,kf _ _⟩
 · subst k;refine ⟨_,s,rfl,?_⟩;have z:c < w.heap.size:=(zAh.1 o).1;have y:Sort.Holds (Value.int .i64) w c 0 a.toArray:=holds_of_blockI o (by rw [<-F];simp);refine (Any.slices_Sort_int shSrt c 0 s a w y z oM).mono ?_;rintro b i ⟨rfl,H,v,rfl⟩;have d:=grownBy_sortedI (w:=w) (g:=c) (n:=H) (os:=v) (a.mergeSort fun p q=>decide (p<=q)).toArray;refine ⟨rfl,ownsRow_sortedI (by simp) m o C A E,⟨d.os,d.tape,d.output,d.size,fun j m D=>d.block j m (fun b=>D b.symm)⟩⟩
end
section
open Go.RowKit Go.Shelf
attribute [local go_sem] Oper.semAt_some
section
variable {P : Program} {ops : Array Oper} {md : Region.Mode} {Q : Exit -> Act -> World -> Prop} {l n : Nat}
def aF2 {f:Oper} {e:Act} {d:Act->World->Prop} {b:Result Next} (a:f.upon P e d Q b):f.uponIn (Fence.wide.inRound l) n P e d Q b:=by
 cases b with
 | ok c w=>
   cases c with
   | value g=>exact a
   | skip=>exact a
   | defer s=>exact a
   | enter t j=>
     refine ⟨fun a=>(by simp [Fence.wide] at a),CallsIn.inRound l (callsIn_wide.2 (Calls.mono a ?_))⟩;intro o i p;cases o <;> exact p
   | row row j=>
     refine ⟨fun a=>(by simp [Fence.wide] at a),fun k m _=>?_⟩;obtain ⟨g,i,q,r⟩:=a k m;exact ⟨g,i,q,stepsIn_wide.2 r⟩
   | _=>exact a.elim
 | halt c w=>cases c <;> exact a
def aDZ (q:¬LetsOut Q) (o:∀(d:Nat) (e:Oper),ops[d]?=some e->∀m,e.op≠.defer m):∀(c:Nat) (g:Array Bool) (b:Act) (w:World),wpAny P md ops Q c g b w->wpAnyIn (Fence.wide.inRound l) n P md ops Q c g b w:=by
 intro c
 induction c with
 | zero=>intro g b w f;exact f
 | succ c j=>
   intro g b w f;refine ⟨f.1,fun d p=>?_⟩;have a:=f.2 d p;unfold wpOp at a;unfold wpOpIn;cases i:ops[d]? with
   | none=>
     rw [i] at a;exact j _ _ _ a
   | some e=>
     rw [i] at a;simp only at a⊢;by_cases k:Region.wanted e (yielded ops b.tmps)=true;rw [zBx k] at a⊢;rcases a with a | a;refine ⟨fun _ _=>trivial,?_⟩;rw [Oper.semAt_eq _ _ _ (o d e i)];exact aF2 (Oper.wp_mono (fun b w=>j _ b w) a);exact absurd a.2 q;rw [zBw k] at a⊢;exact ⟨fun _ _=>trivial,j _ _ _ a⟩
end
def KpB (b1 b2:Nat) (W b:World):Prop:=∀a:Addr,(a.block=b1∨a.block=b2)->b.cell? a=W.cell? a
def KpB.trans {b1 b2 a b c} (f:KpB b1 b2 a b) (g:KpB b1 b2 b c):KpB b1 b2 a c:=fun e d=>(g e d).trans (f e d)
def bkL (a:List UInt8) (c:Nat):List (Nat×UInt8):=(List.range c).map fun b=>(a.length - 1 - b,a.getD (a.length - 1 - b) 0)
def aJk (a b):bkL a (b+1)=bkL a b++ [(a.length - 1 - b,a.getD (a.length - 1 - b) 0)]:=by simp [bkL,List.range_succ]
def aKt (b a):(bkL b a).length=a:=by simp [bkL]
def aCa (r:Fence) (n) (a0:r.fn 176) (a2:r.round=none) (aa:1<=n) (l i m y V z b) (C:0 < b.length->z=some ⟨m,y,none⟩) (a1:b.length<=1000000) (k A:List (Nat×UInt8)->World->Prop) (F:∀f g W,k f W->f.length < b.length->YieldAt r (n - 1) prog l #[(g.1:Int),.int .u8 (g.2.toNat:Int)] W fun d e=>
  (d=.returned (.bool true)/\k (f++ [g]) e/\KpB i m W e)∨(d=.returned (.bool false)/\A (f++ [g]) e)) (W) (t:W.cell? i=some (.slice z b.length V)) (G:∀a,a < b.length->W.cell? ⟨m,y+a,none⟩=some (.int .u8 ((b.getD a 0).toNat:Int))) (B:k [] W):
 CallsIn r n prog 176 #[.func (.yield l) #[] #[],i] W fun d e=>(∃a4,d=.returned a4)/\
  ((∃J,J=bkL b b.length/\k J e)∨(∃f,True/\A f e)):=by
 obtain ⟨c,v⟩:=eqx b.length;rw [v] at t a1;obtain ⟨L,j,O,S,M,K⟩:=hqq6 C v F G t B;clear v F G B C;refine callsIn_of_wp func176 rfl a0 ?_ a2;simp only [ntmps176,List.size_toArray,zCg,List.length_nil,Nat.reduceAdd,Nat.reduceSub,Array.replicate_succ,Array.replicate_zero,List.push_toArray,List.append_toArray,List.nil_append,List.cons_append]
 gi_wp2
 clear t
 gi_loopw [3] (fun x wr=>∃q:Nat,q<=c/\x=.int .i64 ((q:Int) - 1)/\k (bkL b (c - q)) wr/\KpB i m W wr) (fun x _=>(intOf x+1).toNat)
 case atStart=>exact ⟨c,zAs _,rfl,by rw [Nat.sub_self];exact K.out,fun _ _=>rfl⟩
 case round=>
  obtain ⟨q,ab,rfl,o,p⟩:=hrel;rcases q with _ | a
  · have d:((0:Nat):Int) - 1=-1:=oM;rw [d];rw [Nat.sub_zero] at o;have N:=lhd o;clear o p
    gi_wp2
    go_end0;exact ⟨⟨_,rfl⟩,.inl ⟨_,rfl,by rw [j.out];exact N.out⟩⟩
  · have d:((a+1:Nat):Int) - 1=(a:Int):=oM;rw [d];have u:bkL b (c - a)=bkL b (c -(a+1))++ [(a,b.getD a 0)]:=(by rw [show c - a=(c -(a+1))+1 by omega,aJk,j.out,show c - 1 -(c -(a+1))=a by omega]);have Y:=(p ⟨i,0,none⟩ (.inl rfl)).trans M.out;rw [L.out (by rw [j.out];omega)] at Y;have Z:=(p ⟨m,y+a,none⟩ (.inr rfl)).trans (S.out a (by rw [j.out];omega));have a9:a < c:=oM;obtain ⟨g,I⟩:=eqx (b.getD a 0);rw [I] at Z u;obtain ⟨a8,ac,a6,a7,a3,X⟩:=O.out (bkL b (c -(a+1))) (a,g) wr o (by rw [aKt,j.out];omega);dsimp only at a3;obtain ⟨R,T⟩:=hqq2 u p;clear u p o d I
    gi_wp2
    refine X.mono ?_;rintro d a5 (⟨rfl,D,H⟩|⟨rfl,E⟩)
    · obtain ⟨s,U⟩:=hqq2 D H;clear D H
      gi_wp2
      go_roundw
      case rel=>exact ⟨a,by omega,rfl,by rw [R.out];exact s.out,T.out.trans U.out⟩
      case measure=>simp [intOf]
    · have s:=lhd E;clear E
      gi_wp2
      refine bodyPost_ret (results_none rfl _ _ _) rfl ?_;exact ⟨⟨_,rfl⟩,.inr ⟨_,trivial,s.out⟩⟩
end
section
open Go.RowKit
def aIv (l e):∀c,tP l e c=true↔∀(a d:Nat),e[a]?=some d->aN l (c+a)=(d:Int):=by
 induction e with
 | nil=>intro c;exact ⟨fun _ a d b=>by simp at b,fun _=>rfl⟩
 | cons k e j=>
   intro c;rw [aAB,zBd,zCa,j];constructor
   · rintro ⟨f,g⟩ a d b;rcases a with _ | a;simp at b;subst b;exact f
     · have:=g a d (by simpa using b);rwa [show c+(a+1)=c+1+a by omega]
   · intro b;refine ⟨b 0 k (by simp),fun a d i=>?_⟩;have:=b (a+1) d (by simpa using i);rwa [show c+1+a=c+(a+1) by omega]
def pM (d) {c a} (b:d[c]?=some a):aN (aJ d) c=((a.toNat+1:Nat):Int):=by
 have e:=(zAc.1 b).1;refine lI ?_;unfold aJ dI;rw [zAn (by simpa using e),zAf,b];rfl
def aEv (c k d):tP (aJ c) (dI k) d=true↔∀(a:Nat) (b:UInt8),k[a]?=some b->c[d+a]?=some b:=by
 rw [aIv];constructor
 · intro f a b g;have:=f a (b.toNat+1) (by unfold dI;rw [zAf,g];rfl);cases j:c[d+a]? with
   | none=>
     exfalso;have o:=List.getElem?_eq_none_iff.1 j;rcases Nat.eq_or_lt_of_le o with e | e
     · have:aN (aJ c) (d+a)=0:=by
         rw [lI (x:=0)];rfl
         · unfold aJ dI;rw [zAo (by simp;omega)];simp [e]
       omega
     have:aN (aJ c) (d+a)=-1:=nM (by rw [aR];omega);omega
   | some m=>
     rw [pM c j] at this;have e:m.toNat=b.toNat:=oM;rw [UInt8.toNat_inj.1 e]
 intro f a p i;unfold dI at i;rw [zAf] at i;obtain ⟨b,g,rfl⟩:=Option.map_eq_some_iff.1 i;exact pM c (f a b g)
end
section
def oW {a b:Nat} (c:a≠b):((a:Int)==(b:Int))=false:=by rw [zCb];omega
def uP {a b:List Nat} {c n:Nat} (e:a.length=n) (f:b.length=n) (d:a.take c=b.take c) (g:n<=c):a=b:=by
 rw [zAg oM,zAg oM] at d;exact d
end
section
open Go.RowKit
section
variable {w W : World}
def dW {a g i j k b c d e} (f:Bk W a 41 #[g,i,j,k]):
 Bk ((((W.setCell a b).setCell ⟨a,1,none⟩ c).setCell ⟨a,2,none⟩ d).setCell ⟨a,3,none⟩ e) a 41 #[b,c,d,e]:=by
 have:=(((f.set 0 b).set 1 c).set 2 d).set 3 e;simpa using this
def jJ {a v0 v1 v2 v3} (b:w.heap.size<=a):Below w.heap.size w W->Below w.heap.size w ((((W.setCell a v0).setCell ⟨a,1,none⟩ v1).setCell ⟨a,2,none⟩ v2).setCell ⟨a,3,none⟩ v3):=
 fun c=>(((c.setCell (p:=a) b v0).setCell (p:=⟨a,1,none⟩) b v1).setCell (p:=⟨a,2,none⟩) b v2).setCell (p:=⟨a,3,none⟩) b v3
def lY {c a v0 v1 v2 v3} (b:w.heap.size<=a):Keep c w W->Keep c w ((((W.setCell a v0).setCell ⟨a,1,none⟩ v1).setCell ⟨a,2,none⟩ v2).setCell ⟨a,3,none⟩ v3):=
 fun d=>(((d.setCell (p:=a) (.inr b) v0).setCell (p:=⟨a,1,none⟩) (.inr b) v1).setCell (p:=⟨a,2,none⟩) (.inr b) v2).setCell (p:=⟨a,3,none⟩) (.inr b) v3
def iO {s v0 v1 v2 v3}:Keep (fun a=>a=s) W ((((W.setCell s v0).setCell ⟨s,1,none⟩ v1).setCell ⟨s,2,none⟩ v2).setCell ⟨s,3,none⟩ v3):=
 ((((kf (fun a=>a=s) W).setCell (p:=s) (.inl rfl) v0).setCell (p:=⟨s,1,none⟩) (.inl rfl) v1).setCell (p:=⟨s,2,none⟩) (.inl rfl) v2).setCell (p:=⟨s,3,none⟩) (.inl rfl) v3
end
def aAD (b d i n j):Stb (iC b d i n j):=fun _ _ _ ⟨a,c,e,f⟩ g=>⟨a,c,e,f.below g⟩
end
end Go.Proofs.YtecdldbdednahaaGreatDoor
