/- Lemmas of the walk. Conditions: each its own. -/
import Derived.Test.YtcfpmjbojoidoaaGreatDoorPd9
import Derived.Test.YtcfpmjbojoidoaaGreatDoorPd10
import Derived.Test.YtcfpmjbojoidoaaGreatDoorProg
import Derived.Test.YtcfpmjbojoidoaaGreatDoorShl
import Derived.Test.YtcfpmjbojoidoaaGreatDoorSht
set_option linter.all false
set_option maxRecDepth 100000
set_option maxHeartbeats 4000000
open Go.Proofs.Tryz
namespace Go.Proofs.YtcfpmjbojoidoaaGreatDoor
section
open Go.RowKit
def tG:(prog.info? 5).map (fun a=>(a.zero,a.size,a.bytes))=some (some (.int .u8 0),1,1):=by kernel_rfl
def aHM (a:Nat) (b:World) (s:a<=1099511627776):
 Calls prog 50 #[.slice none 0 0,(a:Int)] b fun k g=>∃f,k=.returned f/\g.ownsRow b.heap.size 5 1 f 0 []/\Below b.heap.size b g:=by
 obtain ⟨p,l,n,t,o⟩:=info_parts tG;rcases zBa a with c | c
 · subst c;go_enter func50,ntmps50;go_wp2;go_ret;exact ⟨_,rfl,World.ownsRow_nil _ _ _ _,Below.refl _ _⟩
 · have d:=Lib.run_append_nil_zeros (P:=prog) b 34 3 34 5 p (.int .u8 0) .i64 .i64 underlying34 underlying3 l n a c oM oM (by rw [o];omega);have r:=grownCap_ge b a 0 5;have m:=grownCap_le_maxLen b a 0 5 (by unfold maxLen;omega);generalize grownCap b a 0 5=cp at*
   have e:(Builtin.zeroCells (Value.int .u8 0).cells a++Builtin.zeroCells (Value.int .u8 0).cells (cp - a)).size=cp*1:=(by simp [Builtin.zeroCells,Value.cells];omega);obtain ⟨j,i⟩:=hqq2 e d;clear e d;have q:¬((a:Int) < 0):=oM;go_enter func50,ntmps50;go_wp2_with (at_builtin;refine Lib.wpList_append_run _ rfl (.tmp 20) (.tmp 21) _ _ rfl _ _ rfl rfl _ _ i.out ?_);go_ret;exact ⟨_,rfl,World.ownsRow_made _ _ _ nL m j.out,bR.drew.alloc nL _⟩
structure Sl where
 A:Option Addr
 n:Nat
 c:Nat
 l:List UInt8
def slV (a:Sl):Value:=.slice a.A a.n a.c
def gE (a:List Sl):List UInt8:=a.flatMap (·.l)
def zD (b:List Sl) (a:Nat) (c:Sl) (d:b[a]?=some c):gE (b.take (a+1))=gE (b.take a)++c.l:=by
 rw [zAv,d];simp [gE]
def aAB (a:List Sl) (b:Nat):(gE (a.take b)).length<=(gE a).length:=by
 have:gE a=gE (a.take b)++gE (a.drop b):=by unfold gE;rw [<-List.flatMap_append,zAu]
 rw [this,zAi];omega
def lM (I:Option Addr) (f a0 v:Nat) (d:List Sl) (x:List UInt8) (o:Nat) (z:gE d=x) (R:x.length=o) (g:World) (E:Rd g v 1 I f (d.map slV)) (F:∀b∈d,Rd g v 1 b.A b.n (b.l.map bv)) (Q:v<=g.heap.size) (al:f<=1099511627776) (a9:o<=1099511627776):
 Calls prog 23 #[.slice I f a0] g fun P X=>∃t u,P=.returned (.slice t o u)/\Made X g.heap.size 5 1 t o u (x.map bv)/\Below g.heap.size g X:=by
 obtain ⟨ah,a6,ae,af,ag⟩:=info_parts tG;have S:d.length=f:=by simpa using E.1
 have T:∀a,(gE (d.take a)).length<=1099511627776:=fun a=>by have:=aAB d a;rw [z] at this;omega
 have V:∀a b,d[a]?=some b->b.l.length=b.n/\(gE (d.take (a+1))).length=(gE (d.take a)).length+b.n:=fun a b e=>by
  have p:=(F b (zAd e)).1;have i:b.l.length=b.n:=by simpa using p
  rw [zD d a b e,zAi,i];exact ⟨rfl,rfl⟩
 obtain ⟨m,M,O,N,Y,K,J⟩:=hqq7 S T V (E.mono Q) (fun b e=>(F b e).mono Q) z R;clear S T V E F z R;go_enter func23,ntmps23;go_wp2;go_loopw [3,11] (fun H k wr=>∃a:Nat,a<=f/\k=.int .i64 a/\H=.int .i64 ((gE (d.take a)).length:Int)/\g=wr) (fun _ k _=>f -(intOf k).toNat)
 case atStart=>exact ⟨0,zAp _,rfl,by simp [gE],rfl⟩
 case round=>
  obtain ⟨a,a7,rfl,rfl,rfl⟩:=hrel;by_cases D:a < f
  · obtain ⟨b,e⟩:∃b,d[a]?=some b:=⟨d[a]'(by have:=m.out;omega),zAa (by have:=m.out;omega)⟩;obtain ⟨Z,ai,aj,rfl,a3,j,B⟩:=N.out.get D;rw [zAf,e] at j;simp at j;subst j;unfold slV at B;obtain ⟨p,i⟩:=O.out a b e;have y:=M.out (a+1);generalize U:(gE (d.take a)).length=G at*
    have w:=lhd i;rw [i] at y;clear p i e U;have am:¬((G:Int)+(b.n:Int) < 0):=oM;go_wp2;go_roundw
    case rel=>exact ⟨a+1,by omega,by go_num,by rw [w.out];go_num,trivial⟩
    case measure=>simp [intOf];omega
  · have C:a=f:=oM;have a5:f<=a:=oM;have s:d.take a=d:=zAg (by have:=m.out;omega);rw [s,K.out,J.out];clear C s;go_wp2_with fail;refine (aHM o _ a9).mono ?_;rintro P w1 ⟨an,rfl,aa,a2⟩;go_wp2_with fail;go_loopw [6,27] (fun H k wr=>∃a:Nat,a<=f/\k=.int .i64 a/\wr.ownsRow g.heap.size 5 1 H (gE (d.take a)).length ((gE (d.take a)).map bv)/\Below g.heap.size g wr) (fun _ k _=>f -(intOf k).toNat)
    case atStart=>exact ⟨0,zAp _,rfl,aa,a2⟩
    case round=>
        obtain ⟨a,a7,rfl,r,q⟩:=hrel;have W:=q.size;by_cases D:a < f
        · obtain ⟨b,e⟩:∃b,d[a]?=some b:=⟨d[a]'(by have:=m.out;omega),zAa (by have:=m.out;omega)⟩;obtain ⟨Z,ai,aj,rfl,a3,j,B⟩:=(N.out.below q).get D;rw [zAf,e] at j;simp at j;subst j;unfold slV at B;have ac:=lhd ((Y.out b (zAd e)).below q);obtain ⟨p,i⟩:=O.out a b e;have y:=M.out (a+1);obtain ⟨ad,w⟩:=hqq2 (zD d a b e) i;generalize U:(gE (d.take a)).length=G at*
          rw [i] at y;have L:=lhd r;clear p i e r;go_wp2_with (at_builtin;refine bQ _ rfl (.tmp 31) (.tmp 32) _ rfl g.heap.size 5 ah (.int .u8 0) 1 1 underlying34 a6 ae af ag rfl dC _ G _ rfl L.out g.heap.size b.A b.n b.c _ rfl ac.out (kX _) (by unfold maxLen;omega) oM W ?_;intro ao ap ab a4 ak);have a1:=bG q L.out a4 W;go_roundw
          case rel=>refine ⟨a+1,by omega,by go_num,?_,a1⟩;rw [w.out,ad.out,zAz];exact ab
          case measure=>simp [intOf];omega
        · have C:a=f:=oM;have a5:f<=a:=oM;have s:d.take a=d:=zAg (by have:=m.out;omega);rw [s,K.out,J.out] at r;obtain ⟨t,u,rfl,a8⟩:=aU r;clear C s r;go_wp2;go_ret;exact ⟨t,u,rfl,a8,q⟩
def lF (a b:Nat) (e:a < 4294967296) (f:b < 4294967296):bits .xor .u32 (a:Int) (b:Int)=((a ^^^ b:Nat):Int):=by
 have g:a ^^^ b < 2 ^ 32:=Nat.xor_lt_two_pow oM oM;have c:(BitVec.ofInt 32 (a:Int)).toNat=a:=by rw [BitVec.ofInt_natCast,BitVec.toNat_ofNat];exact zBu oM
 have d:(BitVec.ofInt 32 (b:Int)).toNat=b:=by rw [BitVec.ofInt_natCast,BitVec.toNat_ofNat];exact zBu oM
 show IntKind.u32.wrap ((BitVec.ofInt 32 (a:Int)^^^ BitVec.ofInt 32 (b:Int)).toNat:Int)=_;rw [BitVec.toNat_xor,c,d,IntKind.wrap_u32];omega
def aB4 (a b:Nat) (e:a < 256) (f:b < 256):bits .xor .u8 (a:Int) (b:Int)=((a ^^^ b:Nat):Int):=by
 have g:a ^^^ b < 2 ^ 8:=Nat.xor_lt_two_pow oM oM;have c:(BitVec.ofInt 8 (a:Int)).toNat=a:=by rw [BitVec.ofInt_natCast,BitVec.toNat_ofNat];exact zBu oM
 have d:(BitVec.ofInt 8 (b:Int)).toNat=b:=by rw [BitVec.ofInt_natCast,BitVec.toNat_ofNat];exact zBu oM
 show IntKind.u8.wrap ((BitVec.ofInt 8 (a:Int)^^^ BitVec.ofInt 8 (b:Int)).toNat:Int)=_;rw [BitVec.toNat_xor,c,d,IntKind.wrap_u8];omega
def aAE (a:Nat) (d:a < 4294967296):bits .and .u32 (a:Int) 1=((a % 2:Nat):Int):=by
 have b:(BitVec.ofInt 32 (a:Int)).toNat=a:=by rw [BitVec.ofInt_natCast,BitVec.toNat_ofNat];exact zBu oM
 show IntKind.u32.wrap ((BitVec.ofInt 32 (a:Int)&&& BitVec.ofInt 32 (1:Int)).toNat:Int)=_;rw [BitVec.toNat_and,b];have c:(BitVec.ofInt 32 (1:Int)).toNat=1:=dC;rw [c,IntKind.wrap_u32,Nat.and_one_is_mod];omega
def aCF (a:Nat) (i:a < 4294967296) (d:World):
 Calls prog 198 #[.int .u32 (a:Int),.bool false] d fun e j=>e=.returned (.int .u32 ((lE a:Nat):Int))/\Below d.heap.size d j:=by
 have k:=aAE a i;go_enter func198,ntmps198;go_wp2_with fail
 · go_ret;refine ⟨?_,Below.refl _ _⟩
   rename_i b
   have c:a % 2=1:=(by have:=eq_of_beq b;omega);have f:((a:Int)/ 2)=((a / 2:Nat):Int):=oM;have g:(3988292384:Int)=((3988292384:Nat):Int):=rfl;show Ending.returned (Value.int .u32 (bits .xor .u32 ((a:Int)/ 2) 3988292384))=_;rw [f,g,lF _ _ oM oM,lE,zBx c]
 · go_ret;refine ⟨?_,Below.refl _ _⟩
   rename_i b
   have c:¬a % 2=1:=(by intro l;have:((a:Int)% 2==1)=true:=zCq.2 oM;rw [this] at b;cases b);show Ending.returned (Value.int .u32 ((a:Int)/ 2))=_;rw [lE,zBw c];rfl
def xC (b c:Nat):Nat->Nat:=fun a=>if a < b then jD a else if a=b then c else 0
def aGg (b f e:Nat):(fun c=>if c=b then e else xC b f c)=xC b e:=by
 funext c;unfold xC;by_cases a:c=b
 · rw [zBx a,zBw oM,zBx a]
 · rw [zBw a];by_cases d:c < b
   · rw [zBx d,zBx d]
   · rw [zBw d,zBw d,zBw a,zBw a]
def aEM (a:Nat):xC a (jD a)=xC (a+1) 0:=by
 funext p;unfold xC;by_cases b:p < a
 · rw [zBx b,zBx oM]
 · rw [zBw b];by_cases c:p=a
   · subst c;rw [zBx rfl,zBx oM]
   · rw [zBw c,zBw oM];split <;> rfl
@[irreducible] def crcC:Array Value:=jJ .u32 256 jD
@[irreducible] def tabC (a d:Nat):Array Value:=jJ .u32 256 (xC a d)
def aBg {a d b:Nat} (c:a < 256):(tabC a d).setIfInBounds a (.int .u32 (b:Int))=tabC a b:=by
 unfold tabC;rw [kN c,aGg]
def tZ {a b:Nat} (c:a < 256):(tabC a b)[a]?=some (.int .u32 (b:Int)):=by
 unfold tabC;rw [fH c];unfold xC;rw [zBw oM,zBx rfl]
def aEO (a:Nat):tabC a (qG 8 a)=tabC (a+1) 0:=by
 unfold tabC;rw [<-aEM];rfl
def yO:Array.replicate 256 (Value.int .u32 0)=tabC 0 0:=by
 unfold tabC;rw [nM];exact cW fun b a=>by unfold xC;rw [zBw oM];split <;> rfl
def aGh (b:Nat):tabC 256 b=crcC:=by
 unfold tabC crcC;exact cW fun c a=>by unfold xC;rw [zBx a]
def aHs {a:Nat} (b:a < 256):crcC[a]?=some (.int .u32 ((jD a:Nat):Int)):=by
 unfold crcC;exact fH b
def nK:crcC.size=256:=by unfold crcC;exact kM _ _ _
def aEN (a b:Nat):(tabC a b).size=256:=by unfold tabC;exact kM _ _ _
def aEK {b a:World} {d:Array Value} {c:Nat} (j:d.getD 0 undef=.pointer (some c)) (g:Bk a c 169 crcC) (k:(prog.info? 169).map (·.size)=some crcC.size) (i:Below b.heap.size b a):
 bodyPost prog f128 (fun e a=>e=.returned (.agg crcC)/\Below b.heap.size b a) .ret ⟨d, []⟩ a:=
 bodyPost_ret (results_cell_row (P:=prog) (fn:=f128) (p:=0) (ty:=169) rfl d a c 169 crcC (0,0) _ j g underlying169 rfl k) rfl ⟨rfl,i⟩
def aIE (a:Nat) (d:a < 4294967296):bits .xor .u32 IntKind.u32.max (a:Int)=((4294967295 - a:Nat):Int):=by
 have b:IntKind.u32.max=((4294967295:Nat):Int):=dC;rw [b,lF _ _ oM d];congr 1;have c:(4294967295:Nat)^^^ a=(BitVec.allOnes 32 ^^^ BitVec.ofNat 32 a).toNat:=by rw [BitVec.toNat_xor,BitVec.toNat_ofNat,zBu (by omega:a < 2 ^ 32)];rfl
 rw [c,BitVec.allOnes_xor,BitVec.toNat_not,BitVec.toNat_ofNat,zBu (by omega:a < 2 ^ 32)]
def aA5 (b:World):
 Calls prog 128 #[] b fun t C=>t=.returned (.agg crcC)/\Below b.heap.size b C:=by
 go_enter func128,ntmps128;go_wp2_with fail;go_loopw [3] (fun d wr=>∃(a:Nat) (j:Nat),a<=256/\d=.int .i64 (a:Int)/\Bk wr b.heap.size 169 (tabC 0 0)/\Bk wr (b.heap.size+1) 169 (tabC a j)/\(a < 256->j=0)/\Below b.heap.size b wr) (fun d _=>256 -(intOf d).toNat)
 case atStart=>refine ⟨0,0,by omega,rfl,?_,?_,fun _=>rfl,?_⟩;rw [<-yO];exact (Bk.new _ _ _).alloc _;rw [<-yO];have u:=Bk.new (b.alloc (.cells Tryz.zeroCells169 169)) 169 Tryz.zeroCells169;rw [show (b.alloc (.cells Tryz.zeroCells169 169)).heap.size=b.heap.size+1 by simp] at u;exact u;exact (bR.alloc nL _).alloc (by simp) _
 case round=>
  obtain ⟨a,j,M,rfl,l,e,i,v⟩:=hrel;by_cases f:a < 256
  · have B:=i f;subst B;have J:((a:Int) < 256):=oM;have E:wr.cell? ⟨b.heap.size+1,a,none⟩=some (.int .u32 0):=(e.cell a).trans (tZ f);have H:=e.frozen a;go_wp2_with fail;go_loopw [10] (fun d r=>∃c:Nat,c<=8/\d=.int .i64 (c:Int)/\Bk r b.heap.size 169 (tabC 0 0)/\Bk r (b.heap.size+1) 169 (tabC a (qG c a))/\Below b.heap.size b r) (fun d _=>8 -(intOf d).toNat)
    case atStart=>refine ⟨0,by omega,rfl,l.far (by simp) _,?_,v.setCell (by simp) _⟩;have:=e.set a (.int .u32 (a:Int));rw [aBg f] at this;exact this
    case round=>
        obtain ⟨c,K,rfl,o,g,n⟩:=hrel;by_cases N:c < 8
        · have L:((c:Int) < 8):=oM;have F:wr.cell? ⟨b.heap.size+1,a,none⟩=some (.int .u32 ((qG c a:Nat):Int)):=(g.cell a).trans (tZ f);go_wp2_with fail;refine (aCF (qG c a) (vK oM c) _).mono ?_;rintro t D ⟨rfl,m⟩;have p:=g.below m g.lt;have A:=o.below m o.lt;have G:D.cell? ⟨b.heap.size+1,a,none⟩=some (.int .u32 ((qG c a:Nat):Int)):=(p.cell a).trans (tZ f);have I:=p.frozen a;go_wp2_with fail;go_roundw
          case rel=>refine ⟨c+1,by omega,by go_num,A.far (by simp) _,?_,(n.trans (m.mono n.size)).setCell (by simp) _⟩;have:=p.set a (.int .u32 ((lE (qG c a):Nat):Int));rw [aBg f] at this;exact this
          case measure=>simp [intOf];omega
        · have q:c=8:=oM;subst q;go_wp2_with fail;go_roundw
          case rel=>rw [aEO] at g;exact ⟨a+1,0,by omega,by go_num,o,g,fun _=>rfl,n⟩
          case measure=>simp [intOf];omega
  · have q:a=256:=oM;subst q;rw [aGh] at e;obtain ⟨s,y⟩:=hqq2 l e;clear l e;have x:(prog.info? 169).map (·.size)=some crcC.size:=(by rw [nK];kernel_rfl);have w:crcC.all (·.oneCell')=true:=(by unfold crcC jJ;rw [Array.all_eq_true_iff_forall_mem];intro j i;rw [List.mem_toArray,zAy] at i;obtain ⟨O,_,rfl⟩:=i;rfl);obtain ⟨k,z⟩:=hqq2 x w;clear x w;go_wp2_with (first |(refine wpList_load_row (P:=prog) rfl 169 (.tmp 1) rfl (b.heap.size+1) rfl 169 crcC (0,0) _ y.out underlying169 rfl k.out ?_)|(refine wpList_store_row (P:=prog) rfl 169 (.tmp 0) (.tmp 20) rfl b.heap.size crcC rfl rfl 169 (tabC 0 0) s.out k.out (by rw [aEN,nK]) z.out ?_));exact aEK rfl (setRow_heap wr b.heap.size _ crcC _ _ s.out) k.out (below_setRow v nL _)
def aCG (d:Nat) (H:d < 4294967296) (q:Option Addr) (f C:Nat) (b:List UInt8) (g:World) (o:Rd g g.heap.size 1 q f (b.map bv)) (T:f<=1099511627776):
 Calls prog 74 #[.int .u32 (d:Int),.slice q f C] g fun r L=>r=.returned (.int .u32 ((aAw d b:Nat):Int))/\Below g.heap.size g L:=by
 have R:b.length=f:=by have:=o.1;simpa using this
 have z:=lhd o;clear o;have w:(prog.info? 169).map (·.size)=some crcC.size:=by rw [nK];kernel_rfl
 have v:crcC.all (·.oneCell')=true:=by unfold crcC jJ;rw [Array.all_eq_true_iff_forall_mem];intro c j;rw [List.mem_toArray,zAy] at j;obtain ⟨V,_,rfl⟩:=j;rfl
 obtain ⟨B,A⟩:=hqq2 w v;clear w v;go_enter func74,ntmps74;go_wp2_with fail;refine (aA5 _).mono ?_;rintro r w1 ⟨rfl,t⟩;go_wp2_with (refine wpList_store_row (P:=prog) rfl 169 (.tmp 5) (.tmp 8) rfl w1.heap.size crcC rfl rfl 169 Tryz.zeroCells169 (heap_alloc_new _ _) B.out (by rw [nK];kernel_rfl) A.out ?_;rw [World.setRow_alloc_new]);rw [aIE d H];have F:=t.size;go_loopw [0,13] (fun c p wr=>∃a:Nat,a<=f/\p=.int .i64 (a:Int)/\c=.int .u32 ((sS (b.take a) (4294967295 - d):Nat):Int)/\Bk wr w1.heap.size 169 crcC/\Below g.heap.size g wr) (fun _ p _=>f -(intOf p).toNat)
 case atStart=>exact ⟨0,by omega,rfl,by rw [List.take_zero];rfl,Bk.new _ _ _,t.alloc F _⟩
 case round=>
  obtain ⟨a,S,rfl,rfl,u,m⟩:=hrel;by_cases G:a < f
  · obtain ⟨M,U,W,rfl,Q,i,D⟩:=(z.out.below m).get G;rw [zAf] at i;obtain ⟨e,y⟩:∃e,b[a]?=some e:=⟨_,zAa oM⟩;rw [y] at i;injection i with i;subst i;have I:b.take (a+1)=b.take a++ [e]:=(by rw [zAv,y];rfl);have l:=vL (b.take a) e (4294967295 - d);rw [<-I] at l;have x:=qH (b.take a) (4294967295 - d) oM;obtain ⟨c,j⟩:=eqx (sS (b.take a) (4294967295 - d));rw [j] at l x;rw [j];have n:=aHr x e;have J:=e.toNat_lt;have s:bits .xor .u8 ((c:Int)% 256) (e.toNat:Int)=(((c % 256)^^^ e.toNat:Nat):Int):=(by have:((c:Int)% 256)=((c % 256:Nat):Int):=oM;rw [this,aB4 _ _ oM J]);obtain ⟨k,K⟩:=eqx ((c % 256)^^^ e.toNat);rw [K] at l n s;have N:wr.cell? ⟨w1.heap.size,k,none⟩=some (.int .u32 ((jD k:Nat):Int)):=(u.cell k).trans (aHs n);have O:bits .xor .u32 ((jD k:Nat):Int) ((c:Int)/ 256)=((jD k ^^^(c / 256):Nat):Int):=(by have:((c:Int)/ 256)=((c / 256:Nat):Int):=oM;rw [this,lF _ _ (zC n) oM]);unfold bv at D;go_wp2_with fail;go_roundw
    case rel=>exact ⟨a+1,by omega,by go_num,by rw [l],u,m⟩
    case measure=>simp [intOf];omega
  · have E:a=f:=oM;subst E;rw [zAg (by omega:b.length<=a)];have s:=aIE _ (qH b (4294967295 - d) oM);go_wp2_with fail;go_ret;exact ⟨rfl,m⟩
def sH (e m:Option Addr) (d g q:Nat) (f:List UInt8) (a:World) (v:Rd a a.heap.size 1 e d (f.map bv)) (t:d<=1099511627776) (u:Rd a a.heap.size 1 m 1 [.slice e d g]):
 Calls prog 41 #[.slice m 1 q] a fun n y=>n=.returned (.int .u32 ((mF f:Nat):Int))/\Below a.heap.size a y:=by
 obtain ⟨p,w,B,rfl,s,j,o⟩:=u.get (k:=0) oM;injection j with j;subst j;go_enter func41,ntmps41;go_wp2_with fail;go_loopw [3,8] (fun x l wr=>∃b:Nat,b<=1/\l=.int .i64 (b:Int)/\x=.int .u32 (((if b=0 then 0 else mF f):Nat):Int)/\Below a.heap.size a wr) (fun _ l _=>1 -(intOf l).toNat)
 case atStart=>exact ⟨0,by omega,rfl,rfl,Below.refl _ _⟩
 case round=>
  obtain ⟨b,z,rfl,rfl,c⟩:=hrel;by_cases A:b < 1
  · have i:b=0:=oM;subst i;have o:wr.cell? ⟨p,w,none⟩=some (.slice e d g):=(c.cell s).trans o;rw [zBx rfl];go_wp2_with fail;refine (aCG 0 oM e d g f wr ((v.below c).mono c.size) t).mono ?_;rintro n w1 ⟨rfl,r⟩;go_wp2_with fail;go_roundw
    case rel=>exact ⟨1,by omega,rfl,rfl,c.trans (r.mono c.size)⟩
    case measure=>simp [intOf]
  · have i:b=1:=oM;subst i;rw [zBw oM];go_wp2_with fail;go_ret;exact ⟨rfl,c⟩
def qQ (e:Option Addr) (a j v:Nat) (b:List UInt8) (c:World) (q:Rd c v 1 e a (b.map bv)) (Z:v<=c.heap.size) (a5:a<=1000000):
 Calls prog 126 #[.slice e a j] c fun f P=>∃s C,f=.returned (.slice s (dJ b).length C)/\Made P c.heap.size 5 1 s (dJ b).length C ((dJ b).map bv)/\Below c.heap.size c P:=by
 have p:b.length=a:=by have:=q.1;simpa using this
 obtain ⟨k0,m⟩:=eqx ((bP a).length);have a4:k0<=11:=by rw [<-m];exact cY a
 obtain ⟨B,k⟩:=eqx ((dJ b).length);have a2:B<=2000000:=by rw [<-k,iR,p,m];omega
 obtain ⟨Q,W,S,U⟩:=hqq4 (q.mono Z) m k p;have a3:=aEw b;rw [k];clear q m k p;go_enter func126,ntmps126;go_wp2_with fail;refine (wQ _ _ _ _ [a] _ (bP a) k0 (oL a) W.out (Rd.made _ _ 1 1 _ rfl) nL (by simp;omega) oM).mono ?_;rintro f w1 ⟨t,D,rfl,J,F⟩;have l:=((Below.refl c.heap.size c).alloc nL _).trans (F.mono (by simp));have M:=J.rd;obtain ⟨n,z,x⟩:=hqq3 (Q.out.below l) M l;have r:=l.size;clear J F l M;go_wp2_with fail;refine (sH e _ a j _ b _ (((n.out.alloc r _).mono (by simp;omega))) oM (Rd.made _ _ 1 1 _ rfl)).mono ?_;rintro f a9 ⟨rfl,G⟩;have g:=((Below.refl w1.heap.size w1).alloc nL _).trans (G.mono (by simp));obtain ⟨w,A,y⟩:=hqq3 (n.out.below (g.mono r)) (z.out.below g) (x.out.trans (g.mono r));have a6:=g.size;clear g G n z x;go_wp2_with fail;refine (zN (mF b) _).mono ?_;rintro f d ⟨u,E,rfl,K,i⟩;have N:=K.rd;obtain ⟨R,Y,V,o⟩:=hqq4 (w.out.below (i.mono oM)) (A.out.below (i.mono oM)) N (y.out.trans (i.mono oM));have a7:=i.size;clear i K N w A y;go_wp2_with fail
 have I:=lM (some ⟨d.heap.size,0,none⟩) 3 3 (d.heap.size+1) [⟨t,k0,D,bP a⟩,⟨e,a,j,b⟩,⟨u,4,E,qD (mF b)⟩] (dJ b) B (by unfold dJ;rw [U.out];simp [gE]) S.out (d.alloc (.cells #[.slice t k0 D,.slice e a j,.slice u 4 E] 34)) ((Rd.made d _ 1 3 _ rfl).mono (by simp)) (by
  intro a8 O;simp at O;rcases O with rfl | rfl | rfl;exact (Y.out.mono oM).alloc oM _ |>.mono oM;exact (R.out.mono oM).alloc oM _ |>.mono oM
  · exact (V.out.alloc oM _).mono oM) (by simp) oM oM
 refine I.mono ?_;clear I;rintro f aa ⟨a0,a1,rfl,L,H⟩;have X:=lhd (L.mono (B':=c.heap.size) (by simp;have:=o.out.size;omega));have T:=lhd (o.out.trans ((((Below.refl d.heap.size d).alloc nL _).trans (H.mono (by simp))).mono o.out.size));clear L H;go_wp2_with fail;go_ret;exact ⟨_,_,rfl,X.out,T.out⟩
end
section
def aFg {a:List UInt8} {b:List Nat} (i:IsSuf (aI a) b) {c:Nat} (f:b[c]?=some 0):(aF (aI a) b)[c]?=some 0:=by
 unfold aF;rw [zAf,f];obtain ⟨d,e,g⟩:=eI a;show some (bF (aI a) 0)=some 0;rw [bI oM,d];have:a.length+1 - 1=a.length:=oM;rw [this,e]
def aDC {a:List UInt8} {e:List Nat} (i:IsSuf (aI a) e):(aF (aI a) e).count 0=1:=by
 obtain ⟨c,f,g⟩:=eI a;unfold aF;rw [List.count_eq_countP,List.countP_map,i.count,c,fN (m:=a.length) _ (fun b=>(aI a).getD b 0==0)]
 · rw [List.range_succ,List.countP_append];have j:(List.range a.length).countP (fun b=>(aI a).getD b 0==0)=0:=List.countP_eq_zero.2 fun b d k=>by have:=g b (zCi.1 d);rw [zCq] at k;omega
   rw [j];simp only [List.countP_singleton,f];rfl
 · simp only [Function.comp];rw [bI oM,c];congr 2
 · intro b d;simp only [Function.comp];rw [aV oM]
def aFd {b:List Nat} {c d:Nat} (g:b[c]?=some d) (a:Nat):bZ b a (c+1)=if a=d then bZ b a c+1 else bZ b a c:=by
 unfold bZ;rw [zAv,g,zCc];by_cases e:a=d;subst e;rw [zBx rfl];simp;omega
 · rw [zBw e];have:([d]:List Nat).count a=0:=(by rw [List.count_eq_zero];intro f;simp at f;exact e f);show _+((b.take c).count a+ [d].count a)=_;rw [this,zBq]
end
section
open Go.RowKit
def aD1 (l m:Option Addr) (a t u i:Nat) (e:List Nat) (c:World) (j:Rd c i 1 l a (e.map sv)) (p:Rd c i 1 m a (e.map sv)) (n:i<=c.heap.size) (F:a<=1099511627776):
 Calls prog 266 #[.slice l a t,.slice m a u] c fun v A=>v=.returned (.bool true)/\Below c.heap.size c A:=by
 have D:e.length=a:=by have:=j.1;simpa using this
 obtain ⟨r,s⟩:=hqq2 j p;clear j p;go_enter func266,ntmps266;go_wp2_with fail;go_loopw [13] (fun k wr=>∃d:Nat,d<=a/\k=.int .i64 (d:Int)/\Below c.heap.size c wr) (fun k _=>a -(intOf k).toNat)
 case atStart=>exact ⟨0,by omega,rfl,Below.refl _ _⟩
 case round=>
  obtain ⟨d,E,rfl,b⟩:=hrel;by_cases o:d < a
  · obtain ⟨b1,G,I,rfl,B,f,w⟩:=(r.out.below (b.mono n)).get o;obtain ⟨b2,H,J,rfl,C,g,x⟩:=(s.out.below (b.mono n)).get o;obtain ⟨q,z⟩:∃q,e[d]?=some q:=⟨_,zAa oM⟩;rw [zAf,z] at f g;injection f with f;injection g with g;subst f g;unfold sv at w x;go_wp2_with fail;go_quiet (fail);go_wp2_with fail;go_roundw
    case rel=>exact ⟨d+1,by omega,by go_num,⟨b.os,b.tape,b.output,b.size,b.block⟩⟩
    case measure=>simp [intOf];omega
  · have y:d=a:=oM;subst y;go_wp2_with fail;go_ret;exact ⟨rfl,b⟩
def wN (d e:Option Addr) (b g i c:Nat) (f:List Nat) (a:World) (k:Rd a c 1 d b (f.map sv)) (l:Rd a c 1 e b (f.map sv)) (m:c<=a.heap.size) (p:b<=1099511627776):
 Calls prog 233 #[.slice d b g,.slice e b i] a fun j q=>j=.returned (.bool true)/\Below a.heap.size a q:=by
 have o:=aD1 d e b g i c f a k l m p;clear k l;go_enter func233,ntmps233;go_wp2_with fail;refine o.mono ?_;rintro j w1 ⟨rfl,n⟩;go_wp2_with fail;go_ret;exact ⟨rfl,n⟩
def xA (d e:Option Addr) (i j m n l:Nat) (b c:List UInt8) (a:World) (o:Rd a l 1 d i (b.map bv)) (p:Rd a l 1 e j (c.map bv)):
 Calls prog 163 #[.slice d i m,.slice e j n] a fun q v=>q=.returned (.bool (b==c))/\Below a.heap.size a v:=by
 have t:(convert 34 9 (.slice d i m)).run prog a=.ok (.string ⟨b.toArray⟩) a:=uF (P:=prog) 34 9 5 underlying34 underlying5 underlying9 o;have u:(convert 34 9 (.slice e j n)).run prog a=.ok (.string ⟨c.toArray⟩) a:=uF (P:=prog) 34 9 5 underlying34 underlying5 underlying9 p;obtain ⟨w,f⟩:∃k:ByteArray,⟨b.toArray⟩=k:=⟨_,rfl⟩;obtain ⟨x,g⟩:∃k:ByteArray,⟨c.toArray⟩=k:=⟨_,rfl⟩;rw [f] at t;rw [g] at u;have r:w.toList=b:=by rw [<-f,ByteArray.toList_eq]
 have s:x.toList=c:=by rw [<-g,ByteArray.toList_eq]
 clear f g o p;go_enter func163,ntmps163;go_wp2_with fail;go_ret;refine ⟨?_,Below.refl _ _⟩;rw [<-r,<-s];rfl
def aAW (g e m:Nat) (u v w t:Value) (j i:Nat) (b:List Nat) (a:List (Nat×Nat)) (s:List Bool) (l:List Nat) (row:Nat) (d:World) (n:PermAt d g e m u v w t j i b a s l) (r:b.Pairwise (fun y z=>aB a y < aB a z)) (C:b.length<=1099511627776) (q:∀c∈b,aB a c≠row):
 Calls prog 156 #[e,(row:Int)] d fun k D=>k=.returned (.int .i64 (-1))/\Below d.heap.size d D:=by
 have f:=jH g e m u v w t j i b a s l row d n r C;have p:decide (∃c∈b,aB a c=row)=false:=by simp only [decide_eq_false_iff_not];rintro ⟨c,A,B⟩;exact q c A B
 rw [p] at f;clear n r q p;go_enter func156,ntmps156;go_wp2_with fail;refine f.mono ?_;rintro k w1 ⟨rfl,o⟩;have x:=lhd o;clear f o;go_wp2_with fail;go_ret;exact ⟨rfl,x.out⟩
def aAV (x k E:Nat) (L M N K:Value) (z y:Nat) (d:List Nat) (a:List (Nat×Nat)) (J:List Bool) (B:List Nat) (row i:Nat) (p:World) (g:PermAt p x k E L M N K z y d a J B) (n:d.Pairwise (fun j q=>aB a j < aB a q)) (Y:d.length<=1099511627776) (a8:a.length<=1099511627776) (m:i∈d) (u:aB a i=row):
 Calls prog 156 #[k,(row:Int)] p fun A a4=>A=.returned (.int .i64 ((aG a i:Nat):Int))/\Below p.heap.size p a4:=by
 have r:=jH x k E L M N K z y d a J B row p g n Y;have G:decide (∃w∈d,aB a w=row)=true:=zBz ⟨i,m,u⟩;rw [G] at r;obtain ⟨e,o,a1⟩:=(sA n row).2 ⟨i,m,u⟩;obtain ⟨f,I⟩:∃f,(d.countP fun w=>decide (aB a w < row))=f:=⟨_,rfl⟩;rw [I] at o r;have a3:e=i:=by
  obtain ⟨j,F,s⟩:=zBo.1 m;obtain ⟨q,t⟩:=zAc.1 o;rcases Nat.lt_trichotomy j f with b | b | b;have:=zAr.1 n j f F q b;rw [s,t] at this;omega
  · subst b;rw [<-s,<-t]
  have:=zAr.1 n f j q F b;rw [s,t] at this;omega
 subst a3;have af:f < d.length:=(zAc.1 o).1;have a2:e < a.length:=g.lt e m;obtain ⟨C,U,a0,ac,W⟩:=World.ownsRow.form g.orow oM;obtain ⟨D,V,Z,ad,X⟩:=World.ownsRow.form g.lrow oM;subst a0;subst Z;have H:=(cC a e a2).2;obtain ⟨O,S,Q⟩:=hqq3 g o H;have ae:(f:Int) < (d.length:Int):=oM;have ag:(e:Int) < (a.length:Int):=oM;clear g n G a1 I o H m u;go_enter func156,ntmps156;go_wp2_with fail;refine r.mono ?_;rintro A w1 ⟨rfl,l⟩;have b:=O.out.below l;have a5:∀c,(w1.drewN c).cell? ⟨k,1,none⟩=some (.slice (some D) a.length V):=fun c=>(b.blk.cell 1).trans rfl;have a6:∀c,(w1.drewN c).cell? ⟨k,2,none⟩=some (.slice (some C) d.length U):=fun c=>(b.blk.cell 2).trans rfl;have ab:=b.blk.lt;have a7:∀c,(w1.drewN c).cell? ⟨C,f,none⟩=some (.int .i64 (e:Int)):=fun c=>(World.ownsRow.cellAt b.orow f oM).trans (by rw [zAf,S.out];rfl);have T:∀c,(w1.drewN c).cell? ⟨D,e*2+1,none⟩=some (.int .i64 ((aG a e:Nat):Int)):=fun c=>(World.ownsRow.cellAt b.lrow (e*2+1) oM).trans Q.out;have P:=lhd l;have a9:=zAl W l.size;have aa:=zAl X l.size;obtain ⟨ah,v⟩:=eqx (aG a e);rw [v] at T;have R:=lhd v;clear r l b v;go_wp2_with fail;go_quiet (fail);go_wp2_with fail;go_ret;exact ⟨by rw [R.out];rfl,below_drewN P.out _⟩
end
section
open Go.RowKit Go.Shelf
attribute [local go_sem] Oper.semAt_some
def aA7 (b:Option Addr) (d c:Nat) (a:World):
 Calls prog 154 #[.slice b d c] a fun e f=>e=.returned (.func (.func 221) #[] #[a.heap.size])/\f=a.alloc (.cells #[.slice b d c] 34):=by
 go_enter func154,ntmps154;go_wp2_with fail;go_ret;exact ⟨rfl,rfl⟩
def lU (a:List Nat) (c:Nat×Nat) (b:UInt8):Nat×Nat:=(bZ a (b.toNat+1) c.1,bZ a (b.toNat+1) c.2)
def fY (a:List Nat) (b:List UInt8):Nat×Nat:=b.reverse.foldl (lU a) (0,a.length)
def aEq (b:List Nat) (c:List UInt8):∀a:Nat×Nat,a.1<=a.2->a.2<=b.length->(c.foldl (lU b) a).1<=(c.foldl (lU b) a).2/\(c.foldl (lU b) a).2<=b.length:=by
 induction c with
 | nil=>intro a d e;exact ⟨d,e⟩
 | cons g c f=>intro a d e;exact f _ (aFe b _ d) (tN b _ _)
def aIv (a:List UInt8):(bkL a a.length).map (·.2)=a.reverse:=by
 apply List.ext_getElem
 · simp [bkL]
 · intro b c e;have d:b < a.length:=(by simpa [bkL] using c);simp [bkL,List.getElem_reverse,d,show a.length - 1 - b < a.length by omega]
def aEe (a:Oper):Bool:=match a.op with
 | .defer _=>false
 | _=>true
def aGX {d:Array Oper} (e:d.toList.all aEe=true):∀(c:Nat) (a:Oper),d[c]?=some a->∀b,a.op≠.defer b:=by
 intro c a g b f;have:=zBf.1 e a (Array.mem_toList_iff.2 (Array.mem_of_getElem? g));unfold aEe at this;rw [f] at this;cases this
structure FInv (w0:World) (Bw gl gb glo gs b3:Nat) (sl:Value) (L:List Nat) (pre:List (Nat×UInt8)) (W:World):Prop where
 lo:Bk W glo 3 #[.int .i64 ((((pre.map (·.2)).foldl (lU L) (0,L.length)).1:Nat):Int)]
 hi:Bk W (glo+1) 3 #[.int .i64 ((((pre.map (·.2)).foldl (lU L) (0,L.length)).2:Nat):Int)]
 lv:LvW W Bw gl L
 box:Bk W gb 43 #[gl]
 bs:Bk W gs 34 #[sl]
 dat:∃t cs,Bk W b3 t cs/\t∈ [5,34]
 vis:VB Bw w0 W
def FInv.own {w0:World} {q v u w x t p:Nat} {C:Value} {r:List Nat} (D:w0.heap.size<=p):OwnFrom p (fun B k=>FInv w0 q v u w x t C r B k):=by
 intro F k s row a d n;have g:∀b i f,Bk k b i f->Bk s b i f:=by intro b i f e;refine (d.block b e.lt fun c=>?_).trans e;obtain ⟨_,E,j,A⟩:=n b c.symm;unfold Bk at e;rw [e] at j;injection j with j;subst j;cases A
 obtain ⟨i,f,y,z⟩:=a.dat;refine ⟨g _ _ _ a.lo,g _ _ _ a.hi,a.lv.same g,g _ _ _ a.box,g _ _ _ a.bs,⟨i,f,g _ _ _ y,z⟩,⟨d.os.trans a.vis.1.os,d.tape.trans a.vis.1.tape,d.output.trans a.vis.1.output,zAk a.vis.1.size d.size,fun b e m=>?_⟩,⟨d.os.trans a.vis.1.os,d.tape.trans a.vis.1.tape,d.output.trans a.vis.1.output,zAk a.vis.1.size d.size,fun b e m=>(d.block b (zAl e a.vis.1.size) fun c=>?_).trans (a.vis.2.block b e m)⟩⟩;rcases a.vis.1.block b e m with c |⟨f,o,c,l⟩|⟨f,o,c,l⟩;refine .inl ((d.block b (zAl e a.vis.1.size) fun c=>?_).trans c);have:=(n b c.symm).1;omega;exact .inr (.inl ⟨f,o,c,g _ _ _ l⟩);exact .inr (.inr ⟨f,o,c,g _ _ _ l⟩);have:=(n b c.symm).1;omega
def xH {g:Nat->Prop} {f k:World} (j:VisF g f k) (m:∀b e,g b->f.heap[b]?=some e->e.isCells=true):KeepsOthers f k:=by
 refine ⟨j.size,fun b e c d=>?_⟩;by_cases i:g b
 · rw [m b e i c] at d;cases d
 · have n:b < f.heap.size:=(zAh.1 c).1;rcases j.block b n i with a |⟨l,o,a,_⟩|⟨l,o,a,_⟩;exact a.trans c
   · unfold Bk at a;rw [c] at a;injection a with a;subst a;cases d
   · unfold Bk at a;rw [c] at a;injection a with a;subst a;cases d
def qZ (r y:Nat) (c:List Nat) (G:Nat) (ab:Option Addr) (a8 au al:Nat) (aM:List Sl) (s:List UInt8) (B:Nat) (cl:gE aM=s) (bm:s.length=B) (l:World) (o:LvW l r y c) (Y:c.length=G+1) (cs:G<=900) (bl:∀I∈c,I < 257) (bH:Rd l al 1 ab a8 (aM.map slV)) (bM:∀aj∈aM,Rd l al 1 aj.A aj.n (aj.l.map bv)) (cW:al<=l.heap.size) (d5:a8<=1000000) (d6:B<=1000000):
 Calls prog 83 #[y,.slice ab a8 au] l fun d c0=>d=.returned (.tuple #[.int .i64 (((fY c s).1:Nat):Int),.int .i64 (((fY c s).2:Nat):Int)])/\VB r l c0:=by
 refine (callsIn_wide (n:=6)).1 ?_;refine callsIn_of_wp_marks func83 rfl trivial ?_ rfl;simp only [ntmps83,List.size_toArray,zCf,List.length_nil,Nat.reduceAdd,Nat.reduceSub,Array.replicate_succ,Array.replicate_zero,List.push_toArray,List.append_toArray,List.nil_append,List.cons_append];refine wpIn_wide.2 ?_;have d2:=o.lt;obtain ⟨ba,c5,c9,ca⟩:=hqq4 o bl bH bM;clear o bl bH bM;go_wp2_with fail;have aF:Below l.heap.size l (l.alloc (.cells #[y] 43)):=bR.alloc nL _;refine (bL r y c G _ (ba.out.vis (Vis.of_below aF)) Y oM).mono ?_;rintro d c0 ⟨rfl,rfl⟩;have O:IntKind.i64.wrap ((G:Int)+1)=((G+1:Nat):Int):=by rw [IntKind.wrap_i64];omega
 obtain ⟨a9,bG⟩:=eqx (G+1);have av:(G:Int)+1=(a9:Int):=oM;have az:=Bk.new l 43 #[y];obtain ⟨a4,aZ⟩:=eqx l.heap.size;rw [aZ] at az;rw [aZ];generalize l.alloc (.cells #[y] 43)=w1 at aF az⊢;obtain ⟨aS,aO,c8,bg⟩:=hqq4 aF az bG Y;clear aF az bG Y aZ;go_wp2_with fail;have P:=(Bk.new w1 3 #[.int .i64 0]).alloc (.cells #[(a9:Int)] 3);have L:=Bk.new (w1.alloc (.cells #[.int .i64 0] 3)) 3 #[(a9:Int)];rw [World.size_alloc] at L;have ax:Below w1.heap.size w1 ((w1.alloc (.cells #[.int .i64 0] 3)).alloc (.cells #[(a9:Int)] 3)):=(bR.alloc nL _).alloc (by simp) _;obtain ⟨j,ag⟩:=eqx w1.heap.size;rw [ag] at P L;rw [ag];generalize (w1.alloc (.cells #[.int .i64 0] 3)).alloc (.cells #[(a9:Int)] 3)=a0 at P L ax⊢;have ah:=aS.out.trans (ax.mono aS.out.size);have bq:=aO.out.below ax aO.out.lt;have cr:l.heap.size<=j:=by rw [<-ag];exact aS.out.size
 have d1:a4 < j:=by rw [<-ag];exact aO.out.lt
 have bt:=lM ab a8 au al aM s B cl bm a0 (c9.out.keep fun b8 E=>ah.cell oM) (fun aj b5=>(ca.out aj b5).keep fun b8 E=>ah.cell oM) (by have:=ah.size;omega) oM oM;obtain ⟨J,N,aq,ao⟩:=hqq4 P L ah bq;clear P L ax ah bq ag O av;refine bt.mono ?_;clear bt;rintro d aa ⟨M,X,rfl,bE,T⟩;obtain ⟨bf,S⟩:=hqq2 bE T;clear bE T;go_wp2_with fail;refine (aA7 M B X aa).mono ?_;rintro d a1 ⟨rfl,aG⟩;have aA:=Bk.new aa 34 #[.slice M B X];rw [<-aG] at aA;have U:Below aa.heap.size aa a1:=aG ▸bR.alloc nL _;have d7:a1.heap.size=aa.heap.size+1:=by rw [aG];simp
 obtain ⟨K,aC⟩:=eqx aa.heap.size;rw [aC] at aA;rw [aC];have cB:=lhd aC;clear aG aC;have bC:=(J.out.below S.out J.out.lt).below U (zAl J.out.lt S.out.size);have bA:=(N.out.below S.out N.out.lt).below U (zAl N.out.lt S.out.size);have br:=(ao.out.below S.out ao.out.lt).below U (zAl ao.out.lt S.out.size);have bP:Below l.heap.size l a1:=(aq.out.trans (S.out.mono aq.out.size)).trans (U.mono (by have:=aq.out.size;have:=S.out.size;omega));have bF:=bf.out.below U;obtain ⟨be,aP,bc,ar,ap,a2⟩:=hqq6 bC bA br bP bF aA;clear bC bA br bP bF aA U J N aq ao bf;go_wp2_with fail;obtain ⟨C,T⟩:∃C,(∀b aL,M=some ⟨b,aL,none⟩->0 < B->b=C)/\∃w z,Bk a1 C w z/\w∈ [5,34]:=by rcases ap.out.own.2 with ⟨d,ci⟩|⟨aW,cg,ch,d,_,bz,_⟩;exact ⟨K,fun b aL _ aw=>by omega,_,_,a2.out,by simp⟩;injection d with d;exact ⟨aW,fun b aL o _=>by rw [d] at o;injection o with o;injection o with o _;exact o.symm,_,_,bz,by simp⟩
 have aX:0 < B->M=some ⟨C,0,none⟩:=by
  intro aw;rcases ap.out.own.2 with ⟨d,ci⟩|⟨aW,cg,ch,d,_,bz,_⟩;omega
  · injection d with d;rw [d,T.1 aW 0 d aw]
 have bu:∀V,V < s.length->a1.cell? ⟨C,0+V,none⟩=some (.int .u8 ((s.getD V 0).toNat:Int)):=by intro V aD;have cv:=ap.out.rd;obtain ⟨b,aL,d,_,co⟩:=cv.2 oM;rw [aX oM] at d;injection d with d;injection d with O av;subst O av;refine co V _ ?_;rw [zAf,zAa aD];simp [bv,zAb,zAa aD]
 have bI:SeqStopsK Fence.wide (6 - 1) prog 221 #[K] (fun I:Nat×UInt8=>#[(I.1:Int),.int .u8 (I.2.toNat:Int)]) (KpB K C) (fun c1=>c1=bkL s s.length) (fun _=>True) B a1:=by intro aJ cd ce g bn cY cZ cm aw;have cp:=T.2;obtain ⟨w,z,af,aB⟩:=cp;exact aA8 Fence.wide (6 - 1) trivial rfl oM aJ K C 0 X M s (fun o=>aX oM) oM cd ce (fun H I cf ac bh=>cm H I cf ac oM) g (by rw [bm];exact (a2.out.below bn a2.out.lt).cell 0) (fun V aD=>(bn.cell (p:=⟨C,0+V,none⟩) af.lt).trans (bu V aD)) aw
 have bj:FInv l r y a4 j K C (.slice M B X) c [] a1:=⟨be.out,by
  have:=aP.out;rw [show (([]:List (Nat×UInt8)).map (·.2)).foldl (lU c) (0,c.length)=(0,c.length) from rfl,bg.out,c8.out];exact this,ba.out.vis (Vis.of_below ar.out),bc.out,a2.out,T.2,VisK.of_below ar.out⟩
 have d4:=a2.out.lt;have U:=T.2;obtain ⟨aN,aR⟩:=hqq2 bj bI;have d3:=aP.out.lt;obtain ⟨da,cF,bw,cq⟩:=U;have d0:=bw.lt;clear bI bj bu aX T bw cq be aP bc ap a2;refine (wpIn_wide (n:=6)).1 ?_
 refine wpIn_rangeFunc_ownF (F:=Fence.wide) (n:=6) rfl oM (gf:=221) (lb:=#[.pointer (some K)]) rfl trivial (enters_of func221 kR rfl) aR.out (fun o ai=>o.trans ai)
  (fun g aJ cy d8 cs b2 _ _ b8 E=>World.cell?_of_block (World.putObj_heap_other (fun d=>by rcases E with E | E <;> omega))) bR (fun _=>rfl)
  (fun H g=>FInv l r y a4 j K C (.slice M B X) c H g) (fun _ _ _=>False) (FInv.own ar.out.size) (fun _ _ _ _ _ b5 _ _=>b5) aN.out
  (fun I=> { tmps:=#[.pointer (some y),.slice ab a8 au,.pointer (some a4),undef,.int .i64 0,.int .i64 0,.pointer (some j),.pointer (some ⟨j+1,0,none⟩),undef,.int .u8 (I.2.toNat:Int),.pointer (some y),.bool false,.pointer (some y),.int .i64 (G:Int),.int .i64 (a9:Int),.slice ab a8 au,.slice M B X,.func (.func 221) #[] #[K],.int .i64 (I.1:Int),.int .u8 (I.2.toNat:Int),undef,undef,undef,undef,undef,undef,undef,undef,undef,undef,undef,undef,undef,undef],defers:= [] }) ?assign ?body ?done ?stop
 case assign=>
  intro aJ I g cC e
  gi_wp2
  exact e
 case body=>
  rintro aJ H ⟨bT,x⟩ g t _;obtain ⟨gk,bW,bX,d9,bB,bQ⟩:=t.lv;obtain ⟨a7,P⟩:=eqx (((H.map (·.2)).foldl (lU c) (0,c.length)).1);obtain ⟨a6,L⟩:=eqx (((H.map (·.2)).foldl (lU c) (0,c.length)).2);have aY:=aEq c (H.map (·.2)) (0,c.length) (zAp _) nL;rw [P,L] at aY;obtain ⟨Z,bo⟩:=eqx (bZ c (x.toNat+1) a7);obtain ⟨W,u⟩:=eqx (bZ c (x.toNat+1) a6);have b1:=t.lo;have b0:=t.hi;rw [P] at b1;rw [L] at b0;obtain ⟨aQ,cc,J,N,c6,bd⟩:=hqq6 bB bQ b1 b0 t.box aY;have an:Hid (bZ c (x.toNat+1) a7=Z/\bZ c (x.toNat+1) a6=W):=lhd ⟨bo,u⟩;have c2:=lhd t;have c7:Hid (((H.map (·.2)).foldl (lU c) (0,c.length))=(a7,a6)):=lhd (by rw [<-P,<-L]);clear bB bQ b1 b0 aY bo u t P L aN aR
  gi_wp2
  refine wpIn_region_any kR ?_;refine aCK (fun ⟨_,_,o⟩=>o) (aGX kR) _ _ _ _ ?_;refine bN r 13 [21,22,23,24,25,26,27,28,29,20,30,31] (fun b=>b=j) 12 [0,1,2,3,4,5,6,7,8,9,10,12] (fun a0=>VB r g a0) (fun _ a0=>Bk a0 j 3 #[(Z:Int)]) [is y,is y,is y,is gk,is (a7:Int),is (a6:Int),is (.int .u8 (x.toNat:Int)),is (.int .i64 ((x.toNat+1:Nat):Int)),is (.tuple #[(Z:Int),(W:Int)]),is (.tuple #[(Z:Int),(W:Int)]),is (Z:Int),is (W:Int),dF] _ _ rfl dC kR kR kR (VisK.of_below bR.drew) (fun _ _ o _ ai=>o.trans ai) (fun _ _ _ o ai=>ai.1.bk o dC dC) tA0 ?_ ?_
  · refine bO ?_;refine sC3 (fun D v _ k _ _ Q _ _ _ _ e=>?_) ?_
    · have a:=k rfl;have av:D (.tmp 2)=.pointer (some a4):=Q 2 kR;replace a:VB r g v:=(by first|exact a|exact bD a);have a3:=(a.1.bk c6.out dC dC).cell 0;go_simp;exact e _ _ (aE vR) rfl
    refine sC3 (fun _ v _ k _ _ _ q _ _ _ e=>?_) ?_
    · have a:=k rfl;have cI:_=_:=q 0 21 kR rfl;replace a:VB r g v:=(by first|exact a|exact bD a);have a3:=(a.1.bk aQ.out dC dC).cell 0;go_simp;exact e _ _ (aE vR) rfl
    refine sC3 (fun _ v _ k _ _ _ q _ _ _ e=>?_) ?_
    · have a:=k rfl;have cJ:_=_:=q 1 22 kR rfl;replace a:VB r g v:=(by first|exact a|exact bD a);have a3:=(a.1.bk aQ.out dC dC).cell 0;go_simp;exact e _ _ (aE vR) rfl
    refine sC3 (fun _ v _ k _ _ _ q _ _ _ e=>?_) ?_
    · have a:=k rfl;have cK:_=_:=q 2 23 kR rfl;replace a:VB r g v:=(by first|exact a|exact bD a);have a3:=(a.1.bk aQ.out dC dC).cell 0;go_simp;exact e _ _ (aE vR) rfl
    refine sC3 (fun D v _ k _ _ Q _ _ _ _ e=>?_) ?_
    · have a:=k rfl;have ck:D (.tmp 6)=.pointer (some j):=Q 6 kR;replace a:VB r g v:=(by first|exact a|exact bD a);have a3:=(a.1.bk J.out dC dC).cell 0;go_simp;exact e _ _ (aE vR) rfl
    refine sC3 (fun D v _ k _ _ Q _ _ _ _ e=>?_) ?_
    · have a:=k rfl;have cS:D (.tmp 7)=.pointer (some ⟨j+1,0,none⟩):=Q 7 kR;replace a:VB r g v:=(by first|exact a|exact bD a);have a3:=(a.1.bk N.out dC dC).cell 0;go_simp;exact e _ _ (aE vR) rfl
    refine sC3 (fun D _ _ k _ _ Q _ _ _ _ e=>?_) ?_
    · have a:=k rfl;have cT:D (.tmp 9)=.int .u8 (x.toNat:Int):=Q 9 kR;go_simp;exact e _ _ (aE vR) rfl
    refine sC3 (fun _ v _ k _ _ _ q _ _ _ e=>?_) ?_
    · have a:=k rfl;have cO:_=_:=q 6 27 kR rfl;go_simp;refine (nN x v).mono ?_;rintro d cA ⟨rfl,cn⟩;exact e _ _ (aE (VisK.of_below cn)) rfl
    refine sC3 (fun _ v _ k _ _ _ q _ _ _ e=>?_) ?_
    · have a:=k rfl;have cL:_=_:=q 3 24 kR rfl;have cM:_=_:=q 4 25 kR rfl;have cN:_=_:=q 5 26 kR rfl;have cP:_=_:=q 7 28 kR rfl;replace a:VB r g v:=(by first|exact a|exact bD a);go_simp;refine (vV r gk c a7 a6 (x.toNat+1) v (cc.out.vis a.1) (by have:=x.toNat_lt;omega) bd.out.1 bd.out.2 c5.out (by rw [bg.out];omega)).mono ?_;rintro d cA ⟨rfl,cx⟩;rw [an.out.1,an.out.2];exact e _ _ (aE cx) rfl
    refine sC3 (fun _ _ _ k _ _ _ q _ _ _ e=>?_) ?_
    · have a:=k rfl;have cQ:_=_:=q 8 29 kR rfl;go_simp;exact e _ _ (aE vR) rfl
    refine sC3 (fun _ _ _ k _ _ _ q _ _ _ e=>?_) ?_
    · have a:=k rfl;have cH:_=_:=q 9 20 kR rfl;go_simp;exact e _ _ (aE vR) rfl
    refine pV3 9 20 ?_;refine sC3 (fun D v _ k _ _ Q q _ _ _ e=>?_) ?_
    · have a:=k rfl;have ck:D (.tmp 6)=.pointer (some j):=Q 6 kR;have cR:_=_:=q 10 30 kR rfl;replace a:VB r g v:=(by first|exact a|exact bD a);have b7:=a.1.bk J.out dC dC;have a3:=b7.cell 0;have cV:=b7.frozen 0;go_simp;exact e (.bool true) _ (iW (VFB.put (F:=fun b=>b=j) (VFB.of_vb vR) (p:=j) (.inl rfl) _)) (b7.set 0 _)
    exact aH
  · intro D ak m ad q bp;replace ad:VFB r (fun b=>b=j) g ak:=fD ad;have cj:D (.tmp 31)=.int .i64 (W:Int):=q 11 31 dC rfl;obtain ⟨cz,bV⟩:=bp 12 dC;have bU:(fun _ a0=>Bk a0 j 3 #[(Z:Int)]) cz ak:=bV;clear bV bp;simp only [zqq];rw [cj];clear q;have aI:=ad.1.bk N.out dC dC (fun d=>by omega);have cE:=aI.cell 0;have cU:=aI.frozen 0;change wpAny prog Region.Mode.any _ _ (1+m) (bY 13 14) _ ak;rw [zCs 1 m];refine bS (f:=m) (i:=13) kR ?_;refine cG rfl rfl ?_;generalize e:wpAny prog _ _ _ m _=K5;go_simp;subst e;refine cD kR ?_;have bx:((H++ [(bT,x)]).map (·.2)).foldl (lU c) (0,c.length)=(Z,W):=(by rw [zAz,List.foldl_append,c7.out];show (bZ c (x.toNat+1) a7,bZ c (x.toNat+1) a6)=_;rw [an.out.1,an.out.2]);have b6:l.heap.size<=j:=cr;have cu:j≠j+1:=oM;have bK:VFB r (fun b=>b=j∨b=j+1) g (ak.setCell ⟨j+1,0,none⟩ (.int .i64 (W:Int))):=(by exact VFB.put (ad.wider fun b d=>.inl d) (.inl (.inr rfl)) _);have bJ:=bK.1;have t:=c2.out;obtain ⟨w,z,af,aB⟩:=t.dat;have a5:w≠261/\w≠201/\w≠3:=by simp at aB;rcases aB with rfl | rfl <;> decide
    have ae:∀b w z,Bk g b w z->w≠261->w≠201->w≠3->Bk (ak.setCell ⟨j+1,0,none⟩ (.int .i64 (W:Int))) b w z:=fun b w z u ac bh bi=>bJ.bk u ac bh (fun m=>by
        rcases m with m | m;subst m;exact bi (aK u J.out).1
        · subst m;exact bi (aK u N.out).1)
    have ct:=t.lv.visI ad.1 J.out bU;change KeepsOthers g _/\KpB K C g _/\FInv l r y a4 j K C (.slice M B X) c (H++ [(bT,x)]) _;refine ⟨xH bJ (fun b cy m b2=>?_),?_,?_,?_,?_,ae _ _ _ t.box dC dC dC,ae _ _ _ t.bs dC dC dC,⟨w,z,ae _ _ _ af a5.1 a5.2.1 a5.2.2,aB⟩,?_⟩;rcases m with m | m;subst m;have:=J.out;unfold Bk at this;rw [b2] at this;injection this with this;subst this;rfl;subst m;have:=N.out;unfold Bk at this;rw [b2] at this;injection this with this;subst this;rfl
    · intro b8 E;rcases E with E | E
      · have O:=(ae _ _ _ t.bs dC dC dC).trans t.bs.symm;rw [<-E] at O;exact World.cell?_of_block O
      · have O:=(ae _ _ _ af a5.1 a5.2.1 a5.2.2).trans af.symm;rw [<-E] at O;exact World.cell?_of_block O
    rw [bx];exact bU.far (p:=⟨j+1,0,none⟩) cu _;rw [bx];exact aI.set 0 _;exact ct.sameT fun b w z cw u=>u.far (p:=⟨j+1,0,none⟩) (fun d=>by subst d;exact cw (aK u aI).1) _;have ac:VFB r (fun b=>b=j∨b=j+1) l g:=VFB.of_vb t.vis;exact (ac.trans bK).to_vb (fun b u m=>by rcases m with m | m <;> omega)
 case done=>
  rintro am c1 g cX rfl t e;have aT:=t.lo.cell 0;have aU:=t.hi.cell 0;rw [aIv] at aT aU;change g.cell? j=some (.int .i64 (((fY c s).1:Nat):Int)) at aT;change g.cell? ⟨j+1,0,none⟩=some (.int .i64 (((fY c s).2:Nat):Int)) at aU;obtain ⟨bW,b3⟩:=eqx ((fY c s).1);obtain ⟨bX,b4⟩:=eqx ((fY c s).2);rw [b3] at aT;rw [b4] at aU;obtain ⟨cb,c3⟩:=hqq2 t.vis e;have bb:Hid ((fY c s).1=bW/\(fY c s).2=bX):=lhd ⟨b3,b4⟩;clear t aN aR b3 b4 e;go_wp2_with fail;go_quiet (fail);go_wp2_with fail;have c4:(g.drewN nq).heap[am]?=some (.deferred (some [])):=c3.out;refine ⟨by simp,.inl ⟨_,_,rfl,run_takeDeferred c4,?_⟩⟩;refine ⟨_,results_tmp2 rfl _ _ _,by rw [bb.out.1,bb.out.2];rfl,?_⟩;have R:=cb.out;have ay:∀b,b < l.heap.size->((g.drewN nq).putObj am (.deferred none)).heap[b]?=g.heap[b]?:=fun b u=>World.putObj_heap_other (by have:=ar.out.size;omega);have b6:l.heap.size<=((g.drewN nq).putObj am (.deferred none)).heap.size:=by have:=R.1.size;simpa using this
  refine ⟨⟨R.1.os,R.1.tape,R.1.output,b6,fun b u Y=>?_⟩,⟨R.1.os,R.1.tape,R.1.output,b6,fun b u Y=>(ay b u).trans (R.2.block b u Y)⟩⟩;rcases R.1.block b u Y with d |⟨z,b9,d,aV⟩|⟨z,b9,d,aV⟩;exact .inl ((ay b u).trans d);exact .inr (.inl ⟨z,b9,d,(ay b u).trans aV⟩);exact .inr (.inr ⟨z,b9,d,(ay b u).trans aV⟩)
 case stop=>intro am x H g _ _ o _;exact o.elim
end
section
def aBt {a d:List Nat} {l:Nat} (c:IsSuf a d) (f:EndOk a l) (b:List UInt8):fY (aF a d) b=(Nq a false (cZ b),Nq a true (cZ b)):=by
 have j:(aF a d).length=a.length:=by rw [bH,c.len]
 unfold fY;rw [j]
 induction b with
 | nil=>
   obtain ⟨g,i⟩:=aJn a;show (0,a.length)=(Nq a false [],Nq a true []);rw [g,i]
 | cons e b k=>
   rw [List.reverse_cons,List.foldl_append,k];show (bZ _ (e.toNat+1) (Nq a false (cZ b)),bZ _ (e.toNat+1) (Nq a true (cZ b)))=_;rw [aEg c f _ _ _ oM,aEg c f _ _ _ oM];rfl
def aFA {a:List UInt8} {c:List Nat} (d:IsSuf (aI a) c) (b:List UInt8):(fY (aF (aI a) c) b).2 -(fY (aF (aI a) c) b).1=occ (aI a) (cZ b):=by
 rw [aBt d (eI a),aDZ];omega
end
section
open Go.RowKit Go.Shelf
def yA (j m:Nat) (a:List Nat) (o:Nat) (i:Option Addr) (f q d:Nat) (g:List Sl) (b:List UInt8) (k:Nat) (E:gE g=b) (D:b.length=k) (c:World) (s:LvW c j m a) (H:a.length=o+1) (F:o<=900) (t:∀K∈a,K < 257) (x:Rd c d 1 i f (g.map slV)) (y:∀p∈g,Rd c d 1 p.A p.n (p.l.map bv)) (C:d<=c.heap.size) (G:f<=1000000) (I:k<=1000000):
 Calls prog 44 #[m,.slice i f q] c fun r B=>r=.returned (.int .i64 (((fY a b).2 -(fY a b).1:Nat):Int))/\VB j c B:=by
 have w:=qZ j m a o i f q d g b k E D c s H F t x y C G I;have e:=aEq a b.reverse (0,a.length) (zAp _) nL;change (fY a b).1<=(fY a b).2/\(fY a b).2<=a.length at e;obtain ⟨z,v⟩:=eqx ((fY a b).1);obtain ⟨n,u⟩:=eqx ((fY a b).2);rw [v,u] at w e⊢;have M:=e.1;have N:n<=1000:=oM;have L:IntKind.i64.wrap ((n:Int) -(z:Int))=((n - z:Nat):Int):=by rw [IntKind.wrap_i64];omega
 clear s x y v u e t;go_enter func44,ntmps44;go_wp2_with fail;refine w.mono ?_;rintro r B ⟨rfl,J⟩;go_wp2_with fail;go_ret;exact ⟨eR oM,J⟩
end
end Go.Proofs.YtcfpmjbojoidoaaGreatDoor
