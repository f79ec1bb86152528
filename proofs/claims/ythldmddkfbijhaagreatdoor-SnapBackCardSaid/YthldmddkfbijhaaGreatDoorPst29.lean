/- Lemmas of the walk. Conditions: each its own. -/
import Derived.Test.YthldmddkfbijhaaGreatDoorPst26
import Derived.Test.YthldmddkfbijhaaGreatDoorProg
import Derived.Test.YthldmddkfbijhaaGreatDoorShl
import Derived.Test.YthldmddkfbijhaaGreatDoorSht
import Derived.Test.YthldmddkfbijhaaGreatDoorShi
set_option linter.all false
set_option maxRecDepth 100000
set_option maxHeartbeats 4000000
open Go.Proofs.Tryz
namespace Go.Proofs.YthldmddkfbijhaaGreatDoor
open Go.RowKit
theorem aGq (a:World) (c:Array Value) (e:Nat×Nat) (d:List UInt8) (b:Nat) (i:c.toList=d.map bv) (k:d.length=b):
 Rd ((a.alloc (.cells c 5 e)).alloc (.cells #[.slice (some ⟨a.heap.size,0,none⟩) b b] 26)) (a.heap.size+2) 1 (some ⟨a.heap.size+1,0,none⟩) 1 ([(⟨some ⟨a.heap.size,0,none⟩,b,b,d⟩:Sl)].map slV)/\
 (∀f∈ [(⟨some ⟨a.heap.size,0,none⟩,b,b,d⟩:Sl)],Rd ((a.alloc (.cells c 5 e)).alloc (.cells #[.slice (some ⟨a.heap.size,0,none⟩) b b] 26)) (a.heap.size+2) 1 f.A f.n (f.l.map bv)):=by
 constructor;have:=Rd.new_ (a.alloc (.cells c 5 e)) 26 1 #[.slice (some ⟨a.heap.size,0,none⟩) b b] rfl;rw [World.size_alloc] at this;exact this;intro f j;simp at j;subst j;have g:=aA8 a 5 c e b (by rw [<-Array.length_toList,i];simp [k]);rw [i] at g;exact (g.alloc (by simp) _).mono oM
theorem vT {w:World} {d c:Nat} {a:Option Addr} {l:List UInt8} (e:Rd w d 1 a c (l.map bv)):∀b,(convert 26 9 (.slice a c b)).run prog w=.ok (.string ⟨l.toArray⟩) w:=
 fun b=>lU (P:=prog) 26 9 5 underlying26 underlying5 underlying9 e
theorem aAn (l:List UInt8) (a b:Nat):(⟨l.toArray⟩:ByteArray).extract a b=⟨((l.drop a).take (b - a)).toArray⟩:=by
 apply ByteArray.ext;rw [ByteArray.data_extract];apply Array.ext';rw [Array.toList_extract]
theorem qP (l:List UInt8):(⟨l.toArray⟩:ByteArray).size=l.length:=by simp [ByteArray.size]
section
variable (l : List UInt8) (w : World)
theorem kY (a:Nat) (b:a<=l.length):(Instr.slice 9 (.string ⟨l.toArray⟩) none (some (.int .i64 (a:Int))) none).run prog w=.ok (.string ⟨(l.take a).toArray⟩) w:=by
 rw [run_slice_string_h (P:=prog) (w:=w) 9 ⟨l.toArray⟩ underlying9 .i64 a oM (by rw [qP];omega)];rw [zBr,aAn];simp
theorem kX (a:Nat) (b:a<=l.length):(Instr.slice 9 (.string ⟨l.toArray⟩) (some (.int .i64 (a:Int))) none none).run prog w=.ok (.string ⟨(l.drop a).toArray⟩) w:=by
 rw [run_slice_string_l (P:=prog) (w:=w) 9 ⟨l.toArray⟩ underlying9 .i64 a oM (by rw [qP];omega)];rw [zBr,aAn,qP];congr 3;apply congrArg;rw [zAg (by rw [zAw];omega)]
theorem qR (a:Nat) (b:a<=l.length):(Instr.sliceAt 9 (.string ⟨l.toArray⟩) none (some (.int .i64 (a:Int))) none).run prog w=.ok (.string ⟨(l.take a).toArray⟩) w:=by
 rw [run_sliceAt_string (h:=underlying9),kY l w a b]
theorem qQ (a:Nat) (b:a<=l.length):(Instr.sliceAt 9 (.string ⟨l.toArray⟩) (some (.int .i64 (a:Int))) none none).run prog w=.ok (.string ⟨(l.drop a).toArray⟩) w:=by
 rw [run_sliceAt_string (h:=underlying9),kX l w a b]
end
theorem pU (a b:List UInt8):Value.string ((⟨a.toArray⟩:ByteArray)++⟨b.toArray⟩)=.string ⟨(a++b).toArray⟩:=congrArg Value.string (by
 apply ByteArray.ext;rw [ByteArray.data_append];simp)
theorem aHl (w:World) (l:List UInt8) (b:Nat) (c:TypeId) (d:Nat×Nat) (i f:Nat) (m:l.length=i) (k:f=w.heap.size):Rd (w.drew.alloc (.cells (bytesRow ⟨l.toArray⟩ b) c d)) (w.heap.size+1) 1 (some ⟨f,0,none⟩) i (l.map bv):=by
 subst k;refine ⟨by simp [m],fun _=>⟨_,0,rfl,by simp,fun g n a=>?_⟩⟩;have j:=cell_of_row (w.drew.alloc (.cells (bytesRow ⟨l.toArray⟩ b) c d)) w.heap.size g (bytesRow ⟨l.toArray⟩ b) c d (heap_alloc_new w.drew _);rw [zBi,j];unfold bytesRow;have e:g < l.length:=by have:=(zAc.1 a).1;simpa using this
 rw [Array.getElem?_append_left (by simpa using e)];rw [zAf,zAa e] at a;simp only [Option.map_some,Option.some.injEq] at a;rw [<-a];simp [e,bv]
theorem aJh (w:World) (a:List UInt8) (b:Nat) (e:a.length=b):∃d g c,(convert 9 26 (.string ⟨a.toArray⟩)).run prog w=.ok (.slice d b g) c/\Rd c c.heap.size 1 d b (a.map bv)/\Below w.heap.size w c:=by
 have f:=run_bytes_of_string (P:=prog) w 9 26 5 ⟨a.toArray⟩ underlying9 underlying26 underlying5;have i:(⟨a.toArray⟩:ByteArray).size=b:=by rw [<-e];rfl
 rw [i] at f;exact ⟨_,_,_,f,(aHl w a _ _ _ b _ e rfl).mono (by simp),bR.drew.alloc nL _⟩
theorem aFO (a:Int) (c:0<=a) (d:a<=255):∃b:UInt8,(b.toNat:Int)=a:=⟨UInt8.ofNat a.toNat,by
 rw [UInt8.toNat_ofNat'];omega⟩
def aKe (c:Bool) (b:List UInt8):Prop:=c=true->∀a∈b,97<=a.toNat/\a.toNat<=99
def aI2 (w:World) (g:Nat) (f:Bool) (e:Ending) (d:World):Prop:=∃a b c,a.length<=g/\aKe f a/\e=.returned (.slice b a.length c)/\Made d w.heap.size 5 1 b a.length c (a.map bv)/\Below w.heap.size w d
theorem aI1 (F:Option Addr) (d i H:Nat) (l:List Int) (e:Nat) (q:Bool) (w:World) (B:Rd w H 1 F d (l.map iv)) (Y:H<=w.heap.size) (a4:d<=maxLen) (ai:e<=1000):
 Calls prog 34 #[.slice F d i,(e:Int),.bool q] w (aI2 w e q):=by
 obtain ⟨V,P,S,T,U⟩:=info_parts qO;unfold maxLen at a4;have X:=lhd (B.mono Y);have R:l.length=d:=by simpa using B.1
 have aa:=lhd R;clear B R;go_enter func34,ntmps34;go_wp2_with fail;go_loopw [7,8] (fun a7 E wr=>∃(a:Nat) (b:List UInt8),a<=d/\a<=e/\b.length=a/\aKe q b/\E=.int .i64 a/\wr.ownsRow w.heap.size 5 1 a7 a (b.map bv)/\Below w.heap.size w wr) (fun _ E _=>d -(intOf E).toNat)
 case atStart=>exact ⟨0, [],by omega,by omega,rfl,fun _ i c=>(by cases c),rfl,World.ownsRow_nil _ _ _ _,Below.refl _ _⟩
 case round=>
  obtain ⟨a,b,ae,Q,x,r,rfl,t,f⟩:=hrel;have u:=f.size;by_cases s:a < d/\a < e
  · obtain ⟨a2,ah⟩:=s;obtain ⟨ab,al,am,rfl,a0,C,c⟩:=(X.out.below f).get a2;rw [zAf] at C;obtain ⟨n,a6,rfl⟩:=Option.map_eq_some_iff.1 C;unfold iv at c;obtain ⟨p,M,W,L⟩:=hqq4 t f r x;clear t f r x C a6 a0;have af:(a:Int) < (d:Int):=oM;have a3:(a:Int) < (e:Int):=oM;cases q with
    | true=>
      obtain ⟨g,aj,ak⟩:=iH n 3 oM;obtain ⟨j,m⟩:=aFO (97+(g:Int)) oM oM;have ac:IntKind.u64.wrap (97+(g:Int))=97+(g:Int):=(by rw [IntKind.wrap_u64];omega);have ad:IntKind.u8.wrap (97+(g:Int))=97+(g:Int):=(by rw [IntKind.wrap_u8];omega);have o:=lhd m;clear m;go_wp2_with (at_builtin;refine bF _ rfl (.tmp 21) (.tmp 30) _ rfl w.heap.size 5 V (.int .u8 0) 1 1 underlying26 P S T U rfl dC _ a _ rfl p.out rfl rfl (by simp [Value.oneCell']) (by unfold maxLen;omega) oM u ?_;intro a8 a9 A z a5 Z);have y:=aX M.out p.out z u;go_roundw
      case rel=>refine ⟨a+1,b++ [j],by omega,by omega,by simp [L.out],fun k i c=>?_,by go_num,?_,y⟩;rcases zCp.1 c with c | c;exact W.out k i c;simp at c;subst c;have:=o.out;omega;rw [zAz];have v:bv j=.int .u8 (97+(g:Int)):=(by unfold bv;rw [o.out]);rw [List.map_cons,List.map_nil,v];exact A
      case measure=>simp [intOf];omega
    | false=>
      have D:0<=IntKind.u8.wrap n/\IntKind.u8.wrap n<=255:=(by rw [IntKind.wrap_u8];omega);obtain ⟨j,m⟩:=aFO (IntKind.u8.wrap n) D.1 D.2;have o:=lhd m;clear m D;go_wp2_with (at_builtin;refine bF _ rfl (.tmp 32) (.tmp 38) _ rfl w.heap.size 5 V (.int .u8 0) 1 1 underlying26 P S T U rfl dC _ a _ rfl p.out rfl rfl (by simp [Value.oneCell']) (by unfold maxLen;omega) oM u ?_;intro a8 a9 A z a5 Z);have y:=aX M.out p.out z u;go_roundw
      case rel=>refine ⟨a+1,b++ [j],by omega,by omega,by simp [L.out],fun k i c=>(by cases k),by go_num,?_,y⟩;rw [zAz];have v:bv j=.int .u8 (IntKind.u8.wrap n):=(by unfold bv;rw [o.out]);rw [List.map_cons,List.map_nil,v];exact A
      case measure=>simp [intOf];omega
  · subst x;obtain ⟨G,N,rfl,O⟩:=aU t;obtain ⟨J,K,I⟩:=hqq3 O f r;clear t f r O;by_cases a1:b.length < d
    · have ag:¬b.length < e:=fun k=>s ⟨a1,k⟩;have a3:¬(b.length:Int) < (e:Int):=oM;clear s;go_wp2_with fail;go_ret;exact ⟨b,G,N,Q,I.out,rfl,J.out,K.out⟩
    · clear s;go_wp2_with fail;go_ret;exact ⟨b,G,N,Q,I.out,rfl,J.out,K.out⟩
theorem aDq (e c a:Nat) (b:List Nat) (d:Int) (w:World) (j:LvW w e c b) (g:b.length=a+1) (i:a<=1000000) (k:d < (a:Int)):
 Calls prog 10 #[c,.int .i64 d] w fun f m=>f=.returned (.tuple #[.slice none 0 0,.int .i64 1])/\w=m:=by
 have n:decide (d < (a:Int))=true:=zBz k;go_enter func10,ntmps10;go_wp2_with fail;refine (bQ e c b a w j g i).mono ?_;rintro f w1 ⟨rfl,rfl⟩;go_wp2_with fail;go_ret2;exact ⟨rfl,rfl⟩
theorem aEg {P:Program} {fn:Func} {p b:Tmp} {ty:TypeId} (i:fn.results=#[.cell p ty,.tmp b]) (d:Array Value) (w:World) (c:Nat) (g:TypeId) (a:Array Value) (f:Nat×Nat) (e:TypeDesc)
 (n:d.getD p undef=.pointer (some ⟨c,0,none⟩)) (k:w.heap[c]?=some (.cells a g f))
 (q:P.underlying ty=some e) (j:(match e with | .struct _ | .array _ _=>true | _=>false)=true) (m:(P.info? ty).map (·.size)=some a.size):
 (results fn d).run P w=.ok (.tuple #[.agg a,d.getD b undef]) w:=by
 have o:d[p]?.getD undef=.pointer (some ⟨c,0,none⟩):=by simpa using n
 simp [results,i,o,asAddr,run_loadVar_row w c g ty a f e k q j m]
def yW (w:World) (a d c:Nat) (b:Ending) (e:World):Prop:=
 b=.returned (.tuple #[.agg (iA c d a),.int .i64 0])/\VB w.heap.size w e
theorem aIq {w a:World} {c:Array Value} {e i g d:Nat} (o:c.getD 2 undef=.pointer (some ⟨e,0,none⟩)) (m:c.getD 3 undef=.int .i64 0) (n:Bk a e 30 (iA g i d)) (q:VB w.heap.size w a):
 bodyPost prog f64 (fun k a=>k=.returned (.tuple #[.agg (iA g i d),.int .i64 0])/\VB w.heap.size w a) .ret ⟨c, []⟩ a:=by
 have j:=aEg (P:=prog) (fn:=f64) (p:=2) (b:=3) (ty:=30) rfl c a e 30 (iA g i d) (0,0) _ o n underlying30 rfl kR;rw [m] at j;exact bodyPost_ret j rfl ⟨rfl,q⟩
theorem aBK (i:Option Addr) (k r b c g:Nat) (a:List UInt8) (e:List Nat) (w:World) (L:IsSuf (aF a) e) (I:a.length<=127) (J:1<=c) (K:c<=64) (G:a.length<=b) (H:b<=2147483648)
 (m:(dN (aE (aF a) e) e b c a.length).length=g) (o:Rd w r 1 i g ((dN (aE (aF a) e) e b c a.length).map bv)) (B:r<=w.heap.size) (D:g<=k) (E:k<=maxLen):
 Calls prog 64 #[.slice i g k] w (yW w a.length c b):=by
 have f:=fun (w1:World) (A:Rd w1 w1.heap.size 1 i g ((dN (aE (aF a) e) e b c a.length).map bv))=>jG i k w1.heap.size b c a e w1 L I J K G H (by rw [m];exact A) nL (by rw [m];exact D) E;rw [m] at f;unfold lP at f;unfold yW;obtain ⟨j,s⟩:=eqx a.length;have N:=lhd o;rw [s] at f⊢;have q:=(o.mono B).alloc nL (.cells #[.int .i64 0,.int .i64 0,.int .i64 0] 30);rw [s] at q;have u:=f _ (q.mono (by simp));clear f o m q;go_enter func64,ntmps64;go_wp2_with fail;refine u.mono ?_;clear u;rintro S w1 ⟨W,rfl,M,n⟩;unfold iA;have t:Below w.heap.size w (w.alloc (.cells #[.int .i64 0,.int .i64 0,.int .i64 0] 30)):=bR.alloc nL _;have v:VB w.heap.size w w1:=(VisK.of_below t).trans ⟨n.1,n.2.mono fun O _ z=>by simp at z;omega⟩;have d:Bk w1 w.heap.size 30 #[.int .i64 0,.int .i64 0,.int .i64 0]:=n.1.bk (Bk.new w _ _) dC dC;have P:=d.cell 0;have Q:=d.cell 1;have R:=d.cell 2;have T:=d.frozen 0;have U:=d.frozen 1;have V:=d.frozen 2;obtain ⟨y,x⟩:=hqq2 v d;have X:=d.lt;clear n v d t M;go_wp2_with fail;have F:=(((x.out.set 0 (.int .i64 (b:Int))).set 1 (.int .i64 (c:Int))).set 2 (.int .i64 (j:Int))).alloc (.cells #[(b:Int),(c:Int),(j:Int)] 30);have C:=((((Below.refl w.heap.size w1).setCell (p:=⟨w.heap.size,0,none⟩) nL (.int .i64 (b:Int))).setCell (p:=⟨w.heap.size,1,none⟩) nL (.int .i64 (c:Int))).setCell (p:=⟨w.heap.size,2,none⟩) nL (.int .i64 (j:Int))).alloc (by simp [World.setCell];omega) (.cells #[(b:Int),(c:Int),(j:Int)] 30);exact aIq rfl rfl (by simpa [iA] using F) (VB.grow y.out C)
theorem aCQ {c:World} {Q:World->Prop} {d:Array Value} {g:Nat} {j:Int} {e:Array Value} (r:d.getD 3 undef=.pointer (some ⟨g,0,none⟩)) (m:d.getD 2 undef=.pointer none) (n:d.getD 4 undef=.int .i64 j) (q:Bk c g 30 e) (s:e.size=3) (o:Q c):
 bodyPost prog f11 (fun k c=>k=.returned (.tuple #[.pointer none,.agg e,.int .i64 j])/\Q c) .ret ⟨d, []⟩ c:=by
 have i:=nJ (P:=prog) (fn:=f11) (a:=2) (p:=3) (b:=4) (ty:=30) rfl d c g 30 e (0,0) _ r q underlying30 rfl (by rw [s];kernel_rfl);rw [m,n] at i;exact bodyPost_ret i rfl ⟨rfl,o⟩
theorem aDH (w:World):
 Calls prog 11 #[.slice none 0 0] w fun b a=>b=.returned (.tuple #[.pointer none,.agg #[.int .i64 0,.int .i64 0,.int .i64 0],.int .i64 4])/\Below w.heap.size w a:=by
 go_enter func11,ntmps11;go_wp2_with fail;have c:=(Bk.new w 30 #[.int .i64 0,.int .i64 0,.int .i64 0]);exact aCQ (Q:=fun a=>Below w.heap.size w a) rfl rfl rfl c rfl (bR.alloc nL _)
theorem aDG (c:Option Addr) (g a b f j v:Nat) (e:List UInt8) (w:World) (s:Rd w f 1 c g (e.map bv)) (y:f<=w.heap.size) (M:g=a+4) (X:4<=a) (Z:g<=b) (Y:a<=1099511627775) (B:ofB e (a:Int)=(j,0)) (D:mI (e.take a)=v) (a0:¬j=v):
 Calls prog 11 #[.slice c g b] w fun m u=>m=.returned (.tuple #[.pointer none,.agg #[.int .i64 0,.int .i64 0,.int .i64 0],.int .i64 5])/\Below w.heap.size w u:=by
 subst M;have C:=fun (w1:World) (n:Rd w1 f 1 c (a+4) (e.map bv))=>aKg c (a+4) b e (a:Int) f w1 j 0 B n (by unfold maxLen;omega);have t:=s.cut_hi0 (k:=a) (cap:=b) oM;rw [zBl,<-List.map_take] at t;have r:=fun (x:Option Addr) (w1:World) (n:Rd w1 w1.heap.size 1 (eZ c b 0 1) a ((e.take a).map bv)) (K:Rd w1 w1.heap.size 1 x 1 [.slice (eZ c b 0 1) a b])=>pE (eZ c b 0 1) x a b 1 (e.take a) w1 n oM K;rw [D] at r;obtain ⟨I,J,F,H⟩:=hqq4 s t r C;have T:IntKind.i64.wrap (((a+4:Nat):Int) - 4)=(a:Int):=by rw [IntKind.wrap_i64];omega
 have a1:=lV (P:=prog) 26 5 1 underlying26 (fun w=>by kernel_rfl) c (a+4) b a oM;have a2:¬((j:Int)=(v:Int)):=oM;clear s t r C B D;go_enter func11,ntmps11;go_wp2_with fail;have L:=Bk.new w 30 #[.int .i64 0,.int .i64 0,.int .i64 0];have o:Below w.heap.size w (w.alloc (.cells #[.int .i64 0,.int .i64 0,.int .i64 0] 30)):=bR.alloc nL _;refine (H.out _ (I.out.below (o.mono y))).mono ?_;rintro m w1 ⟨rfl,rfl⟩;go_wp2_with fail;have z:=J.out.below (o.mono y);refine (F.out _ _ (((z.mono (by simp;omega)).alloc nL _).mono (by simp)) (Rd.made' _ _ 1 1 _ _ rfl (by simp))).mono ?_;rintro m i ⟨rfl,q⟩;have A:=((o.alloc (by simp) (.cells #[.slice (eZ c b 0 1) a b] 26)).trans (q.mono (by simp;omega)));have d:Bk i w.heap.size 30 #[.int .i64 0,.int .i64 0,.int .i64 0]:=(L.alloc (.cells #[.slice (eZ c b 0 1) a b] 26)).below q (by simp;omega);have O:i.cell? ⟨w.heap.size,0,none⟩=some (.int .i64 0):=d.cell 0;have R:i.cell? ⟨w.heap.size,1,none⟩=some (.int .i64 0):=d.cell 1;have S:i.cell? ⟨w.heap.size,2,none⟩=some (.int .i64 0):=d.cell 2;have U:=d.frozen 0;have V:=d.frozen 1;have W:=d.frozen 2;obtain ⟨G,E⟩:=hqq2 d A;clear d A q z;go_wp2_with fail;have N:=((G.out.set 0 (.int .i64 0)).set 1 (.int .i64 0)).set 2 (.int .i64 0);exact aCQ (Q:=fun u=>Below w.heap.size w u) rfl rfl rfl (by simpa using N) rfl (((E.out.setCell (p:=⟨w.heap.size,0,none⟩) nL _).setCell (p:=⟨w.heap.size,1,none⟩) nL _).setCell (p:=⟨w.heap.size,2,none⟩) nL _)
def yF (w:World) (e:Nat) (a:List UInt8) (f:Ending) (d:World):Prop:=
 ∃b c,f=.returned (.slice b a.length c)/\Made d w.heap.size 5 1 b a.length c (a.map bv)/\VB e w d
theorem aBI (b d p:Nat) (a:List UInt8) (w:World) (f:TpAt w b d a p) (i:TabW w) (C:1 < b):
 Calls prog 65 #[d] w (yF w b a):=by
 have c:=aAP b d p a 0 a.length w f i C oM;unfold tO at c;rw [List.drop_zero,List.take_length] at c;obtain ⟨q,gk,G,H,n,j,E,F,D⟩:=f;clear E F;have k:q.length=a.length+1:=by rw [n.len,aL]
 have g:(aE (aF a) q).length=a.length+1:=by rw [bP,k]
 obtain ⟨u,s⟩:=hqq2 j.lvw g;obtain ⟨z,e⟩:=eqx a.length;unfold yF;rw [e] at c⊢;have t:=lhd e;rw [e] at D;have x:=lhd c;clear j g n k e c i;go_enter func65,ntmps65;go_wp2_with fail;refine (bQ b d _ z w u.out (by rw [s.out,t.out]) oM).mono ?_;rintro B w1 ⟨rfl,rfl⟩;go_wp2_with fail;refine x.out.mono ?_;rintro B I ⟨r,A,rfl,m,o⟩;obtain ⟨v,y⟩:=hqq2 m o;clear m o;go_wp2_with fail;go_ret;exact ⟨r,A,rfl,v.out,y.out⟩
def exB:List UInt8:= [83,75,82,49,9,2,3,9,4,98,1,99,1,0,1,98,1,16,238,82,29,2,2,1,235,64,232,4,165,208,238,79]
theorem xJ:IsSuf (aF [97,98,97]) [3,2,0,1]:=by
 refine ⟨by decide,?_⟩;have b:∀d e c,(∀g,g < c->aN (aF [97,98,97]) (d+g)=aN (aF [97,98,97]) (e+g))->aN (aF [97,98,97]) (d+c) < aN (aF [97,98,97]) (e+c)->sufLt (aF [97,98,97]) d e:=fun d e c i j=>⟨c+1,c,by omega,i,j⟩;refine .cons ?_ (.cons ?_ (.cons ?_ (.cons ?_ .nil)));intro f a;simp at a;rcases a with rfl | rfl | rfl;exact b 3 2 0 oM dC;exact b 3 0 0 oM dC;exact b 3 1 0 oM dC;intro f a;simp at a;rcases a with rfl | rfl;exact b 2 0 1 dC dC;exact b 2 1 0 oM dC;intro f a;simp at a;subst a;exact b 0 1 0 oM dC
 · intro f a;cases a
theorem vG:dN (aE (aF [97,98,97]) [3,2,0,1]) [3,2,0,1] 9 2 3=exB:=by decide+kernel
theorem aK6:ofB (exB.take 31) ((27:Nat):Int)=(4006651140,0):=by decide+kernel
theorem aKK:mI ((exB.take 31).take 27)=1044940673:=by decide+kernel
structure TI (w W:World) (gl:Nat) (gm:Nat) (A:Option Addr) (c gh:Nat):Prop where
 la:TpAt W w.heap.size gl [97,98,97] 2
 tp:TpAt W w.heap.size gm [97,98,97] 2
 rd:Rd W W.heap.size 1 A 32 (exB.map bv)
 hd:Bk W gh 30 #[.int .i64 9,.int .i64 2,.int .i64 3]
 low:Below w.heap.size w W
 sz:w.heap.size<=W.heap.size
theorem TI.grow {w c e:World} {i j:Nat} {d:Option Addr} {f g:Nat} (a:TI w c i j d f g) (b:Below c.heap.size c e):TI w e i j d f g:=
 ⟨a.la.vis (Vis.of_below b),a.tp.vis (Vis.of_below b),(a.rd.below b).mono b.size,a.hd.below b a.hd.lt,a.low.trans (b.mono a.sz),zAk a.sz b.size⟩
theorem aE0 (w:World) (H:TabW w):Calls prog 14 #[] w fun b aM=>b=.returned (.bool true)/\Below w.heap.size w aM:=by
 have aw:=H.pos;have aA:=lhd H;clear H;have aH:=oE;have aI:=vS;go_enter func14,ntmps14;go_wp2_with fail;have N:=aGq w #[.int .u8 97,.int .u8 98,.int .u8 97] (3,4) [97,98,97] 3 rfl rfl;refine (jI 2 _ 1 1 (w.heap.size+2) [(⟨some ⟨w.heap.size,0,none⟩,3,3, [97,98,97]⟩:Sl)] [97,98,97] 3 rfl rfl _ N.1 N.2 (by simp) oM oM oM oM).mono ?_;rintro b w1 ⟨G,own,rfl,aD,ak,a8⟩;have av:Below w.heap.size w w1:=(((Below.refl w.heap.size w).alloc nL _).alloc (by simp) _).trans (a8.mono (by simp;omega));have D:=lhd ((ak.tp (by simp)).mono (B':=w.heap.size) (by simp;omega));have E:=lhd av;clear ak av a8 N aD aH aI;go_wp2_with fail;have K:=D.out;obtain ⟨aK,gk,a7,ax,o,n,ap,_,_⟩:=K;have Q:=o.unique xJ;subst Q;have A:=jF w.heap.size G gk a7 2 9 [97,98,97] [3,2,0,1] ax w1 n ap xJ dC oM oM dC oM;clear n ap o;unfold eK at A;have aC:=vG;rw [show ([97,98,97]:List UInt8).length=3 from rfl,vG,show exB.length=32 from rfl] at A;refine A.mono ?_;clear A aC;rintro b ay ⟨i,e,rfl,am,T⟩;obtain ⟨Y,v,m⟩:=hqq3 (D.out.vis T.1) (E.out.trans (VB.to_below T E.out.size)) am;clear am T D E;go_wp2_with fail;have L:=jG i e ay.heap.size 9 2 [97,98,97] [3,2,0,1] ay xJ dC oM oM dC oM;rw [show ([97,98,97]:List UInt8).length=3 from rfl,vG,show exB.length=32 from rfl] at L;have ag:=m.out.cap;have ao:=m.out.max;have J:=L m.out.rd nL ag ao;unfold lP iA at J;refine J.mono ?_;clear L J;rintro b q ⟨a6,rfl,⟨aQ,aq⟩,p⟩;obtain ⟨a1,Z,x,a0⟩:=hqq4 (aq.tp dC) (Y.out.vis p.1) (v.out.trans (VB.to_below p nL|>.mono v.out.size)) (p.1.made m.out dC dC);have aG:=p.1.size;clear aq p Y m;obtain ⟨f,aj⟩:=eqx q.heap.size;have g:=(Below.refl q.heap.size q).alloc nL (.cells #[.int .i64 9,.int .i64 2,.int .i64 3] 30);have ar:TI w (q.alloc (.cells #[.int .i64 9,.int .i64 2,.int .i64 3] 30)) G a6 i e f:=
  ⟨Z.out.vis (Vis.of_below g),(a1.out.mono v.out.size).vis (Vis.of_below g),(a0.out.rd.below g).mono g.size,aj ▸ Bk.new _ _ _,x.out.trans (g.mono x.out.size),zAk x.out.size g.size⟩
 have r:=lhd ar;clear Z a1 x a0 aG ar g v;go_wp2_with fail;generalize q.alloc (.cells #[.int .i64 9,.int .i64 2,.int .i64 3] 30)=W3 at r⊢;clear aj;have al:(aE (aF [97,98,97]) [3,2,0,1]).length=3+1:=dC;have K:=r.out.la;obtain ⟨aK,gk,a7,ax,o,n,_,_,_⟩:=K;have Q:=o.unique xJ;subst Q;refine (aDq w.heap.size G 3 _ 2 W3 n.lvw al oM dC).mono ?_;clear n o al;rintro b C ⟨rfl,rfl⟩;go_wp2_with fail;refine (aDH W3).mono ?_;rintro b C ⟨rfl,a9⟩;have V:=lhd (r.out.grow a9);clear a9 r;go_wp2_with fail;have ad:=(Below.refl C.heap.size C).alloc nL (.cells #[.int .i64 0,.int .i64 0,.int .i64 0] 30);have s:=lhd (V.out.grow ad);generalize C.alloc (.cells #[.int .i64 0,.int .i64 0,.int .i64 0] 30)=W4 at s⊢;clear V ad;have aJ:=lV (P:=prog) 26 5 1 underlying26 (fun w=>by kernel_rfl) i 32 e 31 oM;go_wp2_with fail;have O:=s.out.rd.cut_hi (k:=31) oM;rw [<-List.map_take,zBl] at O;refine (aDG i 31 27 e W4.heap.size 4006651140 1044940673 (exB.take 31) W4 O nL rfl oM oM oM aK6 aKK dC).mono ?_;rintro b U ⟨rfl,aa⟩;have W:=lhd (s.out.grow aa);clear aa s O aJ;go_wp2_with fail;have ae:=(Below.refl U.heap.size U).alloc nL (.cells #[.int .i64 0,.int .i64 0,.int .i64 0] 30);have t:=lhd (W.out.grow ae);generalize U.alloc (.cells #[.int .i64 0,.int .i64 0,.int .i64 0] 30)=W5 at t⊢;clear W ae;have M:=aBK i e W5.heap.size 9 2 32 [97,98,97] [3,2,0,1] W5 xJ dC oM oM dC oM;rw [show ([97,98,97]:List UInt8).length=3 from rfl,vG] at M;have I:=M rfl t.out.rd nL ag ao;unfold yW iA at I;clear M;go_wp2_with fail;refine I.mono ?_;clear I;rintro b a ⟨rfl,au⟩;have ab:Below W5.heap.size W5 a:=VB.to_below au nL;have X:=lhd (t.out.grow ab);clear ab au t;have af:=(Below.refl a.heap.size a).alloc nL (.cells #[.int .i64 9,.int .i64 2,.int .i64 3] 30);have j:=X.out.grow af;have d:=lhd j;have R:=j.rd.cut_hi (k:=4) oM;rw [<-List.map_take,zBl] at R;have aL:(convert 26 9 (.slice i 4 e)).run prog (a.alloc (.cells #[.int .i64 9,.int .i64 2,.int .i64 3] 30))=.ok (.string ⟨#[83,75,82,49]⟩) (a.alloc (.cells #[.int .i64 9,.int .i64 2,.int .i64 3] 30)):=(vT R e).trans rfl;have a3:(a.alloc (.cells #[.int .i64 9,.int .i64 2,.int .i64 3] 30)).cell? ⟨f,0,none⟩=some (.int .i64 9):=j.hd.cell 0;have a4:(a.alloc (.cells #[.int .i64 9,.int .i64 2,.int .i64 3] 30)).cell? ⟨f,1,none⟩=some (.int .i64 2):=j.hd.cell 1;have a5:(a.alloc (.cells #[.int .i64 9,.int .i64 2,.int .i64 3] 30)).cell? ⟨f,2,none⟩=some (.int .i64 3):=j.hd.cell 2;have ah:Bk (a.alloc (.cells #[.int .i64 9,.int .i64 2,.int .i64 3] 30)) a.heap.size 30 #[.int .i64 9,.int .i64 2,.int .i64 3]:=Bk.new _ _ _;have u:=lhd ah;clear af j R X ah;go_wp2_with fail;obtain ⟨F,ai⟩:=eqx a.heap.size;rw [ai] at u⊢;clear aL a3 a4 a5 ai;generalize a.alloc (.cells #[.int .i64 9,.int .i64 2,.int .i64 3] 30)=W6 at d u⊢;have S:=aBI w.heap.size a6 2 [97,98,97] W6 d.out.tp (aA.out.below d.out.low aw) aw;unfold yF at S;refine S.mono ?_;clear S;rintro b c ⟨az,a2,rfl,an,B⟩;have ac:Below w.heap.size W6 c:=VB.to_below B d.out.sz;have aR:(convert 26 9 (.slice az 3 a2)).run prog c=.ok (.string ⟨#[97,98,97]⟩) c:=(vT an.rd a2).trans rfl;have y:=B.1.bk d.out.hd dC dC;have z:=B.1.bk u.out dC dC;have a3:c.cell? ⟨f,0,none⟩=some (.int .i64 9):=y.cell 0;have a4:c.cell? ⟨f,1,none⟩=some (.int .i64 2):=y.cell 1;have a5:c.cell? ⟨f,2,none⟩=some (.int .i64 3):=y.cell 2;have aN:c.cell? ⟨F,0,none⟩=some (.int .i64 9):=z.cell 0;have aO:c.cell? ⟨F,1,none⟩=some (.int .i64 2):=z.cell 1;have aP:c.cell? ⟨F,2,none⟩=some (.int .i64 3):=z.cell 2;have aB:=lhd (d.out.low.trans ac);clear ac y z an B d u;go_wp2_with fail;go_ret;exact ⟨rfl,aB.out⟩
theorem LF.belowS {a:Nat} {w b:World} {own g:Nat->Nat} (f:LF a w b own g) (e:a<=w.heap.size):Below a w b:=f.keep.to_below e fun c j d=>by have i:a<=c:=d;omega
theorem TpAt.save {w:World} {c d b most:Nat} {a:List UInt8} {e:List Nat} (i:TpAt w c d a b) (r:IsSuf (aF a) e) (o:1<=b) (p:b<=64) (k:a.length<=most) (m:most<=2147483648):
 Calls prog 10 #[d,(most:Int)] w (eK w c (dN (aE (aF a) e) e most b a.length)):=by
 obtain ⟨t,gk,g,s,f,j,q,u,n⟩:=i;obtain rfl:=f.unique r;exact jF c d gk g b most a t s w j q f n o p k m
theorem aHA {w:World} {c d g:Nat} {b:List UInt8} (e:TpAt w c d b g):∃a,IsSuf (aF b) a:=by
 obtain ⟨a,_,_,_,f,_⟩:=e;exact ⟨a,f⟩
def aKi (w:World) (e:Nat) (d:Ending) (c:World):Prop:=
 ∃(a:List UInt8) (b:Nat) (own:Nat->Nat),a.length<=68/\d=.returned (.tuple #[b,.string ⟨a.toArray⟩])/\LiveE c w.heap.size own b a e/\Below w.heap.size w c
theorem aI8 (ad:Option Addr) (ab aJ:Nat) (l:List Int) (aL:Bool) (aw:Int) (af:Option Addr) (s bi:Nat) (aa:List Int) (D:Nat) (bC:(IntKind.u64.wrap aw).tmod 64=(D:Int)) (w:World) (b6:Rd w w.heap.size 1 ad ab (l.map iv)) (bA:ab<=maxLen) (E:Rd w w.heap.size 1 af s (aa.map iv)) (bT:s<=maxLen) (an:TabW w):
 Calls prog 9 #[.slice ad ab aJ,.bool aL,.int .i64 aw,.slice af s bi] w (aKi w (1+D)):=by
 obtain ⟨aC,bf⟩:=hqq2 b6 an;have ba:=an.pos;have bD:D < 64:=by obtain ⟨U,a8,bU⟩:=iH aw 64 oM;omega
 have a1:∃Z ac,0 < s->af=some ⟨Z,ac,none⟩/\∀(r:Nat) (q:Int),aa[r]?=some q->∀ax,Below w.heap.size w ax->ax.cell? ⟨Z,ac+r,none⟩=some (.int .i64 q):=by
  rcases zBa s with p | p;exact ⟨0,0,fun aN=>by omega⟩
  · obtain ⟨bh,bE,bk,bu,bv⟩:=E.2 p;exact ⟨bh,bE,fun _=>⟨bk,fun r q a9 ax b=>(b.cell bu).trans (bv r _ (by rw [zAf,a9];rfl))⟩⟩
 have b3:aa.length=s:=by simpa using E.1
 obtain ⟨Z,ac,a1⟩:=a1;obtain ⟨ay,bg⟩:=hqq2 a1 b3;clear b6 E an a1 b3;go_enter func9,ntmps9;go_wp2_with fail;refine (aI1 ad ab aJ w.heap.size l 60 aL w aC.out nL bA oM).mono ?_;rintro A w1 ⟨S,bF,bj,bB,_,rfl,b4,ap⟩;have bd:=vT b4.rd bj;obtain ⟨ae,ai,Y,bb,au,aW⟩:=aJh w1 S _ rfl;have ao:=ap.trans (aW.mono ap.size);obtain ⟨X,a2⟩:=eqx S.length;rw [a2] at bd bb au bB⊢;have a3:Below Y.heap.size Y (Y.alloc (.cells #[.slice ae X ai] 26)):=bR.alloc nL _;have ar:=jI (1+D) _ 1 1 _ [⟨ae,X,ai,S⟩] S X (by simp [gG]) a2 _ (Rd.made Y 26 1 1 #[.slice ae X ai] rfl) (fun bc b8=>by simp at b8;subst b8;exact (au.below a3).mono a3.size) nL oM oM oM oM;have B:(((1+D:Nat)):Int)=1+(D:Int):=oM;rw [B] at ar;have aT:=ao.trans (a3.mono ao.size);obtain ⟨V,be,aB⟩:=hqq3 aT a2 ar;clear b4 ap aC au aW ao aT ar a3 a2 B;go_wp2_with fail;refine aB.out.mono ?_;rintro A bV ⟨L,jT,rfl,bw,N,aU⟩;have az:=lhd (V.out.trans (aU.mono V.out.size));have o:=lhd (N.low (B':=w.heap.size) V.out.size);clear N aU aB bb bd bw V bC;obtain ⟨R,av⟩:=eqx (1+D);rw [av] at o⊢;have E:1<=R:=oM;have b7:R<=64:=oM;obtain ⟨aE,aF,aH⟩:=hqq3 E b7 av;clear E b7 av bD;go_wp2_with fail;go_loopw [10,13] (fun bc m wr=>∃(r:Nat) (a:List UInt8) (own:Nat->Nat),r<=s/\r<=8/\a.length<=60+r/\bc=.string ⟨a.toArray⟩/\m=.int .i64 (r:Int)/\LiveE wr w.heap.size own L a R/\Below w.heap.size w wr) (fun _ m _=>8 -(intOf m).toNat)
 case atStart=>exact ⟨0,S,jT,zAp _,by omega,by rw [be.out];omega,rfl,rfl,o.out,az.out⟩
 case round=>
  clear o az;obtain ⟨m,a,own,bP,bQ,bt,rfl,rfl,N,aV⟩:=hrel;obtain ⟨i,a7⟩:=eqx a.length;rw [a7] at bt;have aS:i<=68:=oM;have bW:(⟨a.toArray⟩:ByteArray).size=i:=(qP a).trans a7;obtain ⟨o,n,d⟩:=hqq3 N aV a7;clear N a7 aV;by_cases a4:m < s/\m < 8
  · obtain ⟨bz,bS⟩:=a4;obtain ⟨q,a9⟩:∃q,aa[m]?=some q:=⟨_,zAa (by rw [bg.out];exact bz)⟩;obtain ⟨bs,aX⟩:=ay.out oM;have aj:wr.cell? ⟨Z,ac+m,none⟩=some (.int .i64 q):=aX m q a9 wr n.out;clear aX ay;subst bs;obtain ⟨b,a6,bx⟩:=iH q ((i+1:Nat):Int) oM;have b1:b<=i:=oM;have a0:IntKind.i64.wrap ((i:Int)+1)=((i+1:Nat):Int):=(by rw [IntKind.wrap_i64];omega);have B:IntKind.u64.wrap ((i+1:Nat):Int)=((i+1:Nat):Int):=(by rw [IntKind.wrap_u64];omega);have ak:IntKind.i64.wrap (b:Int)=(b:Int):=(by rw [IntKind.wrap_i64];omega);obtain ⟨aI,aR⟩:=eqx (i+1);rw [aR] at a0 B a6;have al:¬aI=0:=oM;have am:¬(aI:Int)=0:=oM;have j:b<=a.length:=(by rw [d.out];exact b1);have G:=lhd j;obtain ⟨U,a8⟩:=eqx (bits .and .i64 q 1);clear bx a9 aR j;by_cases M:U=1/\b < i
    · obtain ⟨rfl,b2⟩:=M;have aq:=uL wr w.heap.size own L a R b o.out (bf.out.below n.out ba) ba (by rw [d.out];omega) (by rw [d.out];exact b2) aE.out aF.out;unfold tQ at aq;have aA:=lhd aq;obtain ⟨C,b5⟩:=eqx (b+1);have ag:=lhd (show C<=a.length by rw [d.out];omega);have ah:=lhd b5;clear aq b5;go_wp2_with fail;refine aA.out.mono ?_;rintro A z ⟨rfl,O,x,y⟩;obtain ⟨I,t⟩:=hqq2 x (n.out.trans (y.belowS n.out.size));clear x y aj aA o n a6 a0 B ak al am a8;go_wp2_with fail;refine wp_region_any kR ?_;have j:=G.out;have b9:a.length=i:=d.out;have aY:(a.take b).length<=90:=(by rw [zAj,d.out];omega);have aZ:(a.drop b).length<=90:=(by rw [zAw,d.out];omega);have b0:(a.drop C).length<=90:=(by rw [zAw,d.out];omega);refine aQ [76,77,78,79,80,81,82,83,10] Grow (Vs [is (.string ⟨(a).toArray⟩),is (b:Int),is (.string ⟨(a.take b).toArray⟩),is (.string ⟨(a).toArray⟩),is (b:Int),is (C:Int),is (.string ⟨(a.drop C).toArray⟩),is (.string ⟨(aG a b).toArray⟩),is (.string ⟨(aG a b).toArray⟩)]) _ _ rfl kR bR (fun _ _=>Grow.trans) (gK tA2) ?_ ?_
      · refine aO ?_;refine pH 10 (.string ⟨(a).toArray⟩) ?_;refine pH 14 (.int .i64 (b:Int)) ?_;refine sC (fun _ g _ _ _ _ c _ _ _ e=>?_) ?_
        · have bH:_=_:=c 0 76 kR rfl;have bI:_=_:=c 1 77 kR rfl;have P:=kY a g b j;have Q:=qR a g b j;go_simp;exact e _ _ bR rfl
        refine pH 10 (.string ⟨(a).toArray⟩) ?_;refine pH 14 (.int .i64 (b:Int)) ?_;refine sC (fun _ _ _ _ _ _ c _ _ _ e=>?_) ?_
        · have bL:_=_:=c 4 80 kR rfl;have bG:IntKind.i64.wrap ((b:Int)+1)=(C:Int):=(by rw [IntKind.wrap_i64];have:=ah.out;omega);go_simp;exact e _ _ bR rfl
        refine sC (fun _ g _ _ _ _ c _ _ _ e=>?_) ?_
        · have bK:_=_:=c 3 79 kR rfl;have bM:_=_:=c 5 81 kR rfl;have P:=kX a g C ag.out;have Q:=qQ a g C ag.out;go_simp;exact e _ _ bR rfl
        refine sC (fun _ _ _ _ _ _ c _ _ _ e=>?_) ?_
        · have bJ:_=_:=c 2 78 kR rfl;have bN:_=_:=c 6 82 kR rfl;go_simp;rw [zBw oM];exact e _ _ bR ((pU _ _).trans (by rw [<-ah.out];rfl))
        refine pV 7 83 ?_;exact aD
      · intro K T f c;have J:K (.tmp 10)=.string ⟨(aG a b).toArray⟩:=c 8 10 rfl;simp only [zqq];rw [J];clear c;replace f:Below z.heap.size z T:=gD f;have u:=t.out.trans (Below.mono f t.out.size);have v:=I.out.vis (Vis.of_below f);obtain ⟨F,H⟩:=hqq2 u v;clear u v f;go_wp2_with fail;go_roundw
        case rel=>exact ⟨m+1,aG a b,O,by omega,by omega,by have:=cW a (k:=b) (by have:=ag.out;have:=ah.out;omega);have:=d.out;omega,rfl,by go_num,H.out,F.out⟩
        case measure=>simp [intOf];omega
    · have aM:(decide (U=1)&&decide ((b:Int) < (i:Int)))=false:=(by rw [Bool.and_eq_false_iff];by_cases p:U=1;exact .inr (zBy fun A=>M ⟨p,by omega⟩);exact .inl (zBy p));have a5:=kT wr w.heap.size own L a R b 98 o.out (by rw [d.out];omega) (by rw [d.out];exact b1) aE.out aF.out;unfold tQ at a5;have aK:(((98:UInt8).toNat:Nat):Int)=98:=rfl;rw [aK] at a5;have W:=lhd a5;clear a5 aK;by_cases p:U=1
      · have b2:¬b < i:=fun aN=>M ⟨p,aN⟩;subst p;clear aM M;go_wp2_with fail;refine W.out.mono ?_;rintro A z ⟨rfl,O,x,y⟩;obtain ⟨I,t⟩:=hqq2 x (n.out.trans (y.belowS n.out.size));clear x y aj W o n a6 a0 B ak al am a8;go_wp2_with fail;refine wp_region_any kR ?_;have j:=G.out;have b9:a.length=i:=d.out;have aY:(a.take b).length<=90:=(by rw [zAj,d.out];omega);have aZ:(a.drop b).length<=90:=(by rw [zAw,d.out];omega);have b0:(a.drop (b+1)).length<=90:=(by rw [zAw,d.out];omega);refine aQ [89,90,91,92,93,94,95,96,10] Grow (Vs [is (.string ⟨(a).toArray⟩),is (b:Int),is (.string ⟨(a.take b).toArray⟩),is (.string ⟨(a.take b++ [98]).toArray⟩),is (.string ⟨(a).toArray⟩),is (b:Int),is (.string ⟨(a.drop b).toArray⟩),is (.string ⟨(aP a b 98).toArray⟩),is (.string ⟨(aP a b 98).toArray⟩)]) _ _ rfl kR bR (fun _ _=>Grow.trans) (gK tA2) ?_ ?_
        · refine aO ?_;refine pH 10 (.string ⟨(a).toArray⟩) ?_;refine pH 14 (.int .i64 (b:Int)) ?_;refine sC (fun _ g _ _ _ _ c _ _ _ e=>?_) ?_
          · have bl:_=_:=c 0 89 kR rfl;have bm:_=_:=c 1 90 kR rfl;have P:=kY a g b j;have Q:=qR a g b j;go_simp;exact e _ _ bR rfl
          refine sC (fun _ _ _ _ _ _ c _ _ _ e=>?_) ?_
          · have bn:_=_:=c 2 91 kR rfl;go_simp;rw [zBw oM];exact e _ _ bR (pU _ [98])
          refine pH 10 (.string ⟨(a).toArray⟩) ?_;refine pH 14 (.int .i64 (b:Int)) ?_;refine sC (fun _ g _ _ _ _ c _ _ _ e=>?_) ?_
          · have bp:_=_:=c 4 93 kR rfl;have bq:_=_:=c 5 94 kR rfl;have P:=kX a g b j;have Q:=qQ a g b j;go_simp;exact e _ _ bR rfl
          refine sC (fun _ _ _ _ _ _ c _ _ _ e=>?_) ?_
          · have bo:_=_:=c 3 92 kR rfl;have br:_=_:=c 6 95 kR rfl;go_simp;rw [zBw oM];exact e _ _ bR ((pU _ _).trans (by unfold aP;rw [zCo];rfl))
          refine pV 7 96 ?_;exact aD
        · intro K T f c;have J:K (.tmp 10)=.string ⟨(aP a b 98).toArray⟩:=c 8 10 rfl;simp only [zqq];rw [J];clear c;replace f:Below z.heap.size z T:=gD f;have u:=t.out.trans (Below.mono f t.out.size);have v:=I.out.vis (Vis.of_below f);obtain ⟨F,H⟩:=hqq2 u v;clear u v f;go_wp2_with fail;go_roundw
          case rel=>exact ⟨m+1,aP a b 98,O,by omega,by omega,by rw [eF _ _ G.out,d.out];omega,rfl,by go_num,H.out,F.out⟩
          case measure=>simp [intOf];omega
      · clear aM M;go_wp2_with fail;refine W.out.mono ?_;rintro A z ⟨rfl,O,x,y⟩;obtain ⟨I,t⟩:=hqq2 x (n.out.trans (y.belowS n.out.size));clear x y aj W o n a6 a0 B ak al am a8;go_wp2_with fail;refine wp_region_any kR ?_;have j:=G.out;have b9:a.length=i:=d.out;have aY:(a.take b).length<=90:=(by rw [zAj,d.out];omega);have aZ:(a.drop b).length<=90:=(by rw [zAw,d.out];omega);have b0:(a.drop (b+1)).length<=90:=(by rw [zAw,d.out];omega);refine aQ [89,90,91,92,93,94,95,96,10] Grow (Vs [is (.string ⟨(a).toArray⟩),is (b:Int),is (.string ⟨(a.take b).toArray⟩),is (.string ⟨(a.take b++ [98]).toArray⟩),is (.string ⟨(a).toArray⟩),is (b:Int),is (.string ⟨(a.drop b).toArray⟩),is (.string ⟨(aP a b 98).toArray⟩),is (.string ⟨(aP a b 98).toArray⟩)]) _ _ rfl kR bR (fun _ _=>Grow.trans) (gK tA2) ?_ ?_
        · refine aO ?_;refine pH 10 (.string ⟨(a).toArray⟩) ?_;refine pH 14 (.int .i64 (b:Int)) ?_;refine sC (fun _ g _ _ _ _ c _ _ _ e=>?_) ?_
          · have bl:_=_:=c 0 89 kR rfl;have bm:_=_:=c 1 90 kR rfl;have P:=kY a g b j;have Q:=qR a g b j;go_simp;exact e _ _ bR rfl
          refine sC (fun _ _ _ _ _ _ c _ _ _ e=>?_) ?_
          · have bn:_=_:=c 2 91 kR rfl;go_simp;rw [zBw oM];exact e _ _ bR (pU _ [98])
          refine pH 10 (.string ⟨(a).toArray⟩) ?_;refine pH 14 (.int .i64 (b:Int)) ?_;refine sC (fun _ g _ _ _ _ c _ _ _ e=>?_) ?_
          · have bp:_=_:=c 4 93 kR rfl;have bq:_=_:=c 5 94 kR rfl;have P:=kX a g b j;have Q:=qQ a g b j;go_simp;exact e _ _ bR rfl
          refine sC (fun _ _ _ _ _ _ c _ _ _ e=>?_) ?_
          · have bo:_=_:=c 3 92 kR rfl;have br:_=_:=c 6 95 kR rfl;go_simp;rw [zBw oM];exact e _ _ bR ((pU _ _).trans (by unfold aP;rw [zCo];rfl))
          refine pV 7 96 ?_;exact aD
        · intro K T f c;have J:K (.tmp 10)=.string ⟨(aP a b 98).toArray⟩:=c 8 10 rfl;simp only [zqq];rw [J];clear c;replace f:Below z.heap.size z T:=gD f;have u:=t.out.trans (Below.mono f t.out.size);have v:=I.out.vis (Vis.of_below f);obtain ⟨F,H⟩:=hqq2 u v;clear u v f;go_wp2_with fail;go_roundw
          case rel=>exact ⟨m+1,aP a b 98,O,by omega,by omega,by rw [eF _ _ G.out,d.out];omega,rfl,by go_num,H.out,F.out⟩
          case measure=>simp [intOf];omega
  · by_cases p:m < s
    · have bO:¬m < 8:=fun A=>a4 ⟨p,A⟩;clear a4;go_wp2_with fail;go_ret2;exact ⟨a,L,own,by rw [d.out];exact aS,rfl,by rw [aH.out];exact o.out,n.out⟩
    · clear a4;go_wp2_with fail;go_ret2;exact ⟨a,L,own,by rw [d.out];exact aS,rfl,by rw [aH.out];exact o.out,n.out⟩
end Go.Proofs.YthldmddkfbijhaaGreatDoor
