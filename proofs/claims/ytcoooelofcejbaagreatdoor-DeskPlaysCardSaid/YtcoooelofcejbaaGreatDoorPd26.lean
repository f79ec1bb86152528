/- Lemmas of the walk. Conditions: each its own. -/
import Derived.Test.YtcoooelofcejbaaGreatDoorPd21
import Derived.Test.YtcoooelofcejbaaGreatDoorPd24
import Derived.Test.YtcoooelofcejbaaGreatDoorShd
import Derived.Test.YtcoooelofcejbaaGreatDoorProg
import Derived.Test.YtcoooelofcejbaaGreatDoorShl
import Derived.Test.YtcoooelofcejbaaGreatDoorSht
import Derived.Test.YtcoooelofcejbaaGreatDoorRows
import Derived.Test.YtcoooelofcejbaaGreatDoorShs
set_option linter.all false
set_option maxRecDepth 100000
set_option maxHeartbeats 4000000
open Go.Proofs.Tryz
namespace Go.Proofs.YtcoooelofcejbaaGreatDoor
section
open Go.RowKit
structure TabD (w:World):Prop where
 tab:TabW w
 pow:Lib.TabIs prog w "internal/strconv.uint64pow10" .u64 Lib.pow10Tab
 mx:∃m,w.cell? ⟨0,0,none⟩=some (.int .i64 m)
 low:0 < w.heap.size/\1 < w.heap.size
def aKr:prog.globalNamed "internal/strconv.uint64pow10" =some 1:=by kernel_rfl
def TabD.below {B:Nat} {d e:World} (a:TabD d) (b:Below B d e) (f:7 < B) (g:1 < B) (i:0 < B):TabD e:=by
 refine ⟨a.tab.below b f,?_,?_,⟨zAl a.low.1 b.size,zAl a.low.2 b.size⟩⟩;have c:=a.pow;unfold Lib.TabIs World.var? at c⊢;rw [aKr] at c⊢;simp only [Option.bind_some] at c⊢;rw [b.block _ g];exact c;obtain ⟨k,j⟩:=a.mx;exact ⟨k,(b.cell (p:=⟨0,0,none⟩) i).trans j⟩
def aIo (a:World) (b c:Nat):Below b a (a.drewN c):=⟨rfl,rfl,rfl,zAs _,fun _ _=>rfl⟩
def jZ (a:List UInt8):(⟨a.toArray⟩:ByteArray).size=a.length:=by show a.toArray.size=_;simp
def aFr (a:List UInt8) {b:World} (i:a.length < 4294967281) (d:∃e,b.cell? ⟨0,0,none⟩=some (.int .i64 e)):
 Calls prog 20 #[.string ⟨a.toArray⟩,.string ⟨#[32]⟩] b fun c g=>c=.returned (.tuple #[.string ⟨(cV a).1.toArray⟩,.string ⟨(cV a).2.1.toArray⟩,.bool (cV a).2.2])/\Below b.heap.size b g:=by
 obtain ⟨e,d⟩:=d;have f:=Any.strings_Cut shCut ⟨a.toArray⟩ ⟨#[32]⟩ e b (by rw [jZ];exact i) d;have c:Lib.cut (⟨a.toArray⟩:ByteArray).data.toList (⟨#[32]⟩:ByteArray).data.toList=cV a:=aKz a;rw [c] at f;exact f.mono (by rintro c g ⟨rfl,j,rfl⟩;exact ⟨rfl,aIo _ _ _⟩)
def aGG (a:List UInt8) {b:World} (i:a.length < 4294967281) (d:∃e,b.cell? ⟨0,0,none⟩=some (.int .i64 e)):
 Calls prog 10 #[.string ⟨a.toArray⟩,.string ⟨#[10]⟩] b fun c k=>c=.returned (.slice (some b.heap.size) (bW a).length (bW a).length)/\k=b.alloc (.cells ((bW a).map dY).toArray 9):=by
 obtain ⟨e,d⟩:=d;have f:=Any.strings_Split shSpl kR ⟨a.toArray⟩ ⟨#[10]⟩ e b (by rw [jZ];exact i) d dC;have c:=aHh a;have j:Lib.countB ⟨a.toArray⟩ ⟨#[10]⟩+1=(bW a).length:=by have g:=Lib.splitB_all ⟨#[10]⟩ dC 0 _ ⟨a.toArray⟩ rfl;rw [c,zBc] at g;exact g.symm
 rw [c,j,zCh] at f;exact f
def aIS {b:Int} {a:World} (g:-9223372036854775808<=b) (i:b<=9223372036854775807) (k:Lib.TabIs prog a "internal/strconv.uint64pow10" .u64 Lib.pow10Tab):
 Calls prog 16 #[.int .i64 b] a fun c e=>c=.returned (dY (Lib.itoa b))/\Below a.heap.size a e:=
 (Any.strconv_Itoa shIto b g i a k).mono (by
  rintro c e ⟨rfl,l,d,rfl⟩;refine ⟨rfl,rfl,rfl,rfl,?_,fun f j=>?_⟩
  · show _<=(a.heap++d).size;simp
  · show (a.heap++d)[f]?=_;rw [Array.getElem?_append_left j])
def aIX {a:List UInt8} (b:World) (e:a≠ []) (g:a.length<=18) (f:a.all cQ=true):
 Calls prog 55 #[.string ⟨a.toArray⟩] b fun c d=>c=.returned (.tuple #[(mN a:Int),.nilIface])/\Below b.heap.size b d:=
 (Any.strconv_Atoi shAto ⟨a.toArray⟩ (mN a:Int) (by rw [jZ];exact g) (aII e f) b).mono (by
  rintro c d ⟨rfl,i,rfl⟩;exact ⟨rfl,Go.Joins.below_bytesWorld _ _ _ _ nL⟩)
def aIR {i:Option Addr} {c g:Nat} {a:List (List UInt8)} {d:World} (l:Rd d d.heap.size 1 i c (a.map dY)) (o:0 < c) (v:c<=g) (r:(Lib.join a [32]).length<=140737488355328) (w:c<=140737488355328):
 Calls prog 17 #[.slice i c g,.string ⟨#[32]⟩] d fun f u=>f=.returned (dY (Lib.join a [32]))/\Below d.heap.size d u:=by
 obtain ⟨n,t,rfl,p,q⟩:=l.2 o;have s:a.length=c:=by simpa using l.1
 have f:(a.map fun e=>(⟨e.toArray⟩:ByteArray)).map (·.data.toList)=a:=by
  rw [zCh]
  conv=>rhs;rw [<-List.map_id a]
  exact List.map_congr_left fun e _=>by simp
 have j:=Any.strings_Join shJoi shJoiX n t g (a.map fun e=>(⟨e.toArray⟩:ByteArray)) ⟨#[32]⟩ d (fun m e b=>q m _ (by
  rw [zAf] at b⊢;cases k:a[m]? with
  | none=>rw [k] at b;cases b
  | some x=>
    rw [k] at b;injection b with b;subst b;rfl)) p (by rw [zBc];omega) (by rw [zBc];omega) (by rw [f];exact r)
 rw [f,zBc,s] at j;exact j
def aHg:(prog.info? 9).map (fun a=>(a.zero.map (·.cells.size),a.size,a.bytes))=some (some 1,1,16):=by kernel_rfl
def aFF:∃b c,prog.info? 9=some b/\b.zero=some c/\b.size=1/\b.bytes=16/\c.cells.size=1:=by
 have a:=aHg;cases e:prog.info? 9 with
 | none=>rw [e] at a;cases a
 | some b=>
   rw [e] at a;cases d:b.zero with
   | none=>simp [d] at a
   | some c=>
     simp [d] at a;exact ⟨b,c,rfl,d,a.2.1,a.2.2,a.1⟩
def cR {z:Option Addr} {f:Nat} (W:Nat) {c:List Int} {d:World} (x:Rd d d.heap.size 1 z f (c.map zv)) (ak:f<=100000) (p:∀b∈c,-9223372036854775808<=b/\b<=9223372036854775807) (D:TabD d):
 Calls prog 9 #[.slice z f W] d fun n ad=>n=.returned (dY (aZ c))/\Below d.heap.size d ad:=by
 obtain ⟨aa,ae,a0,a6,a7,a8,a9⟩:=aFF;have J:c.length=f:=by simpa using x.1
 obtain ⟨l,S,u,q⟩:=hqq4 J x p D;clear x p D J;go_enter func9,ntmps9;go_wp2_with fail;go_loopw [3,8] (fun ac y wr=>∃a:Nat,a<=f/\y=.int .i64 (a:Int)/\wr.ownsRow d.heap.size 9 1 ac a (((c.take a).map Lib.itoa).map dY)/\Below d.heap.size d wr) (fun _ y _=>f -(intOf y).toNat)
 case atStart=>exact ⟨0,by omega,rfl,World.ownsRow_nil _ _ _ _,Below.refl _ _⟩
 case round=>
  obtain ⟨a,aj,rfl,k,e⟩:=hrel;by_cases a2:a < f
  · obtain ⟨V,ab,rfl,ai,E⟩:=(S.out.below e).2 oM;obtain ⟨b,s⟩:∃b,c[a]?=some b:=⟨_,zAa (by rw [l.out];exact a2)⟩;have X:wr.cell? ⟨V,ab+a,none⟩=some (.int .i64 b):=E a _ (by rw [zAf,s];rfl);have Q:=u.out b (zAd s);have o:=e.size;have O:=(q.out.below e q.out.tab.pos q.out.low.2 q.out.low.1).pow;have F:=aIS Q.1 Q.2 O;have N:(c.take (a+1)).map Lib.itoa=(c.take a).map Lib.itoa++ [Lib.itoa b]:=(by rw [zAv,s];simp);have al:(a:Int) < (f:Int):=oM;obtain ⟨A,B,i,m,T⟩:=hqq5 F k e o N;clear F k e o O E s N;go_wp2_with fail;refine A.out.mono ?_;rintro n w1 ⟨rfl,g⟩;have w:Below w1.heap.size w1 (w1.alloc (.cells #[dY (Lib.itoa b)] 9)):=bR.alloc nL _;have L:=aM (aM B.out g) w;have j:=(i.out.trans (g.mono m.out)).trans (w.mono (zAk m.out g.size));obtain ⟨C,t⟩:=hqq2 L j;have M:=lhd (show d.heap.size<=(w1.alloc (.cells #[dY (Lib.itoa b)] 9)).heap.size from j.size);clear L j g w B i m A X;go_wp2_with (at_builtin;refine bK _ rfl (.tmp 12) (.tmp 15) _ rfl d.heap.size 9 aa ae 1 16 underlying31 a0 a6 a7 a8 a9 dC u3 a _ rfl C.out _ _ 1 1 _ rfl (qK (Bk.new w1 9 #[dY (Lib.itoa b)]) rfl) (by simp [Value.oneCell',dY]) (by unfold maxLen;omega) oM M.out ?_;intro am an a4 Z ah);have Y:=bC t.out C.out Z M.out;go_roundw
    case rel=>refine ⟨a+1,by omega,by go_num,?_,Y⟩;rw [T.out,zAz];exact a4
    case measure=>simp [intOf];omega
  · have a1:a=f:=oM;subst a1;rw [zAg (by rw [l.out];omega)] at k;obtain ⟨af,ag,rfl,r⟩:=aR k;have o:=e.size;rcases zBa a with v | v
    · subst v;have a3:c= []:=zBk l.out;have i:=lhd e;clear k r e;go_wp2_with fail;go_ret;exact ⟨by rw [a3];rfl,i.out⟩
    · have K:c≠ []:=fun n=>by have:=l.out;rw [n] at this;simp at this;omega
      have G:=aA2 (c.map Lib.itoa) 20 (fun ao a5=>by
       obtain ⟨b,p,rfl⟩:=zAy.1 a5;exact rC (u.out b p).1 (u.out b p).2)
      rw [zBc,l.out] at G;have I:=aIR r.rd v r.cap oM oM;have k0:((a:Int)==0)=false:=(by rw [zCb];omega);have P:aZ c=Lib.join (c.map Lib.itoa) [32]:=(by unfold aZ;rw [zBw K]);obtain ⟨R,i,m,U⟩:=hqq4 I e o P;clear I e o k r G K P;go_wp2_with fail;refine R.out.mono ?_;rintro n w1 ⟨rfl,g⟩;have j:=i.out.trans (g.mono m.out);have t:=lhd j;clear g j;go_wp2_with fail;go_ret;exact ⟨by rw [U.out];rfl,t.out⟩
def gJ:List (String×DataW Unit):= [("math/bits.deBruijn32tab",Rows.laid_math_bits_deBruijn32tab),("math/bits.deBruijn64tab",Rows.laid_math_bits_deBruijn64tab),("internal/strconv.uint64pow10",Rows.laid_internal_strconv_uint64pow10),("unicode/utf8.acceptRanges",Rows.laid_unicode_utf8_acceptRanges),("strconv.ErrRange",Rows.laid_strconv_ErrRange),("strconv.ErrSyntax",Rows.laid_strconv_ErrSyntax),("unicode/utf8.first",Rows.laid_unicode_utf8_first)]
def aKV:(prog.globals[1]?).map (·.type)=some 224:=by kernel_rfl
def aF0:(Rows.laid_internal_strconv_uint64pow10:DataW Unit)=Lib.tabData .u64 Lib.pow10Tab:=rfl
def aCn {a:World} (b:a.ShapedOpen prog):∃c,a.cell? ⟨0,0,none⟩=some (.int .i64 c):=
 cell_of_shapedOpen_int (t:=3) (zero:=#[.int .i64 0]) b (of_decide_eq_true kR) kR rfl kR kR underlying3
def aCB {a:World} {b e:Nat} {f:Value} (d:a.cell? ⟨b,e,none⟩=some f):b < a.heap.size:=by
 rcases zBe b a.heap.size with c | c;exact c
 · rw [World.cell?,Array.getElem?_eq_none c] at d;cases d
def aAA {b:World} (c:laidMetH prog gJ b) (l:b.ShapedOpen prog):TabD b:=by
 have d:=c.filter fun a=>a.1== "math/bits.deBruijn64tab";have i:(gJ.filter fun a=>a.1== "math/bits.deBruijn64tab")=aAz:=by kernel_rfl
 rw [i] at d;have e:=c.filter fun a=>a.1== "internal/strconv.uint64pow10";have j:(gJ.filter fun a=>a.1== "internal/strconv.uint64pow10")= [("internal/strconv.uint64pow10",Rows.laid_internal_strconv_uint64pow10)]:=by kernel_rfl
 rw [j,MakeChecks.laidMetH_plain _ _ _ kR,aF0] at e;have g:=Lib.tabIs_of_head aKr aKV underlying224 underlying164 kR kR e;obtain ⟨m,f⟩:=aCn l;refine ⟨aAy d,g,⟨m,f⟩,aCB f,?_⟩;have k:=g.cell aKr 0 dC;exact aCB k
def aIr (b:Os) (a:Array Value):laidMetH prog gJ ((World.laidAll prog b gJ).forCall (fun _ _=>0) ⟨#[],a, []⟩).memory:=by
 rw [MakeChecks.laidMetH_plain _ _ _ kR];exact laidMet_laidAll _ kR kR
section
variable {H : Type} {enc : TypeId × Value -> H}
def oP {r:Assume} {C:Checked} {o:Os} {j:FuncId} {d:Func} {g:ChangeSpec} {u:List PathCond} {f w x s:Bool} {X:World->Array Value->Prop}
 (D:∀(a p:World) (c:Array Value),a.heap=p.heap->X a c->X p c)
 (own:ownKnob C.prog.godebug=none) (Q:o.Started) (P:C.prog.inits.idxOf? j=none) (F:C.prog.funcs[j]?=some d)
 (R:∃(a:World) (e:Tape) (b:Input),a.os=o/\(a.forCall e b).Shaped C.prog/\b.vars= []/\Input.okWide C.prog (a.forCall e b) .any a.heap.size j b/\
  ((g.pre enc C.prog d u f (a.forCall e b).memory b.args/\X (a.forCall e b).memory b.args)/\sizedMet enc C.prog d (OpenSpec.ofChange g) f (a.forCall e b).memory b.args)/\r.holds C.prog (lone (Frame.enter C.prog j b.args .normal) [] (a.forCall e b)))
 (A:∀(i:World) (z:Nat) (c:Array Value) (m n:List (DataW H)) (l:List MemPlace),
  (∀(y:Nat) t k,d.params[y]?=some t->c[y]?=some k->Value.okWide C.prog i .any z t k)->
  DataW.Whole enc C.prog d.params.toList g.vars f i c.toList m n l->X i c->i.ShapedOpen C.prog->
  Calls C.prog j c i fun v q=>∃k,v=.returned k/\g.post enc C.prog d f w x s i c k q):
 ReturnsInHanded r C o j .any (fun a c=>(g.pre enc C.prog d u f a c/\X a c)/\sizedMet enc C.prog d (OpenSpec.ofChange g) f a c) (g.post enc C.prog d f w x s):=by
 refine returnsInHanded_of_calls own Q P R ?_;intro a e b _ L _ I K _;obtain ⟨_,_,_,B,G,_,_,_,_,M⟩:=I;obtain rfl:B=d:=Option.some.inj (G.symm.trans F);obtain ⟨⟨⟨m,n,l,N,_⟩,O⟩,_⟩:=K;refine (A (a.forCall e b) a.heap.size b.args m n l M (DataW.Whole.of_heap (w':=a.forCall e b) (by rfl) N) (D _ _ _ (by rfl) O) L).mono fun v q ⟨k,E,J⟩=>?_;subst E;exact ChangeSpec.post_blind J
end
def aAq (d:World) (f:Nat) (j:List UInt8) (g a:Nat) (i:Ending) (e:World):Prop:=
 ∃b c,i=.returned (.tuple #[.slice b a c,.int .i64 0])/\Made e d.heap.size 5 1 b a c (((j.drop g).take a).map bv)/\VB f d e
def aGL {m z aX:Nat} {e:List UInt8} (d u:Nat) {l:World} (B:TpAt l m z e aX) (a3:TabW l) (aw:7 < m) (bu:d+u<=e.length):
 Calls prog 50 #[z,(d:Int),(u:Int)] l (aAq l m e d u):=by
 obtain ⟨bC,bq,ag,bA,bB⟩:=info_parts uO;obtain ⟨v,gk,bl,c8,L,J,aO,ag,aG⟩:=B;have az:v.length=e.length+1:=by rw [L.len,aK]
 have a1:(aD (aF e) v).length=e.length+1:=by rw [bF,az]
 have V:∀q,q<=e.length->∃D,v[D]?=some q:=fun q aM=>by obtain ⟨D,br,j⟩:=L.row (p:=q) (by rw [aK];omega);exact ⟨D,zAc.2 ⟨br,j⟩⟩
 have aL:∀(n D q:Nat) (g:UInt8),v[n]?=some (q+1)->v[D]?=some q->e[q]?=some g->(aD (aF e) v)[n]?=some (g.toNat+1)/\cB (aD (aF e) v) (g.toNat+1) n=D:=fun n D q g Z a0 R=>aHU L Z a0 R;obtain ⟨n,a9⟩:=V d oM;have aN:=fE m z gk bl aX l J aO L aG a9;obtain ⟨c7,a6⟩:=J.blk;clear aO ag;obtain ⟨Q,a2⟩:=eqx e.length;rw [a2] at a1 V bu aG;have c5:7 < l.heap.size:=a3.pos;have c1:=a6.lt;have bE:decide ((d:Int) < 0)=false:=by simp
 have bG:decide ((u:Int) < 0)=false:=by simp
 have aT:¬Q < d:=oM;have bI:decide (Q < d)=false:=zBy aT;obtain ⟨Y,bp⟩:=eqx (Q - d);have bJ:IntKind.i64.wrap ((Q:Int) -(d:Int))=(Y:Int):=by rw [IntKind.wrap_i64];omega
 have aU:¬Y < u:=oM;have bK:decide (Y < u)=false:=zBy aU;obtain ⟨am,ar,ak,ba,b7,O⟩:=hqq6 J.lvw J.walk a6 V aL a1;have ai:=lhd (cL (dM e) (rs:=v));obtain ⟨b2,aj,b0⟩:=hqq3 a9 a3 a2;clear a6 J V aL a1 a9 a3 L az a2 bp;unfold aAq;go_enter func50,ntmps50;go_wp2_with fail;refine (bM am.out O.out oM).mono ?_;rintro j w1 ⟨rfl,rfl⟩;go_wp2_with fail;refine (bM am.out O.out oM).mono ?_;rintro j w1 ⟨rfl,rfl⟩;go_wp2_with fail;refine aN.mono ?_;rintro j r ⟨rfl,aP⟩;have bd:=lhd aP;clear aN aP bE bG aT bI bJ aU bK;go_wp2_with fail;go_loopw [8,9,40] (fun bP s n wr=>∃a row:Nat,a<=u/\n=.int .i64 (a:Int)/\s=.int .i64 (row:Int)/\v[row]?=some (d+a)/\wr.ownsRow l.heap.size 5 1 bP a (((e.drop d).take a).map bv)/\VB m l wr) (fun _ _ n _=>u -(intOf n).toNat)
 case atStart=>exact ⟨0,n,zAp _,rfl,rfl,b2.out,World.ownsRow_nil _ _ _ _,bd.out⟩
 case round=>
  obtain ⟨a,row,T,rfl,rfl,ab,U,C⟩:=hrel;by_cases c2:a < u
  · obtain ⟨g,a8⟩:∃g,e[d+a]?=some g:=⟨_,zAa (by rw [b0.out];omega)⟩;obtain ⟨X,ac⟩:=ba.out (d+a+1) oM;obtain ⟨ad,ae⟩:=b7.out X row (d+a) g ac ab a8;obtain ⟨aY,af⟩:∃aY,aY=g.toNat+1:=⟨_,rfl⟩;rw [<-af] at ad ae;have aI:((e.drop d).take (a+1)).map bv=((e.drop d).take a).map bv++ [bv g]:=(by rw [zAv,zBt,a8,zAz];rfl);have a5:=C.1.bk ak.out dC dC;have bf:=a5.cell 0;have bD:=a5.lt;have c4:=C.1.size;have aQ:=ar.out.vis C.1;obtain ⟨au,bc,ao,ap,an,aq,b5,bb⟩:=hqq8 aQ af ad ae U C aI ac;clear ac ad ae U C aI a5 aQ ab a8 af;go_wp2_with fail;refine (oU au.out ao.out ap.out ai.out (by rw [O.out];omega)).mono ?_;rintro j bT ⟨rfl,a4⟩;go_wp2_with fail;refine (uE bc.out bT).mono ?_;rintro j A ⟨rfl,ay⟩;have E:Below wr.heap.size wr A:=a4.trans (ay.mono a4.size);have K:=(VisK.of_below (F:=fun b=>m<=b) E).1.own an.out dC dC;have W:=aq.out.below E;have a7:=W.1.bk ak.out dC dC;have aB:∀b,u8.ownBlock=some b->b < A.heap.size:=fun b I=>(K.lt b I).2;have aA:∀b,u8.ownBlock=some b->l.heap.size<=b:=fun b I=>(K.lt b I).1;have aJ:¬u8.ownBlock=some z:=fun j=>aS K a7 dC j.symm;have bw:=W.1.size;obtain ⟨b8,P,b1,b3,al,b6⟩:=hqq6 K W a7 aB aA aJ;clear a4 ay E K W a7 aB aA aJ bf bD an aq au;go_wp2_with fail;refine wp_region_any kR ?_;refine bQ (pJ:=(fun s r=>r.ownsRow l.heap.size 5 1 s (a+1) (((e.drop d).take a).map bv++ [bv g]))) m 10 [52,53,54,55,56,57,58,59,60,61] (fun b=>u8.ownBlock=some b) 3 [3] [is (u8),is (bv g),fun s r=>∃y,s=.slice (some ⟨y,0,none⟩) 1 1/\Bk r y 5 #[bv g]/\u8.ownBlock≠some y,dJ,is z,is z,is z,is gk,is (row:Int),is (X:Int)] _ rfl dC kR kR kR (b8.out) (fun w1 r B _ a=>a.1.own B dC dC) (fun _ _ _ B a=>a.1.own B dC dC) (by repeat' (first | exact gW _ _ | exact iZ _ | exact fun _ _ _ ⟨y,Z,a0,R⟩ a=>⟨y,Z,a.1.bk a0 dC dC R,R⟩|(refine zAe.2 ⟨?_,?_⟩)|(intro q aM;cases aM))) ?_ ?_
    · refine bH ?_;refine pH3 8 (u8) ?_;refine pH3 10 (bv g) ?_;refine sC3 (fun _ w c _ _ _ _ k _ _ _ o=>?_) ?_
      · replace c:VFB m (fun b=>u8.ownBlock=some b) A w:=fD c;have av:_=_:=k 1 53 kR rfl;go_simp;exact o _ _ (aE (vR.alloc _)) ⟨_,rfl,Bk.new _ _ _,fun B=>by have:=(b3.out _ B);have:=c.1.size;omega⟩
      refine sC3 (fun G w c bm _ _ _ k _ _ bn o=>?_) ?_
      · replace c:VFB m (fun b=>u8.ownBlock=some b) A w:=fD c;have bt:=bm rfl;have bh:_=_:=k 0 52 kR rfl;have bN:(fun s r=>∃y,s=.slice (some ⟨y,0,none⟩) 1 1/\Bk r y 5 #[bv g]/\u8.ownBlock≠some y) (G (.tmp 54)) w:=k 2 54 kR rfl;obtain ⟨bj,av,bo,c3⟩:=bN;subst bn;have bz:=c.1.size;refine fY w (.tmp 52) (.tmp 54) _ rfl l.heap.size 5 bC (.int .u8 0) 1 1 underlying34 bq ag bA bB rfl dC u8 a _ bh bt w.heap.size (some ⟨bj,0,none⟩) 1 1 [bv g] av (aHE bo) (by simp [Value.oneCell',bv]) (by unfold maxLen;omega) oM (zAk bw bz) ?_;intro bR N bs t c0;refine o _ _ (iX ⟨VisF.of_keep ⟨t.os,t.tape,t.output,t.size,fun a T aa=>t.block a T (fun j=>aa j.symm)⟩,⟨t.os,t.tape,t.output,t.size,fun a T aa=>t.block a T (fun j=>aa (.inl j.symm))⟩⟩) bs
      refine pH3 0 (.pointer (some z)) ?_;refine pV3 4 56 ?_;refine pV3 5 57 ?_;refine sC3 (fun _ w c _ _ _ _ k _ _ _ o=>?_) ?_
      · replace c:VFB m (fun b=>u8.ownBlock=some b) A w:=fD c;have bV:_=_:=k 6 58 kR rfl;have E:=c.1.bk b1.out dC dC b6.out;have bU:=E.cell 0;have c6:=E.lt;go_simp;exact o _ _ (aE vR) rfl
      refine pH3 9 (.int .i64 (row:Int)) ?_;refine sC3 (fun _ w c _ _ S _ k _ _ _ o=>?_) ?_
      · replace c:VFB m (fun b=>u8.ownBlock=some b) A w:=fD c;have bW:_=_:=k 7 59 kR rfl;have bZ:_=_:=k 8 60 kR rfl;go_simp;have M:=(VFB.trans (VFB.of_vb P.out) c).to_vb (fun b I S=>by have:=(al.out b S);omega);refine (pU (ar.out.vis M.1) ao.out ap.out ai.out (by rw [O.out];omega) (aj.out.vb M aw aj.out.pos) aw).mono ?_;rintro j c9 ⟨rfl,bx⟩;exact o _ _ (aE bx) rfl
      exact aH
    · intro G N x c k ax;replace c:VFB m (fun b=>u8.ownBlock=some b) A N:=fD c;have ah:(fun s r=>r.ownsRow l.heap.size 5 1 s (a+1) (((e.drop d).take a).map bv++ [bv g])) (G (.tmp 55)) N:=k 3 55 dC rfl;have bi:G (.tmp 61)=.int .i64 (X:Int):=k 9 61 dC rfl;obtain ⟨bS,aW⟩:=ax 3 dC;have aV:(fun s r=>r.ownsRow l.heap.size 5 1 s (a+1) (((e.drop d).take a).map bv++ [bv g])) bS N:=aW;clear aW ax;simp only [zqq];rw [bi];clear k;have M:=(VFB.trans (VFB.of_vb P.out) c).to_vb (fun b I S=>by have:=(al.out b S);omega);change wpAny prog Region.Mode.any _ _ (2+x) (bX 10 12) _ N;rw [show 2+x=x+1+1 by omega];generalize G (.tmp 55)=bR at ah⊢;obtain ⟨b9,be⟩:=hqq2 ah M;clear ah M c aV;refine bL (f:=x+1) (i:=10) kR ?_;refine bY rfl rfl ?_;generalize o:wpAny prog _ _ _ (x+1) _=K5;go_simp;subst o;refine bL (f:=x) (i:=11) kR ?_;refine bY rfl rfl ?_;generalize o:wpAny prog _ _ _ x _=K5;go_simp;subst o;refine bO kR ?_;go_wp2_with fail;go_roundw
      case rel=>exact ⟨a+1,X,by omega,by go_num,by first | rfl | trivial,bb.out,by rw [b5.out];exact b9.out,be.out⟩
      case measure=>simp [intOf];omega
  · obtain rfl:a=u:=oM;obtain ⟨aZ,bg,rfl,aC⟩:=aR U;obtain ⟨b4,P⟩:=hqq2 aC C;clear U aC C ab;go_wp2_with fail;go_ret2;exact ⟨aZ,bg,rfl,b4.out,P.out⟩
end
section
open Go.RowKit Go.Shelf
def yV (b e d:Nat) (c:List (Nat×Nat)) (row:Nat) (a:World) (g:PermR a b e d c) (l:∀o∈c,o.1≠row):
 Calls prog 164 #[b,(row:Int)] a fun f n=>f=.returned (.int .i64 (-1))/\Below a.heap.size a n:=by
 obtain ⟨p,s,y,z,A,x,v,q,w,r,i,j,t,u,rfl⟩:=g;exact aBA row i j oM fun m k=>l _ (zAy.2 ⟨m,k,rfl⟩)
def oX (c g f:Nat) (e:List (Nat×Nat)) (row d:Nat) (a:World) (i:PermR a c g f e) (l:(row,d)∈e):
 Calls prog 164 #[c,(row:Int)] a fun b n=>b=.returned (.int .i64 (d:Int))/\Below a.heap.size a n:=by
 obtain ⟨o,r,y,z,A,x,v,p,w,q,j,k,s,t,rfl⟩:=i;obtain ⟨u,m,b⟩:=zAy.1 l;injection b with e1 e2;subst e2;exact aBz j k oM oM m e1
def aBF (K a4 gk A aO:Nat) (e:List UInt8) (d:List Nat) (f:List (Nat×Nat)) (s m:Nat) (J:World) (B:LiveG J K a4 gk A aO (e.length+1) (aD (aF e) d) f) (V:∀j∈f,d[j.1]?=some j.2) (ag:∃j∈f,j.2=0) (r:IsSuf (aF e) d) (aI:e.length<=127) (G:d[s]?=some m):
 Calls prog 92 #[a4,(s:Int)] J fun g aP=>g=.returned (.int .i64 (m:Int))/\VB K J aP:=by
 have U:d.length=e.length+1:=by rw [r.len,aK]
 have ay:=(zAc.1 G).1;have Q:(aD (aF e) d).length=e.length+1:=by rw [bF,U]
 have aJ:m < e.length+1:=by have:=r.lt (zAd G);rwa [aK] at this
 obtain ⟨k,R⟩:=eqx e.length;have ah:∀a:Nat,d[a]?=some 0->(a,0)∈f:=fun a C=>by obtain ⟨⟨aN,aM⟩,I,g⟩:=ag;have aw:aM=0:=g;subst aw;have i:d[aN]?=some 0:=V _ I;rw [uQ r C i];exact I
 have aa:∀a b c:Nat,d[a]?=some b->(a,c)∈f->c=b:=fun a b c o aH=>by have i:d[a]?=some c:=V _ aH;rw [o] at i;injection i with i;exact i.symm
 have ae:∀a b:Nat,d[a]?=some (b+1)->∃X t,(aD (aF e) d)[a]?=some X/\cB (aD (aF e) d) X a=t/\d[t]?=some b:=fun a b o=>by obtain ⟨C,a2⟩:=zAc.1 o;have T:b+1 < (aF e).length:=r.lt (zAd o);obtain ⟨t,a6,a3⟩:=r.row (p:=b) oM;have a8:=eK e;have aE:=rB a8 C a2 (by rw [aK] at T;omega);exact ⟨(aF e).getD b 0,t,zAc.2 ⟨_,aE⟩,lf r a8 C a6 a2 a3,zAc.2 ⟨a6,a3⟩⟩
 rw [R] at B;rw [R] at Q aJ aI U;have aC:¬(k:Int) < (s:Int):=oM;have az:decide ((s:Int) < 0)=false:=by simp
 have aA:decide ((s:Int) > (k:Int))=false:=by simp;omega
 have aB:decide (k < s)=false:=by simp;omega
 obtain ⟨H,av,am,aq,Z⟩:=hqq5 B ah aa ae Q;have aj:=lhd (cL (dM e) (rs:=d));have ak:=lhd G;obtain ⟨aV,E⟩:=B.blk;have y:=E.cell 0;have z:=E.cell 1;have aS:=E.lt;clear B ah aa ag V ae Q r G ay R U E;go_enter func92,ntmps92;go_wp2_with fail;refine (bM H.out.lvw Z.out oM).mono ?_;rintro g w1 ⟨rfl,rfl⟩;go_wp2_with fail;clear y z aC az aA aB;go_loopw [1,5] (fun j Y wr=>∃a b w:Nat,d[a]?=some b/\b+w=m/\j=.int .i64 (a:Int)/\Y=.int .i64 (w:Int)/\VB K J wr) (fun _ Y _=>m+1 -(intOf Y).toNat)
 case atStart=>exact ⟨s,m,0,ak.out,rfl,rfl,rfl,VisK.refl _ _⟩
 case round=>
  obtain ⟨a,b,w,o,T,rfl,rfl,W⟩:=hrel;have i:=H.out.vis W.1;obtain ⟨aW,F⟩:=i.blk;have y:=F.cell 0;have z:=F.cell 1;have aT:=F.lt;obtain ⟨a1,x,M⟩:=hqq3 W i o;clear i W o F;by_cases D:∃c,(a,c)∈f
  · obtain ⟨c,S⟩:=D;have ax:=am.out a b c M.out S;subst ax;have a0:=lhd S;have aR:¬(c:Int) < 0:=oM;have aU:IntKind.i64.wrap ((c:Int)+(w:Int))=(m:Int):=(by rw [IntKind.wrap_i64];omega);clear S T;go_wp2_with fail;refine (oX A (k+1) (k+1) f a c wr x.out.perm a0.out).mono ?_;rintro g ai ⟨rfl,q⟩;have n:=x.out.vis (Vis.of_below q);obtain ⟨aL,l⟩:=n.blk;have O:=l.cell 0;have P:=l.cell 1;have aG:=l.lt;have u:=a1.out.below q;obtain ⟨N,L⟩:=hqq2 u n;clear y z n u q l;go_wp2_with fail;refine (oX A (k+1) (k+1) f a c ai L.out.perm a0.out).mono ?_;rintro g aQ ⟨rfl,a7⟩;have v:=N.out.below a7;have ar:=lhd v;clear O P v a7;go_wp2_with fail;go_ret;exact ⟨rfl,ar.out⟩
  · have a9:∀j∈f,j.1≠a:=fun j I g=>D ⟨j.2,by rw [<-g];exact I⟩;have al:=lhd a9
    obtain ⟨c,rfl⟩:∃c,b=c+1:=⟨b - 1,by
        rcases zBa b with a5 | a5;subst a5;exact absurd ⟨0,av.out a M.out⟩ D
        · omega⟩
    obtain ⟨X,t,ab,ac,ad⟩:=aq.out a c M.out;obtain ⟨an,ao,ap⟩:=hqq3 ab ac ad;clear a9 D ab ac ad;go_wp2_with fail;refine (yV A (k+1) (k+1) f a wr x.out.perm al.out).mono ?_;rintro g ai ⟨rfl,q⟩;have n:=x.out.vis (Vis.of_below q);obtain ⟨aL,l⟩:=n.blk;have O:=l.cell 0;have P:=l.cell 1;have aG:=l.lt;have u:=a1.out.below q;obtain ⟨N,L⟩:=hqq2 u n;clear y z n u q l;go_wp2_with fail;refine (mB L.out.walk an.out aj.out (by rw [Z.out];omega)).mono ?_;rintro g aQ ⟨rfl,v⟩;rw [ao.out];have af:=N.out.trans v;have au:=lhd af;clear O P v af;go_wp2_with fail;go_roundw
    case rel=>exact ⟨t,c,w+1,ap.out,by omega,rfl,by go_num,au.out⟩
    case measure=>simp [intOf];omega
end
section
open Go.RowKit
def aBN (e:World) (g:Nat) (b a:List UInt8) (i:Ending) (f:World):Prop:=
 ∃c d,i=.returned (.slice c (fL b a).length d)/\Made f e.heap.size 3 1 c (fL b a).length d ((fL b a).map sv)/\VB g e f
def aJV {Bw gl rate:Nat} {t:List UInt8} {A0:Option Addr} {m0:Nat} (Q:Nat) {B:Nat} {ss:List Sl} (c:List UInt8) (R:gK ss=c) {w:World} (ap:TpAt w Bw gl t rate) (a4:Rd w B 1 A0 m0 (ss.map slV)) (a6:∀K∈ss,Rd w B 1 K.A K.n (K.l.map bv)) (aq:B<=w.heap.size) (ay:m0<=1000000) (aB:c.length<=1000000):
 Calls prog 52 #[gl,.slice A0 m0 Q] w (aBN w Bw t c):=by
 obtain ⟨aG,au,x,aD,aE⟩:=info_parts iD;obtain ⟨e,gk,ao,aH,j,C,a5,x,az⟩:=ap;obtain ⟨ag,am⟩:=hqq2 a5 x;clear a5 x;have s:e.length=t.length+1:=by rw [j.len,aK]
 have u:=sJ (n:=t.length) Q R rfl C.lvw (by rw [bF,s]) oM (cL (dM t)) a4 a6 aq ay aB;rw [aB7 j (eK t)] at u;have v:=aBY j c;have X:=aJ3 (aF t) true (cZ c);rw [aK] at X;have S:Nq (aF t) false (cZ c)<=Nq (aF t) true (cZ c):=by rw [aEE];omega
 have r:(fL t c).length=Nq (aF t) true (cZ c) - Nq (aF t) false (cZ c):=by rw [<-(aB6 j c).length_eq,zAj,zAw,s];omega
 obtain ⟨a,D⟩:=eqx (Nq (aF t) false (cZ c));obtain ⟨d,A⟩:=eqx (Nq (aF t) true (cZ c));obtain ⟨aP,a3⟩:=eqx (fL t c);unfold aBN;rw [D,A] at u v r;rw [D] at S;rw [A] at X S;rw [a3] at v r⊢;obtain ⟨aa,ah,ai,M,O⟩:=hqq5 C j v r s;clear a4 a6 C j v r s D A a3 R;go_enter func52,ntmps52;go_wp2_with fail;refine u.mono ?_;rintro q w1 ⟨rfl,aC⟩;clear u;go_wp2_with fail;go_loopw [7,8] (fun aI J wr=>∃b:Nat,b<=d - a/\J=.int .i64 ((a+b:Nat):Int)/\wr.ownsRow w.heap.size 3 1 aI b (((e.drop a).take b).map sv)/\VB Bw w wr) (fun _ J _=>d -(intOf J).toNat)
 case atStart=>exact ⟨0,zAp _,by simp,World.ownsRow_nil _ _ _ _,aC⟩
 case round=>
  obtain ⟨b,aN,rfl,g,m⟩:=hrel;by_cases aw:b < d - a
  · have ax:((a+b:Nat):Int) < (d:Int):=oM;have av:a+b < e.length:=(by rw [O.out];omega);obtain ⟨y,I⟩:∃y,e[a+b]?=some y:=⟨_,zAa av⟩;have a1:(e.drop a).take (b+1)=(e.drop a).take b++ [y]:=(by rw [zAv,zBt,I];rfl);have W:=aa.out.vis m.1;obtain ⟨af,p,ab,al,ae⟩:=hqq5 g m W I a1;clear g m W I a1;go_wp2_with fail;refine (aBF Bw gl gk ao rate t e aH (a+b) y wr ab.out ag.out am.out ah.out az al.out).mono ?_;rintro q aJ ⟨rfl,F⟩;have G:=p.out.trans F;have i:=F.1.own af.out dC dC;have a7:=G.1.size;obtain ⟨ak,N⟩:=hqq2 G i;clear F G i;go_wp2_with (at_builtin;refine bP _ rfl (.tmp 21) (.tmp 25) _ rfl w.heap.size 3 aG (.int .i64 0) 1 8 underlying48 au x aD aE rfl dC _ b _ rfl N.out rfl rfl (by simp [Value.oneCell']) (by unfold maxLen;omega) oM a7 ?_;intro aQ a9 aA U aO ar);have k:=bC (Below.refl w.heap.size aJ) N.out U a7;have o:=VB.grow ak.out k;have z:=lhd o;clear k o U ar;go_roundw
    case rel=>exact ⟨b+1,by omega,by go_num,by rw [ae.out,zAz];exact aA,z.out⟩
    case measure=>simp [intOf];omega
  · obtain rfl:b=d - a:=oM;have ax:¬((a+(d - a):Nat):Int) < (d:Int):=oM;have a0:((e.drop a).take (d - a)).map sv=(((e.drop a).take (d - a)).map fun a8:Nat=>(a8:Int)).map (Value.int .i64):=(by rw [zCh];rfl);rw [a0] at g;obtain ⟨L,P,rfl,E⟩:=aCW g (by rw [zBc,zAj,zAw,O.out];omega) oM;have a2:=g;rw [ai.out] at E;have Y:∀f,(Value.slice L (d - a) P).ownBlock=some f->w.heap.size<=f:=fun f T=>(a2.lt f T).1;obtain ⟨p,aj,ac⟩:=hqq3 m E Y;clear g a2 m E Y aw a0;go_wp2_with fail;refine aj.out.mono ?_;rintro q a9 ⟨rfl,i,V⟩;have k:Below w.heap.size wr a9:=V.to_below p.out.1.size (fun f T q=>by have:=ac.out f q;omega);have o:=VB.grow p.out k;rw [zCh] at i;obtain ⟨aL,aM,an,Z⟩:=aR i;cases an;obtain ⟨ad,z⟩:=hqq2 Z o;clear i V k o Z;go_wp2_with fail;go_ret;exact ⟨L,P,by rw [M.out];rfl,by rw [M.out];exact ad.out,z.out⟩
def TxtAt (e:World) (c d:Nat) (a:List UInt8):Prop:=∃b,IsSuf (aF a) b/\LvW e c d (aD (aF a) b)/\a.length<=127
def TxtAt.vis {d w':World} {a b:Nat} {c:List UInt8} (e:TxtAt d a b c) (j:Vis d w'):TxtAt w' a b c:=by
 obtain ⟨k,f,g,i⟩:=e;exact ⟨k,f,g.vis j,i⟩
def TxtAt.mono {c:World} {B B' a:Nat} {b:List UInt8} (d:TxtAt c B a b) (j:B'<=B):TxtAt c B' a b:=by
 obtain ⟨n,e,⟨gk,k,l,m,f,i⟩,g⟩:=d;exact ⟨n,e,⟨gk,k,l,m,f,i.mono j⟩,g⟩
def TxtAt.le {f:World} {b c:Nat} {a:List UInt8} (d:TxtAt f b c a):a.length<=127:=by
 obtain ⟨j,g,i,e⟩:=d;exact e
def aA0 {a:List UInt8} {b:List Nat} (c:IsSuf (aF a) b):(aD (aF a) b).length=a.length+1:=by rw [bF,c.len,aK]
def aBm {Bw gl:Nat} {t:List UInt8} {A0:Option Addr} {m0:Nat} (c:Nat) {B:Nat} {ss:List Sl} (a:List UInt8) (j:gK ss=a) {w:World} (f:TxtAt w Bw gl t) (o:Rd w B 1 A0 m0 (ss.map slV)) (p:∀b∈ss,Rd w B 1 b.A b.n (b.l.map bv)) (i:B<=w.heap.size) (k:m0<=1000000) (m:a.length<=1000000):
 Calls prog 51 #[gl,.slice A0 m0 c] w fun e q=>e=.returned (.int .i64 ((occ (aF t) (cZ a):Nat):Int))/\VB Bw w q:=by
 obtain ⟨s,d,g,r⟩:=f;have:=zB c j rfl g (aA0 d) oM (cL (dM t)) o p i k m;rw [aGo d] at this;exact this
def yJ:List UInt8:= [48,49,50,51,52,53,54,55,56,57]
def aIp (a:UInt8):yJ.contains a=cQ a:=by
 rw [Bool.eq_iff_iff];constructor
 · intro c;have d:a∈yJ:=(by simpa using c);simp only [yJ,List.mem_cons,List.not_mem_nil,or_false] at d;rcases d with rfl | rfl | rfl | rfl | rfl | rfl | rfl | rfl | rfl | rfl <;> rfl
 · intro c;unfold cQ at c;rw [zBd] at c;have e:=of_decide_eq_true c.1;have f:=of_decide_eq_true c.2;have b:a.toNat=(48:UInt8).toNat∨a.toNat=(49:UInt8).toNat∨a.toNat=(50:UInt8).toNat∨a.toNat=(51:UInt8).toNat∨a.toNat=(52:UInt8).toNat∨a.toNat=(53:UInt8).toNat∨a.toNat=(54:UInt8).toNat∨a.toNat=(55:UInt8).toNat∨a.toNat=(56:UInt8).toNat∨a.toNat=(57:UInt8).toNat:=(by show a.toNat=48∨a.toNat=49∨a.toNat=50∨a.toNat=51∨a.toNat=52∨a.toNat=53∨a.toNat=54∨a.toNat=55∨a.toNat=56∨a.toNat=57;omega);rcases b with b | b | b | b | b | b | b | b | b | b <;>(rw [UInt8.toNat_inj.1 b];rfl)
def gY {α:Type} (e:α->Bool):∀c:List α,c.dropWhile e= []↔c.all e=true
 | []=>by simp
 | b::c=>by
   rw [List.dropWhile_cons,List.all_cons,zBd];split
   · rename_i d
     rw [gY e c];exact ⟨fun a=>⟨d,a⟩,fun a=>a.2⟩
   · rename_i d
     exact ⟨fun a=>absurd a (by simp),fun a=>absurd a.1 d⟩
def aBQ (a:List UInt8):Lib.trimS a yJ= []↔a.all cQ=true:=by
 have g:(fun f=>yJ.contains f)=cQ:=funext aIp;unfold Lib.trimS Lib.trimLeftS Lib.trimRightS;rw [g,gY,List.all_reverse];constructor
 · intro b;have c:a.reverse.dropWhile cQ= []:=by
    cases e:a.reverse.dropWhile cQ with
    | nil=>rfl
    | cons f i=>
      have d:=List.head_dropWhile_not (p:=cQ) (l:=a.reverse) (by rw [e];simp);rw [e] at b;simp only [e] at d;rw [List.all_cons,zBd] at b;simp only [List.head_cons] at d;rw [b.1] at d;cases d
   rw [gY,List.all_reverse] at c;exact c
 intro b;have c:a.reverse.dropWhile cQ= []:=(by rw [gY,List.all_reverse];exact b);rw [c];rfl
def aIL {a:List UInt8} (b:World) (e:a.length<=100000):
 Calls prog 54 #[.string ⟨a.toArray⟩,.string ⟨#[48,49,50,51,52,53,54,55,56,57]⟩] b fun c d=>c=.returned (dY (Lib.trimS a yJ))/\Below b.heap.size b d:=
 Any.strings_Trim_laid shTri kR ⟨a.toArray⟩ ⟨#[48,49,50,51,52,53,54,55,56,57]⟩ b (by rw [jZ];omega) dC (ascii_of_all dC)
def sM (a:List UInt8) (m:World) (y:a.length<=100000):
 Calls prog 23 #[.string ⟨a.toArray⟩] m fun b z=>b=.returned (.tuple #[.int .i64 (((jA a).getD 0:Nat):Int),.bool (jA a).isSome])/\Below m.heap.size m z:=by
 have p:=jZ a;obtain ⟨e,l⟩:=eqx a.length;rw [l] at p;have B:=lhd l;have t:=aIL m y;have j:=lhd t;clear t;obtain ⟨C,c⟩:=eqx ((⟨a.toArray⟩:ByteArray));rw [c] at p j;have A:=lhd c;by_cases D:e < 1
 · have x:a= []:=zBk oM;have d:jA a=none:=(by unfold jA;rw [zBx (.inl x)]);rw [d,c];have q:((e:Int) < 1):=oM;clear c;go_enter func23,ntmps23;go_wp2_with fail;go_ret2;exact ⟨rfl,Below.refl _ _⟩
 by_cases E:6 < e
 · have d:jA a=none:=(by unfold jA;rw [zBx (.inr (.inl oM))]);rw [d,c];have q:¬((e:Int) < 1):=oM;have w:((e:Int) > 6):=oM;clear c;go_enter func23,ntmps23;go_wp2_with fail;go_ret2;exact ⟨rfl,Below.refl _ _⟩
 have q:¬((e:Int) < 1):=oM;have w:¬((e:Int) > 6):=oM;have s:a≠ []:=fun b=>by rw [b] at l;simp at l;omega
 have k:=fun w1=>aIX w1 s oM;rw [c] at k;have o:=lhd k;rw [c];cases f:a.all cQ with
 | false=>
   have d:jA a=none:=(by unfold jA;rw [zBx (.inr (.inr f))]);have n:Lib.trimS a yJ≠ []:=fun b=>by rw [aBQ] at b;rw [b] at f;cases f
   have F:(Lib.trimS a yJ).isEmpty=false:=(by cases b:Lib.trimS a yJ with | nil=>exact absurd b n | cons _ _=>rfl);rw [d];clear c k;go_enter func23,ntmps23;go_wp2_with fail;refine j.out.mono ?_;rintro b w1 ⟨rfl,g⟩;have i:=lhd g;clear g;go_wp2_with fail;go_ret2;exact ⟨rfl,i.out⟩
 | true=>
   have d:jA a=some (mN a):=(by unfold jA;rw [zBw (by rintro (b | b | b);exact s b;omega;rw [f] at b;cases b)]);have n:Lib.trimS a yJ= []:=(aBQ a).2 f;rw [n] at j;rw [d];have u:=lhd (fun w1=>o.out w1 f);clear c k o;go_enter func23,ntmps23;go_wp2_with fail;refine j.out.mono ?_;rintro b w1 ⟨rfl,g⟩;have i:=lhd g;clear g;go_wp2_with fail;refine (u.out w1).mono ?_;rintro b G ⟨rfl,r⟩;have v:=lhd (i.out.trans (r.mono i.out.size));clear r;go_wp2_with fail;go_ret2;exact ⟨rfl,v.out⟩
def xS {y:Option Addr} {d:Nat} (P:Nat) {b:List Int} {i:World} (u:Rd i i.heap.size 1 y d (b.map zv)) (a7:d<=1000) (v:∀c∈b,0<=c/\c<=4294967295):
 Calls prog 27 #[.slice y d P] i fun q Z=>q=.returned (dY (aZ b))/\i=Z:=by
 have F:b.length=d:=by simpa using u.1
 have g:=aJh b;have G:∀o,(sV (b.take o)).length<=21000:=fun o=>by
  have a3:=aJg (l:=b.take o) fun c V=>by have:=v c (List.mem_of_mem_take V);omega
  have a4:(b.take o).length<=1000:=by rw [zAj];omega
  omega
 obtain ⟨a1,D⟩:=eqx (aZ b);rw [D] at g⊢;obtain ⟨A,K,L,N,M⟩:=hqq5 F g G v u;clear F g G v u D;go_enter func27,ntmps27;go_wp2_with fail;go_loopw [3,4] (fun Y w wr=>∃a:Nat,a<=d/\Y=.string ⟨(sV (b.take a)).toArray⟩/\w=.int .i64 (a:Int)/\i=wr) (fun _ w _=>d -(intOf w).toNat)
 case atStart=>exact ⟨0,zAp _,rfl,rfl,rfl⟩
 case round=>
  obtain ⟨a,a6,rfl,rfl,rfl⟩:=hrel;by_cases t:a < d
  · have S:(a:Int) < (d:Int):=oM;obtain ⟨c,m⟩:∃c,b[a]?=some c:=⟨_,zAa (by rw [A.out];exact t)⟩;have J:=N.out c (zAd m);obtain ⟨O,X,rfl,a5,E⟩:=M.out.2 oM;have a2:i.cell? ⟨O,X+a,none⟩=some (.int .i64 c):=E a _ (by rw [zAf,m];rfl);have f:=aHK m;have T:=L.out a;have R:=rC (n:=c) oM oM;obtain ⟨e,k⟩:=eqx (sV (b.take a));obtain ⟨p,I⟩:=eqx (Lib.itoa c);have s:=tK i J.1 oM;rw [I] at s R f;rw [k] at f T⊢;have z:=lhd s;clear s m k I J E;by_cases C:0 < a
    · have Q:(0:Int) < (a:Int):=oM;rw [zBx C] at f;have j:=lhd f;have a8:=fP e [32];have W:=fP (e++ [32]) p;have a0:=fO e [32] oM (by simp);have x:=fO (e++ [32]) p (by rw [zAi,List.length_singleton];omega) oM;clear f;go_wp2_with fail;refine z.out.mono ?_;rintro q w1 ⟨rfl,rfl⟩;go_wp2_with fail;clear a0 x;go_roundw
      case rel=>exact ⟨a+1,t,by first |(rw [j.out];done)|(rw [j.out];simp),by go_num,by first | rfl | trivial⟩
      case measure=>simp [intOf];omega
    · have Q:¬(0:Int) < (a:Int):=oM;rw [zBw C] at f;have j:=lhd f;have W:=fP e p;have x:=fO e p oM oM;clear f;go_wp2_with fail;refine z.out.mono ?_;rintro q w1 ⟨rfl,rfl⟩;go_wp2_with fail;clear x;go_roundw
      case rel=>exact ⟨a+1,t,by first |(rw [j.out];done)|(rw [j.out];simp),by go_num,by first | rfl | trivial⟩
      case measure=>simp [intOf];omega
  · have S:¬(a:Int) < (d:Int):=oM;have U:b.take a=b:=zAg (by rw [A.out];omega);rw [U];obtain ⟨e,k⟩:=eqx (sV b);have g:=K.out;rw [k] at g⊢;have B:=lhd g;clear g k;by_cases r:e= []
    · subst r;go_wp2_with fail;go_ret;exact ⟨by rw [B.out];rfl,rfl⟩
    · have a9:(e== [])=false:=(by rw [zCb];exact r);go_wp2_with fail;go_ret;exact ⟨by rw [B.out,zBw r];rfl,rfl⟩
def aHy {k:Nat} (a:k < 16):(⟨#[48,49,50,51,52,53,54,55,56,57,97,98,99,100,101,102]⟩:ByteArray).extract k (k+1)=⟨[jN k].toArray⟩:=by
 have:=iQ aKq k (k+1);rw [aJB a] at this;exact this
def aIb {a:List UInt8}:gT a= []↔a= []:=by
 constructor;intro b;have:=congrArg List.length b;rw [lB,List.length_nil] at this;exact zBk oM;rintro rfl;rfl
def aGJ {p:Option Addr} {d:Nat} (A:Nat) {c:List UInt8} {w:World} (l:Rd w w.heap.size 1 p d (c.map bv)) (R:d<=1000):
 Calls prog 29 #[.slice p d A] w fun i G=>i=.returned (dY (if c= [] then [110,111,110,101] else gT c))/\Below w.heap.size w G:=by
 have v:c.length=d:=by simpa using l.1
 obtain ⟨q,y⟩:=hqq2 v l;clear v l;go_enter func29,ntmps29;go_wp2_with fail;go_loopw [3,4] (fun F o wr=>∃b:Nat,b<=d/\F=.string ⟨(gT (c.take b)).toArray⟩/\o=.int .i64 (b:Int)/\Below w.heap.size w wr) (fun _ o _=>d -(intOf o).toNat)
 case atStart=>exact ⟨0,zAp _,rfl,rfl,Below.refl _ _⟩
 case round=>
  obtain ⟨b,Q,rfl,rfl,e⟩:=hrel;by_cases x:b < d
  · have B:(b:Int) < (d:Int):=oM;obtain ⟨a,n⟩:∃a,c[b]?=some a:=⟨_,zAa (by rw [q.out];exact x)⟩;obtain ⟨z,E,rfl,P,t⟩:=(y.out.below e).2 oM;have K:wr.cell? ⟨z,E+b,none⟩=some (.int .u8 (a.toNat:Int)):=t b _ (by rw [zAf,n];rfl);have m:gT (c.take (b+1))=gT (c.take b)++ [jN (a.toNat / 16)]++ [jN (a.toNat % 16)]:=(by rw [zAv,n];exact zZ _ _);have C:(gT (c.take b)).length<=2000:=(by rw [lB,zAj];omega);obtain ⟨g,s⟩:=eqx (gT (c.take b));rw [s] at m C⊢;have S:a.toNat < 256:=a.toBitVec.isLt;have N:=aHy (k:=a.toNat / 16) oM;have O:=aHy (k:=a.toNat % 16) oM;have V:0<=((a.toNat / 16:Nat):Int)+1/\((a.toNat / 16:Nat):Int)+1<=16:=oM;have W:0<=((a.toNat % 16:Nat):Int)+1/\((a.toNat % 16:Nat):Int)+1<=16:=oM;have L:IntKind.u8.wrap (((a.toNat / 16:Nat):Int)+1)=((a.toNat / 16+1:Nat):Int):=(by rw [IntKind.wrap_u8];omega);have M:IntKind.u8.wrap (((a.toNat % 16:Nat):Int)+1)=((a.toNat % 16+1:Nat):Int):=(by rw [IntKind.wrap_u8];omega);have T:=fP g [jN (a.toNat / 16)];have U:=fP (g++ [jN (a.toNat / 16)]) [jN (a.toNat % 16)];have I:=fO g [jN (a.toNat / 16)] oM (by simp);have J:=fO (g++ [jN (a.toNat / 16)]) [jN (a.toNat % 16)] (by rw [zAi,List.length_singleton];omega) (by simp);obtain ⟨r,f⟩:=hqq2 m e;clear m n s t e;go_wp2_with fail;go_quiet (fail);go_wp2_with fail;clear I J;go_roundw
    case rel=>exact ⟨b+1,x,by first |(rw [r.out];done)|(rw [r.out];simp),by go_num,f.out.trans (below_drewN bR _)⟩
    case measure=>simp [intOf];omega
  · have B:¬(b:Int) < (d:Int):=oM;have D:c.take b=c:=zAg (by rw [q.out];omega);rw [D];have f:=lhd e;clear e;by_cases u:c= []
    · subst u;have j:gT []= []:=rfl;rw [j];go_wp2_with fail;go_ret;exact ⟨rfl,f.out⟩
    · have j:gT c≠ []:=fun i=>u (aIb.1 i);have X:(gT c== [])=false:=(by rw [zCb];exact j);go_wp2_with fail;go_ret;exact ⟨rfl,f.out⟩
end
end Go.Proofs.YtcoooelofcejbaaGreatDoor
