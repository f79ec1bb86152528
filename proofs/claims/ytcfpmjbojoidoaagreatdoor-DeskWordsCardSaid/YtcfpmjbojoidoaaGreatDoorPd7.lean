/- Lemmas of the walk. Conditions: each its own. -/
import Derived.Test.YtcfpmjbojoidoaaGreatDoorPd4
import Derived.Test.YtcfpmjbojoidoaaGreatDoorPd5
import Derived.Test.YtcfpmjbojoidoaaGreatDoorProg
import Derived.Test.YtcfpmjbojoidoaaGreatDoorShl
set_option linter.all false
set_option maxRecDepth 100000
set_option maxHeartbeats 2000000
open Go.Proofs.Tryz
namespace Go.Proofs.YtcfpmjbojoidoaaGreatDoor
section
open Go.RowKit
def bF (a:List Nat) (b:Nat):Nat:=a.getD ((b+a.length - 1)% a.length) 0
def aF (a b:List Nat):List Nat:=b.map (bF a)
def bH (b a:List Nat):(aF b a).length=a.length:=by simp [aF]
def aGL {a:List Nat} (d:∀e∈a,e < 257) (b:Nat):bF a b < 257:=by
 unfold bF;rw [zAb];cases c:a[(b+a.length - 1)% a.length]? with
 | none=>simp
 | some f=>simpa using d f (zAd c)
def cX {b rs:List Nat} (c:∀a∈b,a < 257):∀a∈aF b rs,a < 257:=by
 intro a d;obtain ⟨e,_,rfl⟩:=zAy.1 d;exact aGL c e
def aE2 (a:Nat) (g:a<=1000000) (w:World):(Instr.makeSlice 48 (.int .i64 0) (.int .i64 (a:Int))).run prog w=.ok (.slice (some w.heap.size) 0 a) (w.alloc (.cells (madeCells #[.int .i64 0] a) 3)):=by
 obtain ⟨f,b,c,d,e⟩:=info_parts iA;have:=run_make (P:=prog) w 48 3 f (.int .i64 0) underlying48 b c .i64 .i64 0 a oM oM (by rw [e];omega) oM;rw [this,d];simp only [Value.cells,zBr,zBl];rfl
def aBC {w w':World} {i g:Nat} {a:Option Addr} {j:List Value} {row:Option Nat} (d:Rd w w.heap.size i a g j) (f:w.grownBy w' row) (l:∀b,a=some b->row≠some b.block):Rd w' w'.heap.size i a g j:=by
 refine ⟨d.1,fun n=>?_⟩;obtain ⟨c,q,rfl,e,m⟩:=d.2 n;refine ⟨c,q,rfl,zAl e f.size,fun p r o=>?_⟩;rw [World.cell?_of_block (w:=w) (f.block c e (fun k=>l _ rfl k.symm))];exact m p r o
def Apt (c:Value) (b:Option Addr):Prop:=∀a,b=some a->c.ownBlock≠some a.block
def Apt.next {i e:Value} {c:Option Addr} {f:Nat} (j:Apt i c) (l:e.ownBlock=i.ownBlock∨e.ownBlock=some f) (k:∀a,c=some a->a.block < f):Apt e c:=by
 intro a g b;rcases l with d | d;exact j a g (d.symm.trans b);rw [d] at b;injection b with b;have:=k a g;omega
def mK (n:Option Addr) (f u B:Nat) (d:List UInt8) (w:World) (W:Rd w B 1 n f (d.map bv)) (ad:B<=w.heap.size) (b5:f<=200):
 Calls prog 52 #[.slice n f u] w fun K w'=>∃i k l,IsSuf (aI d) i/\K=.returned (.slice k (f+1) l)/\Made w' w.heap.size 3 1 k (f+1) l ((aF (aI d) i).map sv)/\Below w.heap.size w w':=by
 obtain ⟨bc,b1,b9,ba,bb⟩:=info_parts iA;have au:d.length=f:=by simpa using W.1
 obtain ⟨ab,aK⟩:=hqq2 W au;clear W au;go_enter func52,ntmps52;go_wp2_with fail;obtain ⟨a,y⟩:=eqx (f+1);have Y:=wK w.heap.size 0 n f u w.heap.size d (w.alloc (.cells #[.slice n f u] 34)) (Bk.new _ _ _) ((ab.out.mono ad).alloc nL _) (by simp) oM;have X:=fun ac (m:Below w.heap.size w ac)=>mJ n f u w.heap.size d ac ((ab.out.mono ad).below m) m.size b5;simp only [y] at Y X;have bl:a<=201:=oM;have bk:1<=a:=oM;have ak:(aI d).length=a:=by rw [aO,aK.out,y]
 obtain ⟨a4,G,a5⟩:=hqq3 y ak X;clear y ak X;refine Y.mono ?_;clear Y;rintro K w1 ⟨D,bh,rfl,am,ah⟩;have ai:=((Below.refl w.heap.size w).alloc nL _).trans (ah.mono (by simp));have bd:=aE2 a oM;obtain ⟨H,t⟩:=hqq2 am ai;clear am ah ai;go_wp2_with fail;clear bd;have q:=t.out.alloc t.out.size (.cells (madeCells #[.int .i64 0] a) 3);have O:=H.out.below (bR.alloc nL (.cells (madeCells #[.int .i64 0] a) 3));have g:(w1.alloc (.cells (madeCells #[.int .i64 0] a) 3)).ownsRow w.heap.size 3 1 (.slice (some w1.heap.size) 0 a) 0 []:=World.ownsRow_made _ _ _ t.out.size (by unfold maxLen;omega) (by simp [madeCells]);obtain ⟨p,M⟩:=eqx w1.heap.size;have b0:p < (w1.alloc (.cells (madeCells #[.int .i64 0] a) 3)).heap.size:=by rw [<-M];simp
 have ae:Apt (.slice (some p) 0 a) D:=by
  intro b c m;obtain ⟨ax,aN,j,_,L⟩:=aP H.out.own;injection j with j;have:=(L b (j.symm.trans c)).2;have aS:p=b.block:=by simpa [Value.ownBlock] using m
  omega
 have ay:=lhd ae;clear ae;rw [M] at g⊢;generalize w1.alloc (.cells (madeCells #[.int .i64 0] a) 3)=W2 at q O g b0⊢;obtain ⟨a7,a6⟩:=hqq2 g O;clear g O H t M;refine (a5.out W2 q).mono ?_;rintro K bt ⟨i,E,bi,aq,rfl,S,v⟩;have aj:=q.trans (v.mono q.size);have ao:=aQ a7.out v;have an:=a6.out.below v;have af:Apt (.slice (some p) 0 a) E:=by
  intro b c m;obtain ⟨ax,aN,j,_,L⟩:=aP S.own;injection j with j;have:=(L b (j.symm.trans c)).1;have aS:p=b.block:=by simpa [Value.ownBlock] using m
  omega
 have az:=lhd af;clear af;obtain ⟨I,aD,aC,aE,aA⟩:=hqq5 aq S.rd an.rd ao aj;clear aq S an ao aj v q a7 a6 a5;go_wp2_with fail;go_loopw [4,6,16] (fun a3 _ a1 wr=>∃e:Nat,e<=a/\a1=.int .i64 e/\wr.ownsRow w.heap.size 3 1 a3 e ((aF (aI d) (i.take e)).map sv)/\Below w.heap.size w wr/\Apt a3 D/\Apt a3 E/\Rd wr wr.heap.size 1 D a ((aI d).map sv)/\Rd wr wr.heap.size 1 E a (i.map sv)) (fun _ _ a1 _=>a -(intOf a1).toNat)
 case atStart=>exact ⟨0,by omega,rfl,aE.out,aA.out,ay.out,az.out,aC.out,aD.out⟩
 case round=>
  obtain ⟨e,bj,rfl,g,x,U,V,z,A⟩:=hrel;by_cases b4:e < a
  · obtain ⟨aL,be,bp,rfl,aT,Z,aX⟩:=A.get b4;rw [zAf] at Z;obtain ⟨s,T,rfl⟩:=Option.map_eq_some_iff.1 Z;have bm:s < a:=(by have:=I.out.lt (zAd T);rw [G.out] at this;exact this);obtain ⟨a2,r⟩:=eqx ((s+a - 1)% a);have b8:a2 < a:=(by rw [<-r];exact Nat.mod_lt _ oM);obtain ⟨aM,bf,bq,rfl,aV,a0,aY⟩:=z.get b8;rw [zAf] at a0;obtain ⟨aw,av,rfl⟩:=Option.map_eq_some_iff.1 a0;have ap:bF (aI d) s=aw:=(by unfold bF;rw [G.out,r,zAb,av];rfl);have ar:aF (aI d) (i.take (e+1))=aF (aI d) (i.take e)++ [aw]:=(by rw [zAv,T,aF,zAz,<-ap];rfl);unfold sv at aX aY;have b7:((s:Int)+(a:Int) - 1)%(a:Int)=(a2:Int):=(by rw [<-r,Int.natCast_emod];congr 1;omega);have bn:((s:Int)+(a:Int) - 1).tmod (a:Int)=(a2:Int):=(by rw [Int.tmod_eq_emod_of_nonneg oM];exact b7);obtain ⟨aJ,a8,a9,aa,o,aG,aH,bg⟩:=hqq8 ar g U V x z A r;clear Z a0 av ap ar g x U V z A r T;go_wp2_with (at_builtin;refine bM _ rfl (.tmp 20) (.tmp 32) _ rfl w.heap.size 3 bc (.int .i64 0) 1 8 underlying48 b1 b9 ba bb rfl dC _ e _ rfl a8.out rfl rfl (by simp [Value.oneCell']) (by unfold maxLen;omega) oM o.out.size ?_;intro br bs b6 N bo ag);have aW:=bG o.out a8.out N o.out.size;have b2:∀b,some (⟨aM,bf,none⟩:Addr)=some b->b.block < _:=fun b c=>by injection c with c;subst c;exact aV
    have b3:∀b,some (⟨aL,be,none⟩:Addr)=some b->b.block < _:=fun b c=>by injection c with c;subst c;exact aT
    go_roundw
    case rel=>refine ⟨e+1,by omega,by go_num,?_,aW,a9.out.next ag (fun b c=>Nat.lt_succ_of_lt (b2 b c)),aa.out.next ag (fun b c=>Nat.lt_succ_of_lt (b3 b c)),aBC aG.out N a9.out,aBC aH.out N aa.out⟩;rw [aJ.out,zAz];exact b6
    case measure=>simp [intOf];omega
  · obtain rfl:a=e:=oM;rw [zAg (by rw [I.out.len,G.out];omega)] at g;obtain ⟨k,l,rfl,al⟩:=aU g;obtain ⟨aB,o⟩:=hqq2 al x;clear g al x U V z A;go_wp2_with fail;go_ret;have aZ:∀J,Made wr w.heap.size 3 1 k a l J->Made wr w.heap.size 3 1 k (f+1) l J:=fun J aR=>by rw [a4.out];exact aR
    exact ⟨i,k,l,I.out,by rw [a4.out];rfl,aZ _ aB.out,o.out⟩
def aJ (b:List Nat) (a c:Nat):List Bool:=(b.filter fun d=>aW d a==c).map (fO · a)
def mV (b a:Nat) (f:a < 9):aW b (a+1)=2*aW b a+(if fO b a then 1 else 0):=by
 unfold aW fO;have d:9 -(a+1)=8 - a:=oM;have e:9 - a=(8 - a)+1:=oM;rw [d,e,Nat.pow_succ,<-Nat.div_div_eq_div_mul];generalize b / 2 ^(8 - a)=q;by_cases c:q % 2=1;simp [c];omega;simp [c];omega
def mU (a:Nat) (b:a < 257):aW a 0=0:=by
 unfold aW;exact Nat.div_eq_of_lt oM
def mW (a:Nat):aW a 9=a:=by
 unfold aW;simp
def kU (b a:Nat) (c:b < 257) (d:a<=9):aW b a < 2 ^ a:=by
 unfold aW;rw [Nat.div_lt_iff_lt_mul (Nat.pos_of_ne_zero (by simp)),<-Nat.pow_add,show a+(9 - a)=9 by omega];omega
def aDJ (e:List Nat) (a b:Nat) (j:a < 9):(aJ e a (aW b a)).count (fO b a)=e.countP (fun l=>aW l (a+1)==aW b (a+1)):=by
 induction e with
 | nil=>rfl
 | cons c o k=>
   have f:=mV c a j;have g:=mV b a j;unfold aJ at k⊢;rw [zBn,<-k,List.filter_cons];by_cases d:aW c a=aW b a
   · rw [zBx (by simp [d]),List.map_cons,List.count_cons];by_cases i:fO c a=fO b a
     · have:aW c (a+1)=aW b (a+1):=(by rw [f,g,d,i]);simp [i,this]
     · have:aW c (a+1)≠aW b (a+1):=(by rw [f,g,d];cases m:fO c a <;> cases n:fO b a <;> simp_all);simp [i,this]
   · rw [zBw (by simp [d])];have:aW c (a+1)≠aW b (a+1):=(by rw [f,g];cases fO c a <;> cases fO b a <;> simp <;> omega);simp [this]
def aFE (d:List Nat) (b c a:Nat):(aJ d b c).take ((d.take a).countP fun j=>aW j b==c)=aJ (d.take a) b c:=by
 induction d generalizing a with
 | nil=>simp [aJ]
 | cons f k i=>
   rcases a with _ | a
   · simp [aJ]
   · have:=i a;unfold aJ at this⊢;rw [List.take_succ_cons,zBn,List.filter_cons,List.filter_cons];by_cases e:aW f b=c
     · simp only [e,beq_self_eq_true,if_true,List.map_cons,List.take_succ_cons,this]
     · have g:(aW f b==c)=false:=(by simp [e]);simp only [g,Bool.false_eq_true,if_false,zBq,this]
def kJ (a:List Nat) (b c:Nat):(aJ a b c).length=a.countP fun d=>aW d b==c:=by
 unfold aJ;rw [zBc,List.countP_eq_length_filter]
def eY (b:List Nat) (c e a:Nat):Nat:=(b.take c).countP fun d=>aW d a==aW e a
def kK (a:List Nat) (b d:Nat) (i:b<=a.length) (e:∀c∈a,c < 257) (f:d < 257):eY a b d 0=b:=by
 unfold eY;rw [List.countP_eq_length.2 (fun c g=>by
  have:=e c (List.mem_of_mem_take g);simp [mU _ this,mU _ f]),zAj]
 omega
def kL (c:List Nat) (d b a:Nat) (e:a < 9):((aJ c a (aW b a)).take (eY c d b a)).count (fO b a)=eY c d b (a+1):=by
 unfold eY;rw [aFE,aDJ _ _ _ e]
def aEA (a:List Nat) (c d b:Nat):eY a c d b<=(aJ a b (aW d b)).length:=by
 unfold eY;rw [kJ];exact (List.take_sublist c a).countP_le
def zG (a:List Nat) (b c:Nat):eY a b c 9=(a.take b).count c:=by
 unfold eY;rw [List.count_eq_countP];congr 1;funext s;rw [mW,mW]
def dO (b:Nat->Nat) (c d:Nat):List Value:=(List.range d).flatMap fun a=> [.pointer (some ⟨b a,0,none⟩),.int .i64 (c:Int),.int .i64 (a:Int)]
def gX (b:Nat->Nat) (c a:Nat):dO b c (a+1)=dO b c a++ [.pointer (some ⟨b a,0,none⟩),.int .i64 (c:Int),.int .i64 (a:Int)]:=by
 unfold dO;rw [List.range_succ,List.flatMap_append];simp
def uB (b:Nat->Nat) (d a:Nat):(dO b d a).length=a*3:=by
 induction a with
 | zero=>rfl
 | succ a c=>rw [gX,zAi,c];simp;omega
def fL (c:Nat->Nat) (d b a:Nat) (l:a < b):(dO c d b)[a*3]?=some (.pointer (some ⟨c a,0,none⟩))/\(dO c d b)[a*3+1]?=some (.int .i64 (d:Int))/\(dO c d b)[a*3+2]?=some (.int .i64 (a:Int)):=by
 induction b with
 | zero=>omega
 | succ b k=>
   rw [gX];by_cases f:a=b;subst f;have e:=uB c d a;refine ⟨?_,?_,?_⟩;rw [zAo oM,e,Nat.sub_self];rfl;rw [zAo oM,e,show a*3+1 - a*3=1 by omega];rfl;rw [zAo oM,e,show a*3+2 - a*3=2 by omega];rfl;have e:=uB c d b;obtain ⟨g,i,j⟩:=k oM;refine ⟨?_,?_,?_⟩;rw [zAn oM];exact g;rw [zAn oM];exact i;rw [zAn oM];exact j
def zV (c d:Nat->Nat) (f a:Nat) (e:∀b,b < a->c b=d b):dO c f a=dO d f a:=by
 induction a with
 | zero=>rfl
 | succ a g=>rw [gX,gX,g (fun b i=>e b oM),e a oM]
def ShelfRow (w:World) (B:Nat) (f:Value) (e:List Nat) (d c:Nat):Prop:=
 ∃(b:Nat->Nat),w.ownsRow B 206 3 f c (dO b d c)/\∀a,a < c->B<=b a/\TreeAt w (b a) (aJ e d a)
def ShelfRow.vis {w w':World} {B:Nat} {i:Value} {a:List Nat} {e f:Nat} (k:ShelfRow w B i a e f) (d:Vis w w'):ShelfRow w' B i a e f:=by
 obtain ⟨j,l,b⟩:=k;exact ⟨j,d.own l dC dC,fun g c=>⟨(b g c).1,(b g c).2.vis d⟩⟩
def ShelfRow.below {w w':World} {B:Nat} {d:Value} {a:List Nat} {b c:Nat} (e:ShelfRow w B d a b c) (f:Below w.heap.size w w'):ShelfRow w' B d a b c:=e.vis (Vis.of_below f)
def WaveAt (w:World) (B d:Nat) (b:List Nat):Prop:=
 B<=d/\∃(c:Nat->Value) (e:Int),Bk w d 201 (wcells c (b.length:Int) e)/\∀a,a < 9->ShelfRow w B (c a) b a (2 ^ a)
def WaveAt.vis {w w':World} {B b:Nat} {a:List Nat} (e:WaveAt w B b a) (c:Vis w w'):WaveAt w' B b a:=by
 obtain ⟨f,d,n,g,i⟩:=e;obtain ⟨m,j⟩:=c.waveC g;exact ⟨f,d,m,j,fun l k=>(i l k).vis c⟩
def WaveAt.below {w w':World} {B b:Nat} {a:List Nat} (c:WaveAt w B b a) (d:Below w.heap.size w w'):WaveAt w' B b a:=c.vis (Vis.of_below d)
abbrev VB (B:Nat):World->World->Prop:=VisK (fun a=>B<=a)
def bD {B:Nat} {w w':World} (a:VB B w.drew w'):VB B w w':=⟨⟨a.1.os,a.1.tape,a.1.output,a.1.size,a.1.block⟩,⟨a.2.os,a.2.tape,a.2.output,a.2.size,a.2.block⟩⟩
def VB.to_below {B:Nat} {w w':World} (b:VB B w w') (c:B<=w.heap.size):Below B w w':=b.2.to_below c (fun d e a=>by have:=a;omega)
def VB.set_wave {w:World} {B a:Nat} {d:Array Value} (e:Bk w a 201 d) (f:B<=a) (b:Int):VB B w (w.setCell ⟨a,10,none⟩ (.int .i64 b)):=⟨Vis.set_wave e b,Keep.setCell (F:=fun c=>B<=c) (Keep.refl _ _) (p:=⟨a,10,none⟩) (.inl f) _⟩
def ix9 (a:Nat->Value) (b:Nat) (c:b < 9) (w:World):(Instr.index 199 (.agg #[a 0,a 1,a 2,a 3,a 4,a 5,a 6,a 7,a 8]) (.int .i64 (b:Int))).run prog w=.ok (a b) w:=by
 rcases b with _ | _ | _ | _ | _ | _ | _ | _ | _ | b
 all_goals first |(exfalso;omega)| kernel_rfl
def gF (B c:Nat) (f:List Nat) (g b:Nat) (w:World) (aI:WaveAt w B c f) (x:b < 257) (aj:g<=f.length) (K:∀q∈f,q < 257) (aM:f.length<=1000):
 Calls prog 217 #[c,(g:Int),(b:Int)] w fun t w'=>t=.returned (.int .i64 (((f.take g).count b:Nat):Int))/\VB B w w':=by
 have af:=kK f g b aj K x;have ag:=zG f g b;obtain ⟨ah,i,an,m,al⟩:=aI;have y:=m.set 10 (.int .i64 0);rw [cF] at y;have X:=VB.set_wave m ah 0;obtain ⟨s,T⟩:=eqx f.length;rw [T] at m y aj aM;have bv:max (g:Int) 0=(g:Int):=oM;have bw:min (g:Int) (s:Int)=(g:Int):=oM;have aG:=m.frozen 10;have b0:w.cell? ⟨c,10,none⟩=some (.int .i64 an):=(m.cell 10).trans (aZ i s an).2.2.2.2.2.2.2.2.2.2;have br:=m.lt;obtain ⟨b3,L⟩:=eqx (w.setCell ⟨c,10,none⟩ (.int .i64 0));rw [L] at y X;obtain ⟨H,a3,ay,ap,aq,b1,b2,ar⟩:=hqq8 y X al af ag K T L;clear m al y X af ag K T L;go_enter func217,ntmps217;go_wp2_with fail;rw [ar.out];refine (eO b _ x).mono ?_;rintro t w1 ⟨rfl,M⟩;have k:=H.out.below M H.out.lt;have am:=a3.out.below M;obtain ⟨a5,a6,a7,a8,a9,aa,ab,ac,ad,ae,aD⟩:=aZ i (s:Int) 0;have b7:w1.cell? c=some (i 0):=(k.cell 0).trans a5;have b8:w1.cell? ⟨c,1,none⟩=some (i 1):=(k.cell 1).trans a6;have b9:w1.cell? ⟨c,2,none⟩=some (i 2):=(k.cell 2).trans a7;have ba:w1.cell? ⟨c,3,none⟩=some (i 3):=(k.cell 3).trans a8;have bb:w1.cell? ⟨c,4,none⟩=some (i 4):=(k.cell 4).trans a9;have bc:w1.cell? ⟨c,5,none⟩=some (i 5):=(k.cell 5).trans aa;have bd:w1.cell? ⟨c,6,none⟩=some (i 6):=(k.cell 6).trans ab;have be:w1.cell? ⟨c,7,none⟩=some (i 7):=(k.cell 7).trans ac;have bf:w1.cell? ⟨c,8,none⟩=some (i 8):=(k.cell 8).trans ad;have bg:w1.cell? ⟨c,9,none⟩=some (.int .i64 (s:Int)):=(k.cell 9).trans ae;obtain ⟨av,I⟩:=hqq2 k am;clear a5 a6 a7 a8 a9 aa ab ac ad ae aD k am M H a3 b0 aG;go_wp2_with fail;go_loopw [1,28] (fun q z wr=>∃a:Nat,a<=9/\z=.int .i64 a/\q=.int .i64 ((eY f g b a:Nat):Int)/\VB B w1 wr) (fun _ z _=>9 -(intOf z).toNat)
 case atStart=>exact ⟨0,by omega,rfl,by rw [ap.out],VisK.refl _ _⟩
 case round=>
  obtain ⟨a,bs,rfl,rfl,W⟩:=hrel;by_cases D:a < 9
  · have aL:=ix9 i a D;obtain ⟨G,u,V⟩:=ay.out a D;obtain ⟨p,S⟩:=eqx (2 ^ a);obtain ⟨d,v⟩:=eqx (aW b a);have ak:d < p:=(by rw [<-S,<-v];exact kU b a x oM);rw [S] at u V;obtain ⟨r,a4,ai,bt,bq⟩:=World.ownsRow.form u oM;rw [ai] at aL u;obtain ⟨q,E⟩:=eqx (eY f g b a);obtain ⟨a1,a0⟩:=eqx (eY f g b (a+1));obtain ⟨J,O⟩:=eqx (fO b a);have Z:=kL f g b a D;have Y:=aEA f g b a;rw [v,E,O,a0] at Z;rw [v,E] at Y;rw [E];have bu:(d:Int) < (p:Int):=oM;obtain ⟨aA,az,aw,a2,ax,au,aB,A⟩:=hqq8 Z Y u (V d ak) v O a0 W;clear u V ai S v E a0 O Z Y W;go_wp2_with fail;refine wp_region_any kR ?_;refine aX [32,33,34,35,36,37,38,39,40,41,42,43,1] (VB B) (Vs [is c,is (.slice (some r) p a4),is (b:Int),is (a:Int),is (d:Int),is (.pointer (some ⟨r,d*3,none⟩)),is (.agg #[.pointer (some ⟨G d,0,none⟩),(a:Int),(d:Int)]),is (q:Int),is (b:Int),is (a:Int),is (.bool J),is (a1:Int),is (a1:Int)]) _ _ rfl kR vR (fun _ _=>VisK.trans) (cM tA0) ?_ ?_
    · refine aR ?_;refine pH 0 (.pointer (some c)) ?_;refine pH 8 (.slice (some r) p a4) ?_;refine pH 2 (.int .i64 (b:Int)) ?_;refine pH 7 (.int .i64 (a:Int)) ?_;refine sC (fun _ l _ _ _ _ e _ _ _ o=>?_) ?_
      · have bi:_=_:=e 2 34 kR rfl;have bj:_=_:=e 3 35 kR rfl;go_simp;refine (jS b a l x oM).mono ?_;rintro t ao ⟨rfl,N⟩;rw [ax.out];exact o _ _ (VisK.of_below N) rfl
      refine pW 1 33 4 36 ?_;refine sC (fun _ l j _ _ _ e _ _ _ o=>?_) ?_
      · have bk:_=_:=e 5 37 kR rfl;replace j:(VB B) wr l:=bD j;have U:=(I.out.trans (A.out.trans j)).1.own aw.out dC dC;obtain ⟨aS,aT,aU⟩:=fL G a p d ak;have b4:l.cell? ⟨r,d*3,none⟩=_:=(World.ownsRow.cellAt U (d*3) oM).trans aS;have b5:l.cell? ⟨r,d*3+1,none⟩=_:=(World.ownsRow.cellAt U (d*3+1) oM).trans aT;have b6:l.cell? ⟨r,d*3+2,none⟩=_:=(World.ownsRow.cellAt U (d*3+2) oM).trans aU;go_simp;exact o _ _ vR rfl
      refine pH 1 (.int .i64 (q:Int)) ?_;refine pH 2 (.int .i64 (b:Int)) ?_;refine pH 7 (.int .i64 (a:Int)) ?_;refine sC (fun _ l _ _ _ _ e _ _ _ o=>?_) ?_
      · have bn:_=_:=e 8 40 kR rfl;have bo:_=_:=e 9 41 kR rfl;go_simp;refine (lJ b a l x D).mono ?_;rintro t ao ⟨rfl,N⟩;rw [au.out];exact o _ _ (VisK.of_below N) rfl
      refine sC (fun _ l j _ _ _ e _ _ _ o=>?_) ?_
      · have bh:_=_:=e 0 32 kR rfl;have bl:_=_:=e 6 38 kR rfl;have bm:_=_:=e 7 39 kR rfl;have bp:_=_:=e 10 42 kR rfl;replace j:(VB B) wr l:=bD j;go_simp;obtain ⟨aV,aQ⟩:=(A.out.trans j).1.waveC av.out;have aN:=a2.out.2.vis (I.out.trans (A.out.trans j)).1;refine (lI c (G d) i s aV a d (aJ f a d) q J l aQ aN az.out).mono ?_;rintro t ao ⟨rfl,aP⟩;rw [aA.out];exact o _ _ (aP.mono fun J m=>by rcases m with rfl | rfl;exact ah;exact a2.out.1) rfl
      refine pV 11 43 ?_;exact aH
    · intro aF aY j e;replace j:(VB B) wr aY:=bD j;have aE:aF (.tmp 1)=.int .i64 (a1:Int):=e 12 1 rfl;simp only [zqq];rw [aE];clear e;have aO:=A.out.trans j;go_wp2_with fail;go_roundw
      case rel=>exact ⟨a+1,by omega,by go_num,by rw [aB.out],aO⟩
      case measure=>simp [intOf];omega
  · have aK:a=9:=oM;subst aK;rw [aq.out];go_wp2_with fail;go_ret;exact ⟨rfl,I.out.trans W⟩
@[irreducible] def rowC (aC:Nat->Value) (p:Nat):Array Value:=Array.ofFn (n:=p) fun z=>aC z.val
def mS (b:Nat->Value) (a:Nat):(rowC b a).size=a:=by unfold rowC;simp
def lW (b:Nat->Value) (c a:Nat) (d:a < c):(rowC b c)[a]?=some (b a):=by
 unfold rowC;rw [Array.getElem?_ofFn,dif_pos d]
def aGB (f:Nat->Value) (d c:Nat) (i:c < d) (g:Value):(rowC f d).setIfInBounds c g=rowC (fun b=>if b=c then g else f b) d:=by
 apply Array.ext_getElem?;intro b;rcases zBe b d with a | a
 · rw [lW _ _ _ a];by_cases e:c=b
   · subst e;rw [Array.getElem?_setIfInBounds_self_of_lt (by rw [mS];exact i),zBx rfl]
   · rw [zCe e,lW _ _ _ a,zBw (fun j=>e j.symm)]
 · rw [Array.getElem?_eq_none (by simp [mS];exact a),Array.getElem?_eq_none (by rw [mS];exact a)]
def aC2 (c:Value) (b:Nat):rowC (fun _=>c) b=Array.replicate b c:=by
 apply Array.ext_getElem?;intro d;rcases zBe d b with a | a
 · rw [lW _ _ _ a];simp [a]
 · rw [Array.getElem?_eq_none (by rw [mS];exact a),Array.getElem?_eq_none (by simpa using a)]
structure Bits (w:World) (B gB m:Nat) (T:Nat->Value) (R:Nat->List Bool):Prop where
 blk:Bk w gB 148 (rowC T m)
 own:∀p,p < m->w.ownsRow B 4 1 (T p) (R p).length ((R p).map Value.bool)
 apart:∀p q,p < m->q < m->p≠q->∀b,(T p).ownBlock=some b->(T q).ownBlock≠some b
def Bits.same {w w':World} {B e f:Nat} {d:Nat->Value} {R:Nat->List Bool} (c:Bits w B e f d R) (j:∀a b,Bk w a 148 b->Bk w' a 148 b) (k:∀a b,Bk w a 4 b->Bk w' a 4 b):Bits w' B e f d R:=
 ⟨j _ _ c.blk,fun l i=>aA (c.own l i) fun a b _ g=>k a b g,c.apart⟩
def Bits.below {w w':World} {B c e:Nat} {b:Nat->Value} {R:Nat->List Bool} (i:Bits w B c e b R) (d:Below w.heap.size w w'):Bits w' B c e b R:=i.same (fun f g a=>a.below d a.lt) (fun f g a=>a.below d a.lt)
def Bits.start (w:World) (B a b:Nat) (c:Bk w a 148 (rowC (fun _=>.slice none 0 0) b)):Bits w B a b (fun _=>.slice none 0 0) (fun _=> []):=
 ⟨c,fun e g=>World.ownsRow_nil _ _ _ _,fun e i _ _ _ f d=>by simp [Value.ownBlock] at d⟩
def Bits.push {w w1:World} {B o n a:Nat} {i:Nat->Value} {R:Nat->List Bool} {v:Value} {b:Bool} (j:Bits w B o n i R) (r:a < n) (I:Keep (fun b=>(i a).ownBlock=some b) w w1)
 (L:w1.ownsRow B 4 1 v ((R a).length+1) ((R a).map Value.bool++ [.bool b])) (u:v.ownBlock=(i a).ownBlock∨∃e,v.ownBlock=some e/\w.heap.size<=e):
 Bits (w1.setCell ⟨o,a,none⟩ v) B o n (fun q=>if q=a then v else i q) (fun q=>if q=a then R a++ [b] else R q):=by
 have K:(i a).ownBlock≠some o:=by intro d;exact aT (j.own a r) j.blk dC d.symm
 have A:=I.bk j.blk K;have E:∀e m,Bk w1 e 4 m->Bk (w1.setCell ⟨o,a,none⟩ v) e 4 m:=fun e m k=>k.far (Bk.ne k A dC) _;refine ⟨?_,fun c g=>?_,fun c y g D x s p=>?_⟩;rw [<-aGB i n a r v];exact A.set a v;by_cases d:c=a;subst d;rw [zBx rfl,zBx rfl,zAi,zAz];exact aA L fun e m _ k=>E e m k;rw [zBw d,zBw d];refine aA (j.own c g) fun e m k J=>E e m (I.bk J ?_);exact fun f=>j.apart c a g r d e k f;have N:∀c,c < n->∀f,(i c).ownBlock=some f->f < w.heap.size:=fun c g f l=>((j.own c g).lt f l).2;have G:∀c,c < n->c≠a->∀f,v.ownBlock=some f->(i c).ownBlock≠some f:=(by intro c g M f l H;rcases u with u |⟨e,k,O⟩;rw [u] at l;exact j.apart a c r g (fun d=>M d.symm) f l H;rw [k] at l;cases l;have:=N c g _ H;omega);by_cases t:c=a;subst t;rw [zBx rfl] at p;rw [zBw (fun d=>x d.symm)];exact G y D (fun d=>x d.symm) s p;rw [zBw t] at p;by_cases z:y=a;subst z;rw [zBx rfl];intro l;exact G c g t s l p;rw [zBw z];exact j.apart c y g D x s p
def aFF (d:List Nat) (c a b:Nat):aJ (d++ [c]) a b=if b=aW c a then aJ d a b++ [fO c a] else aJ d a b:=by
 unfold aJ;rw [List.filter_append,zAz];by_cases e:b=aW c a
 · rw [zBx e];simp [e]
 · rw [zBw e];have:(aW c a==b)=false:=(by simp;omega);simp [this]
def Bits.congr {w:World} {B e c:Nat} {d:Nat->Value} {R R':Nat->List Bool} (b:Bits w B e c d R) (g:∀a,a < c->R a=R' a):Bits w B e c d R':=
 ⟨b.blk,fun a f=>by rw [<-g a f];exact b.own a f,b.apart⟩
def eF {w:World} {e:Nat} {a:TypeId} {n m b:Nat} {d:Value} {o:List Value} (k:w.ownsRow e a n d m o) (c:d.ownBlock=some b):∃f,Bk w b a f:=by
 rcases k.2 with ⟨rfl,_⟩|⟨j,p,g,rfl,_,l,_⟩
 · simp [Value.ownBlock] at c
 have i:j=b:=(by simpa [Value.ownBlock] using c);subst i;exact ⟨g,l⟩
def TreeAt.keepT {w w':World} {F:Nat->Prop} {e:Nat} {c:List Bool} (j:TreeAt w e c) (o:Keep F w w') (m:∀a,F a->∃b d,Bk w a b d/\(b=201∨b=206)):TreeAt w' e c:=by
 refine j.same fun a b d g f=>o.bk f fun k=>?_;obtain ⟨q,p,l,n⟩:=m a k;have i:=(aK f l).1;subst i;rcases n with rfl | rfl;exact absurd g dC;exact absurd g dC
def ShelfRow.keepW {w w':World} {b B:Nat} {c:Array Value} {p:Value} {f:List Nat} {m n:Nat} (r:ShelfRow w B p f m n) (l:Keep (fun a=>a=b) w w') (k:Bk w b 201 c):ShelfRow w' B p f m n:=by
 obtain ⟨q,s,g⟩:=r;refine ⟨q,aA s fun a c _ i=>l.bk i fun d=>?_,fun o j=>⟨(g o j).1,(g o j).2.keepT l fun a d=>by
  have e:a=b:=d;subst e;exact ⟨_,c,k,.inl rfl⟩⟩⟩
 have e:a=b:=d;subst e;exact absurd (aK i k).1 dC
def ShelfRow.mono {w:World} {B B':Nat} {i:Value} {a:List Nat} {e f:Nat} (k:ShelfRow w B i a e f) (c:B'<=B):ShelfRow w B' i a e f:=by
 obtain ⟨j,l,b⟩:=k;exact ⟨j,bV l c,fun g d=>⟨zAk c (b g d).1,(b g d).2⟩⟩
def WaveAt.mono {w:World} {B B' b:Nat} {a:List Nat} (e:WaveAt w B b a) (c:B'<=B):WaveAt w B' b a:=by
 obtain ⟨f,d,l,g,i⟩:=e;exact ⟨zAk c f,d,l,g,fun k j=>(i k j).mono c⟩
def WalkAt (w:World) (B gk:Nat) (a:List Nat):Prop:=
 ∃c b,Bk w gk 147 #[.pointer (some ⟨c,0,none⟩),.pointer (some ⟨b,0,none⟩)]/\WaveAt w B c a/\Bk w b 209 (tcells a)
def WalkAt.vis {w w':World} {B gk:Nat} {b:List Nat} (e:WalkAt w B gk b) (a:Vis w w'):WalkAt w' B gk b:=by
 obtain ⟨d,c,f,g,i⟩:=e;exact ⟨d,c,a.bk f dC dC,g.vis a,a.bk i dC dC⟩
def WalkAt.mono {w:World} {B B' gk:Nat} {a:List Nat} (d:WalkAt w B gk a) (i:B'<=B):WalkAt w B' gk a:=by
 obtain ⟨c,b,e,f,g⟩:=d;exact ⟨c,b,e,f.mono i,g⟩
def sV (B b:Nat) (a:List Nat) (w:World) (f:WaveAt w B b a):
 Calls prog 119 #[b] w fun e w'=>e=.returned (.int .i64 (a.length:Int))/\w=w':=by
 obtain ⟨_,d,g,c,_⟩:=f;have i:w.cell? ⟨b,9,none⟩=some (.int .i64 (a.length:Int)):=by rw [c.cell];have:=aZ d (a.length:Int) g;simp [this]
 clear c;go_enter func119,ntmps119;go_wp2;go_ret;exact ⟨rfl,rfl⟩
def jR (B gk:Nat) (a:List Nat) (w:World) (e:WalkAt w B gk a):
 Calls prog 69 #[gk] w fun b w'=>b=.returned (.int .i64 (a.length:Int))/\w=w':=by
 obtain ⟨d,j,c,f,g⟩:=e;have i:=c.cell 0;clear c g;go_enter func69,ntmps69;go_wp2_with fail;refine (sV B d a _ f).mono ?_;rintro b w' ⟨rfl,rfl⟩;go_wp2_with fail;go_ret;exact ⟨rfl,rfl⟩
def gT (B gk:Nat) (a:List Nat) (b:Nat) (w:World) (l:WalkAt w B gk a) (p:b < 257) (o:a.length<=1000):
 Calls prog 153 #[gk,(b:Int)] w fun d w'=>d=.returned (.int .i64 ((a.countP (fun c=>decide (c < b)):Nat):Int))/\Below w.heap.size w w':=by
 obtain ⟨r,k,e,m,f⟩:=l;have q:=e.cell 1;clear e m;have j:=lhd f;clear f;go_enter func153,ntmps153;go_wp2_with fail;refine (jF k a b _ j.out p o).mono ?_;rintro d w' ⟨rfl,n⟩;obtain ⟨i,g⟩:∃i,a.countP (fun c=>decide (c < b))=i:=⟨_,rfl⟩;rw [g];go_wp2_with fail;go_ret;exact ⟨by rw [g];rfl,n⟩
def bZ (a:List Nat) (b c:Nat):Nat:=a.countP (fun d=>decide (d < b))+(a.take c).count b
end
section
open Go.RowKit Go.Shelf
def lQ (a:Nat×Nat):List Value:= [.int .i64 (a.1:Int),.int .i64 (a.2:Int)]
def bJ (C:List (Nat×Nat)):List Value:=C.flatMap lQ
def aB (C:List (Nat×Nat)) (a:Nat):Nat:=(C.getD a (0,0)).1
def aG (C:List (Nat×Nat)) (a:Nat):Nat:=(C.getD a (0,0)).2
def cV (C:List (Nat×Nat)):(bJ C).length=C.length*2:=by
 induction C with
 | nil=>rfl
 | cons b a c=>
   have:bJ (b::a)=lQ b++bJ a:=rfl;rw [this,zAi,c];simp [lQ];omega
def cC (C:List (Nat×Nat)) (a:Nat) (c:a < C.length):(bJ C)[a*2]?=some (.int .i64 ((aB C a:Nat):Int))/\(bJ C)[a*2+1]?=some (.int .i64 ((aG C a:Nat):Int)):=by
 induction C generalizing a with
 | nil=>cases c
 | cons b d f=>
   have e:bJ (b::d)=lQ b++bJ d:=rfl;rcases a with _ | a;exact ⟨rfl,rfl⟩;have:=f a (by simpa using c);rw [e,zAo (by simp [lQ];omega),zAo (by simp [lQ];omega)];rw [show (a+1)*2 -(lQ b).length=a*2 by simp [lQ];omega,show (a+1)*2+1 -(lQ b).length=a*2+1 by simp [lQ];omega];exact this
structure PRd (W:World) (gb gp:Nat) (A:Option Addr) (n c:Nat) (C:List (Nat×Nat)):Prop where
 box:W.cell? gb=some (.pointer (some gp))
 sl:W.cell? ⟨gp,1,none⟩=some (.slice A n c)
 rd:Rd W W.heap.size 2 A n (bJ C)
def PRd.below {a f:World} {c gp i g:Nat} {e:Option Addr} {C:List (Nat×Nat)} (d:PRd a c gp e i g C) (j:c < a.heap.size) (k:gp < a.heap.size) (b:Below a.heap.size a f):PRd f c gp e i g C:=
 ⟨(b.cell j).trans d.box,(b.cell k).trans d.sl,(d.rd.below b).mono b.size⟩
def PRd.drewN {c:World} {e gp f d:Nat} {b:Option Addr} {C:List (Nat×Nat)} (a:PRd c e gp b f d C) (g:Nat):PRd (c.drewN g) e gp b f d C:=⟨a.box,a.sl,a.rd⟩
def PRd.at {d:World} {l gp e j:Nat} {f:Option Addr} {C:List (Nat×Nat)} (g:PRd d l gp f e j C) {a:Nat} (o:a < C.length):
 a < e/\∃b c,f=some ⟨b,c,none⟩/\d.cell? ⟨b,c+a*2,none⟩=some (.int .i64 ((aB C a:Nat):Int))/\d.cell? ⟨b,c+a*2+1,none⟩=some (.int .i64 ((aG C a:Nat):Int)):=by
 have p:=g.rd.1;rw [cV] at p;have q:a < e:=oM;obtain ⟨b,c,k,_,i⟩:=g.rd.2 oM;obtain ⟨m,n⟩:=cC C a o;exact ⟨q,b,c,k,i _ _ m,by rw [Nat.add_assoc];exact i _ _ n⟩
def aCt (f gp:Nat) (g:Option Addr) (l i:Nat) (C:List (Nat×Nat)) (a row:Nat) (b:World) (c:PRd b f gp g l i C) (k:a < C.length):
 Calls prog 102 #[(a:Int),(row:Int),f] b fun e w'=>e=.returned (.int .i64 (Lib.compareInt (aB C a:Nat) row))/\b=w':=by
 obtain ⟨q,m,s,rfl,p,j⟩:=c.at k;have n:=c.box;have o:=c.sl;have d:=AnyG.cmp_Compare_int shCmp ((aB C a:Nat):Int) (row:Int) b;change Calls prog 103 _ _ _ at d;generalize Lib.compareInt (aB C a:Nat) row=r at d⊢;clear c j;go_enter func102,ntmps102;go_wp2_with fail;refine d.mono ?_;rintro e w' ⟨rfl,rfl⟩;go_wp2_with fail;go_ret;exact ⟨rfl,rfl⟩
def aAX (f g gp:Nat) (k:Option Addr) (p l:Nat) (C:List (Nat×Nat)) (d e:Nat) (a:World) (c:PRd a f gp k p l C) (x:a.cell? g=some (.int .i64 (e:Int))) (o:d < C.length):
 Calls prog 105 #[(d:Int),f,g] a fun b w'=>b=.returned (.bool (decide (aG C d=e)))/\∃q,w'=a.drewN q:=by
 obtain ⟨v,r,y,rfl,m,n⟩:=c.at o;have s:=c.box;have t:=c.sl;obtain ⟨j,i⟩:=eqx (aG C d);rw [i] at n⊢;clear c m i;by_cases b:j=e
 · subst b;go_enter func105,ntmps105;go_wp2;go_quiet (fail);go_wp2;go_ret;exact ⟨by simp,_,rfl⟩
 · have u:((j:Int)==(e:Int))=false:=(by simp;omega);go_enter func105,ntmps105;go_wp2;go_quiet (fail);go_wp2;go_ret;exact ⟨by simp [b],_,rfl⟩
end
section
open Go.RowKit Go.Shelf
open Go.Sort (Holds)
structure PermAt (w:World) (B gp ga:Nat) (vl vo vt vf:Value) (R P:Nat) (ks:List Nat) (C:List (Nat×Nat)) (tk:List Bool) (fr:List Nat):Prop where
 blk:Bk w gp 104 #[ga,vl,vo,(R:Int),(P:Int)]
 lrow:w.ownsRow B 106 2 vl C.length (bJ C)
 orow:w.ownsRow B 3 1 vo ks.length (ks.map sv)
 ar:Bk w ga 150 #[vt,vf,.int .i64 268435456]
 trow:w.ownsRow B 4 1 vt tk.length (tk.map Value.bool)
 frow:w.ownsRow B 3 1 vf fr.length (fr.map sv)
 apart:vo.ownBlock=none∨vo.ownBlock≠vf.ownBlock
 lt:∀k∈ks,k < C.length
 lo:B<=gp/\B<=ga
def aDE {d:List Nat} {b:Nat->Nat} (j:d.Pairwise (fun i n=>b i < b n)) (g:Nat):∀(a e:Nat),d[a]?=some e->(b e < g↔a < d.countP fun k=>decide (b k < g)):=by
 induction d with
 | nil=>intro a e j;cases j
 | cons r d q=>
   obtain ⟨m,o⟩:=List.pairwise_cons.1 j;intro a e c;rw [zBn];by_cases f:b r < g
   · rcases a with _ | a
     · simp at c;subst c;simp [f]
     have:=q o a e (by simpa using c);simp only [f,decide_true,if_true];omega
   · have l:(d.countP fun k=>decide (b k < g))=0:=(by rw [List.countP_eq_zero];intro i p;have:=m i p;simp;omega);rcases a with _ | a
     · simp at c;subst c;simp [f,l]
     have s:=m e (zAd (by simpa using c));simp only [l,f,decide_false];simp;omega
def sA {a:List Nat} {f:Nat->Nat} (i:a.Pairwise (fun o p=>f o < f p)) (k:Nat):(∃g,a[a.countP fun b=>decide (f b < k)]?=some g/\f g=k)↔∃b∈a,f b=k:=by
 constructor;rintro ⟨g,j,e⟩;exact ⟨g,zAd j,e⟩
 · rintro ⟨b,s,rfl⟩;obtain ⟨c,m,rfl⟩:=List.getElem_of_mem s;have l:=zAa m;have j:=aDE i (f a[c]) c _ l;have v:¬c < a.countP fun b=>decide (f b < f a[c]):=fun d=>by have:=j.2 d;omega
   rcases zBe (a.countP fun b=>decide (f b < f a[c])) c with e | e
   · have n:(a.countP fun b=>decide (f b < f a[c])) < a.length:=oM;have q:=zAa n;have r:=aDE i (f a[c]) _ _ q;have t:¬f a[a.countP fun b=>decide (f b < f a[c])] < f a[c]:=fun d=>by have:=r.1 d;omega
     have u:=zAr.1 i _ _ n m e;omega
   have d:(a.countP fun b=>decide (f b < f a[c]))=c:=oM;rw [d];exact ⟨_,l,rfl⟩
def eX (a:Nat) (ks:List Nat):Array (Fin (a+1)):=(ks.map fun b=>(⟨b %(a+1),Nat.mod_lt _ (Nat.succ_pos a)⟩:Fin (a+1))).toArray
def lY {d:Nat} {ks:List Nat} (g:∀a∈ks,a < d+1) {c a:Nat} (b:ks[c]?=some a):((eX d ks)[c]!).val=a:=by
 have e:c < ks.length:=(zAc.1 b).1;have i:=g a (zAd b);have f:ks[c]=a:=by rw [zAa e] at b;injection b
 rw [aBR _ _ (by simpa [eX] using e)];simp [eX,f,zBu i]
def aDd {b:Nat} {ks:List Nat} (d:∀a∈ks,a < b+1) (c:Nat->Bool):(eX b ks).toList.countP (fun f=>c f.val)=ks.countP c:=by
 unfold eX;rw [List.countP_map];refine List.countP_congr fun a e=>?_;simp [zBu (d a e)]
def oG {w:World} {c f:Nat} {ks:List Nat} {b:Array Value} (g:Bk w f 3 b) (i:∀l∈ks,l < c+1) (k:b.toList.take ks.length=ks.map sv):Holds (eL c) w f 0 (eX c ks):=by
 intro a j;have d:a < ks.length:=by simpa [eX] using j
 rw [zBi];refine ⟨?_,g.frozen a⟩;have e:(b.toList.take ks.length)[a]?=(ks.map sv)[a]?:=by rw [k]
 rw [zBs,zBx d,zAf,zAa d,Array.getElem?_toList] at e;rw [g.cell,e];have:=lY i (zAa d);simp [eL,this,sv]
def aGn {w w':World} {a c:Nat} {b:Array (Fin (a+1))} (g:Holds (eL a) w c 0 b) (f:SW (eL a) w c 0 b w'):Below w.heap.size w w':=by
 obtain ⟨d,j,rfl⟩:=f;unfold sortWorld;have e:Go.Sort.putRow (eL a) (Go.Sort.ahead w d) c 0 b=Go.Sort.ahead w d:=Go.Sort.putRow_self (eL a) _ c 0 b g;rw [e];exact ⟨rfl,rfl,rfl,by show w.heap.size<=(w.heap++j).size;simp,fun k i=>Go.Sort.heap_grow_old _ _ i⟩
def tT (a b:Int):Lib.compareInt a b < 0↔a < b:=by
 unfold Lib.compareInt;split
 · simp [*]
 · split <;> simp [*]
def aHu (a b:Int):Lib.compareInt a b=0↔a=b:=by
 unfold Lib.compareInt;split;simp;omega;split;simp;omega;simp;omega
section
variable {w : World} {B gp ga : Nat} {vl vo vt vf : Value} {R P : Nat} {ks : List Nat} {C : List (Nat × Nat)} {tk : List Bool} {fr : List Nat}
def PermAt.prd (c:PermAt w B gp ga vl vo vt vf R P ks C tk fr) {e:Nat} {w':World} (j:w'.cell? e=some (.pointer (some gp))) (g:Below w.heap.size w w'):∃a i b,vl=.slice a i b/\PRd w' e gp a i b C:=by
 obtain ⟨a,b,d,_⟩:=aP c.lrow;refine ⟨a,C.length,b,d,j,?_,?_⟩;have:=(c.blk.below g c.blk.lt).cell 1;rw [d] at this;exact this;have f:=aQ c.lrow g;rw [d] at f;exact Rd.of_own f
end
def aJh {ks:List Nat} {C:List (Nat×Nat)} {c row:Nat} (m:C.length=c+1) (o:∀a∈ks,a < C.length) (p:ks.Pairwise (fun k l=>aB C k < aB C l)):
 ((eX c ks).toList.countP (fun b=>decide (Lib.compareInt (aB C b.val:Nat) row < 0)))=ks.countP (fun a=>decide (aB C a < row))/\
 (decide (((eX c ks).toList.countP (fun b=>decide (Lib.compareInt (aB C b.val:Nat) row < 0))) < (eX c ks).size)&&decide (Lib.compareInt (aB C ((eX c ks)[((eX c ks).toList.countP (fun b=>decide (Lib.compareInt (aB C b.val:Nat) row < 0)))]!).val:Nat) row=0))=decide (∃a∈ks,aB C a=row):=by
 have g:∀a∈ks,a < c+1:=fun a n=>by rw [<-m];exact o a n
 have i:(eX c ks).toList.countP (fun b=>decide (Lib.compareInt (aB C b.val:Nat) row < 0))=ks.countP (fun a=>decide (aB C a < row)):=by rw [<-aDd g (fun a=>decide (aB C a < row))];congr 1;funext b;rw [decide_eq_decide,tT];omega
 refine ⟨i,?_⟩;rw [i,Bool.eq_iff_iff];simp only [zBd,zCa,aHu];rw [<-sA (f:=aB C) p row];constructor;rintro ⟨d,j⟩;have e:(ks.countP fun a=>decide (aB C a < row)) < ks.length:=(by simpa [eX] using d);refine ⟨_,zAa e,?_⟩;rw [lY g (zAa e)] at j;omega;rintro ⟨b,d,j⟩;have e:=(zAc.1 d).1;refine ⟨by simpa [eX] using e,?_⟩;rw [lY g d];omega
def jH (B gp ga:Nat) (vl vo vt vf:Value) (R P:Nat) (ks:List Nat) (C:List (Nat×Nat)) (tk:List Bool) (fr:List Nat) (row:Nat) (w:World) (d:PermAt w B gp ga vl vo vt vf R P ks C tk fr) (G:ks.Pairwise (fun k e=>aB C k < aB C e)) (S:ks.length<=1099511627776):
 Calls prog 59 #[gp,(row:Int)] w fun a w'=>a=.returned (.tuple #[.int .i64 ((ks.countP (fun b=>decide (aB C b < row)):Nat):Int),.bool (decide (∃b∈ks,aB C b=row))])/\Below w.heap.size w w':=by
 have al:=d.blk.lt;have m:Below w.heap.size w (w.alloc (.cells #[gp] 67)):=bR.alloc nL _;have a0:w.cell? ⟨gp,2,none⟩=some vo:=(d.blk.cell 2).trans rfl;have O:∀g n f,vo=.slice g n f->Calls prog 101 #[.slice g n f,(row:Int),.func (.func 102) #[] #[w.heap.size]] (w.alloc (.cells #[gp] 67)) fun a w'=>a=.returned (.tuple #[.int .i64 ((ks.countP (fun b=>decide (aB C b < row)):Nat):Int),.bool (decide (∃b∈ks,aB C b=row))])/\Below w.heap.size w w':=by
  intro g n f J;rcases zBa ks.length with q | q;have a9:ks= []:=zBk q;obtain ⟨Z,a1,i,_⟩:=aP d.orow;rw [J] at i;injection i with _ i _;rw [q] at i;subst i;subst a9;refine (Any.slices_BinarySearchFunc_none shBin g f (.int .i64 (row:Int)) (.func (.func 102) #[] #[w.heap.size]) _).mono ?_;rintro a w' ⟨rfl,rfl⟩;exact ⟨by simp,m⟩
  · rcases d.orow.2 with ⟨_,a⟩|⟨l,af,a2,a,aj,a7,an,am,ao,W⟩;omega
    · rw [J] at a;injection a with e1 e2 e3;subst e1 e2 e3;rw [zBl] at W;obtain ⟨k0,a8⟩:∃b,b∈ks:=(by obtain ⟨j,ae⟩:=List.exists_mem_of_length_pos q;exact ⟨j,ae⟩);obtain ⟨c,y⟩:∃c,C.length=c+1:=⟨C.length - 1,by have:=d.lt k0 a8;omega⟩;have E:∀b∈ks,b < c+1:=fun b S=>by rw [<-y];exact d.lt b S
      have s:Bk w l 3 a2:=a7;have r:=s.below m s.lt;have M:=oG r E W;have a5:(w.alloc (.cells #[gp] 67)).cell? w.heap.size=some (.pointer (some gp)):=(Bk.new w 67 #[gp]).cell 0;have a6:CmpLaysT prog 102 #[w.heap.size] (eL c) (.int .i64 (row:Int)) (fun j=>Lib.compareInt (aB C j.val:Nat) row) l 0 (eX c ks).size (w.alloc (.cells #[gp] 67)):=(by intro I H t ak j;have D:=iQ (enc:=eL c) r.lt 0 I t H;obtain ⟨g,n,f,a,V⟩:=d.prd a5 m;have ac:PRd (sortWorld (eL c) (w.alloc (.cells #[gp] 67)) l 0 I t H) w.heap.size gp g n f C:=(by refine ⟨?_,?_,?_⟩;exact (D.cell (p:=w.heap.size) (by simp) (fun a=>by have:=s.lt;have ah:w.heap.size=l:=a;omega)).trans V.box;exact (D.cell (p:=⟨gp,1,none⟩) (by simp;omega) (Bk.ne d.blk s dC)).trans V.sl;have aa:=aQ d.lrow m;have T:=aA (w':=sortWorld (eL c) (w.alloc (.cells #[gp] 67)) l 0 I t H) aa fun e ag _ o=>D.bk o (Bk.ne o r dC);obtain ⟨Z,a1,i,_⟩:=aP d.lrow;rw [a] at i T;injection i with e91 e92 e93;subst e92;exact Rd.of_own T);exact (aCt w.heap.size gp g n f C j.val row _ ac (by rw [y];exact j.isLt)).mono fun _ _ ⟨a3,a4⟩=>⟨a3,0,#[],by rw [<-a4,Go.Sort.grow_empty];rfl⟩);have ab:∀k e,k<=e->e < (eX c ks).size->Lib.compareInt (aB C ((eX c ks)[e]!).val:Nat) row < 0->Lib.compareInt (aB C ((eX c ks)[k]!).val:Nat) row < 0:=(by intro k e v x U;have o:e < ks.length:=(by simpa [eX] using x);rw [lY E (zAa o),tT] at U;rw [lY E (zAa (show k < ks.length by omega)),tT];rcases Nat.eq_or_lt_of_le v with rfl | v;exact U;have:=zAr.1 G k e oM o v;omega);have X:(eX c ks).size=ks.length:=(by simp [eX]);have u:=Any.slices_BinarySearchFunc shBin (eL c) (kW c) (.int .i64 (row:Int)) (fun j=>Lib.compareInt (aB C j.val:Nat) row) 102 #[w.heap.size] l 0 f (eX c ks) (w.alloc (.cells #[gp] 67)) (enters_of func102 kR rfl) a6 M r.lt (by rw [X];omega) ab;obtain ⟨K,L⟩:=aJh (row:=row) y d.lt G;rw [K] at L;rw [K,L] at u;rw [X] at u;refine u.mono ?_;rintro a w' ⟨rfl,ad⟩;exact ⟨rfl,m.trans ((aGn M ad).mono (by simp))⟩
 obtain ⟨g,f,a,_⟩:=aP d.orow;have N:=O _ _ _ a;rw [a] at a0;obtain ⟨Y,A⟩:∃Y,ks.countP (fun b=>decide (aB C b < row))=Y:=⟨_,rfl⟩;obtain ⟨ai,z⟩:∃e,decide (∃b∈ks,aB C b=row)=e:=⟨_,rfl⟩;rw [A,z] at N;rw [A,z];clear O d G A z m a;go_enter func59,ntmps59;go_wp2_with fail;refine N.mono ?_;rintro a w' ⟨rfl,x⟩;go_wp2_with fail;go_ret2;exact ⟨rfl,x⟩
def iI (b:Nat->Bool):List Nat->Nat->Int
 | [],_=>-1
 | k::l,a=>if b k then (a:Int) else iI b l (a+1)
def jO {p:Nat->Bool} {l:List Nat} (b:∀a∈l,p a=false) (c:Nat):iI p l c=-1:=by
 induction l generalizing c with
 | nil=>rfl
 | cons a l e=>
   unfold iI;rw [zBw (by rw [b a (by simp)];simp)];exact e (fun a d=>b a (by simp [d])) _
def sQ {p:Nat->Bool} {l:List Nat} (b:∃a∈l,p a=true) (d:Nat):∃(e a:Nat),iI p l d=((d+e:Nat):Int)/\l[e]?=some a/\p a=true:=by
 induction l generalizing d with
 | nil=>obtain ⟨a,f,_⟩:=b;cases f
 | cons i l o=>
   unfold iI;by_cases c:p i=true;rw [zBx c];exact ⟨0,i,rfl,rfl,c⟩;rw [zBw c];obtain ⟨a,f,g⟩:=b;have n:a∈l:=(by rcases List.mem_cons.1 f with rfl | b;exact absurd g c;exact b);obtain ⟨e,q,j,k,m⟩:=o ⟨a,n,g⟩ (d+1);exact ⟨e+1,q,by rw [j];congr 1;omega,by simpa using k,m⟩
def aFl {b:Nat} {ks:List Nat} (d:∀a∈ks,a < b+1) (e:Nat->Bool) (f:Fin (b+1)) (c:Nat):Lib.idxByFrom (fun (_ j:Fin (b+1))=>e j.val) f ((ks.map fun a=>(⟨a %(b+1),Nat.mod_lt _ (Nat.succ_pos b)⟩:Fin (b+1)))) c=iI e ks c:=by
 induction ks generalizing c with
 | nil=>rfl
 | cons a k i=>
   rw [List.map_cons];unfold Lib.idxByFrom iI;simp only [zBu (d a (by simp))];rw [i (fun a g=>d a (by simp [g]))]
def iF (B gp ga:Nat) (vl vo vt vf:Value) (R P:Nat) (ks:List Nat) (C:List (Nat×Nat)) (tk:List Bool) (fr:List Nat) (d:Nat) (w:World) (f:PermAt w B gp ga vl vo vt vf R P ks C tk fr) (G:ks.length<=1099511627776):
 Calls prog 60 #[gp,(d:Int)] w fun b w'=>b=.returned (.int .i64 (iI (fun a=>decide (aG C a=d)) ks 0))/\Below w.heap.size w w':=by
 have a5:=f.blk.lt;have K:w.cell? ⟨gp,2,none⟩=some vo:=(f.blk.cell 2).trans rfl;obtain ⟨g,o⟩:∃g,g=(w.alloc (.cells #[gp] 67)).alloc (.cells #[(d:Int)] 3):=⟨_,rfl⟩;have e:Below w.heap.size w g:=o ▸(bR.alloc nL _).alloc (by simp) _;have q:Bk g w.heap.size 67 #[gp]:=o ▸(Bk.new _ _ _).alloc _;have r:Bk g (w.heap.size+1) 3 #[(d:Int)]:=by have:=Bk.new (w.alloc (.cells #[gp] 67)) 3 #[(d:Int)];rw [<-o] at this;simpa using this
 have A:∀k m i,vo=.slice k m i->Calls prog 104 #[.slice k m i,.func (.func 105) #[] #[w.heap.size,.pointer (some ⟨w.heap.size+1,0,none⟩)]] g fun b w'=>b=.returned (.int .i64 (iI (fun a=>decide (aG C a=d)) ks 0))/\Below w.heap.size w w':=by
  intro k m i v;rcases zBa ks.length with n | n;have Y:ks= []:=zBk n;obtain ⟨a1,a2,l,_⟩:=aP f.orow;rw [v] at l;injection l with _ l _;rw [n] at l;subst l;subst Y;refine (AnyE.slices_IndexFunc_empty shIdx k i (.func (.func 105) #[] #[w.heap.size,.pointer (some ⟨w.heap.size+1,0,none⟩)]) _).mono ?_;rintro b w' ⟨rfl,rfl⟩;exact ⟨rfl,e⟩
  · rcases f.orow.2 with ⟨_,b⟩|⟨x,a3,L,b,a4,U,a7,a6,a8,I⟩;omega
    · rw [v] at b;injection b with e1 e2 e3;subst e1 e2 e3;rw [zBl] at I;obtain ⟨k0,X⟩:∃a,a∈ks:=(by obtain ⟨j,Z⟩:=List.exists_mem_of_length_pos n;exact ⟨j,Z⟩);obtain ⟨c,D⟩:∃c,C.length=c+1:=⟨C.length - 1,by have:=f.lt k0 X;omega⟩;have H:∀a∈ks,a < c+1:=fun a G=>by rw [<-D];exact f.lt a G
      have E:Bk w x 3 L:=U;have V:=E.below e E.lt;have N:=oG V H I;have t:PredAt prog 105 #[w.heap.size,.pointer (some ⟨w.heap.size+1,0,none⟩)] (eL c) (fun j=>decide (aG C j.val=d)) g:=(by intro u j p;have S:=q.below p q.lt;have T:=r.below p r.lt;obtain ⟨k,m,i,b,t⟩:=f.prd (w':=u) (S.cell 0) (e.trans (p.mono e.size));exact aAX w.heap.size (w.heap.size+1) gp k m i C j.val d u t (T.cell 0) (by rw [D];exact j.isLt));have a9:ks.length=(ks.map fun a=>(⟨a %(c+1),Nat.mod_lt _ (Nat.succ_pos c)⟩:Fin (c+1))).length:=(by simp);have y:=AnyE.slices_IndexFunc shIdx (eL c) (fun j=>decide (aG C j.val=d)) 105 #[w.heap.size,.pointer (some ⟨w.heap.size+1,0,none⟩)] (enters_of func105 kR rfl) x 0 ks.length i (ks.map fun a=>(⟨a %(c+1),Nat.mod_lt _ (Nat.succ_pos c)⟩:Fin (c+1))) g t (by simp) oM (fun a0 W=>by
       have M:=(N a0 (by simpa [eX] using W)).1;simpa [eX] using M)
      rw [zAg (by simp),Lib.idxBy,aFl H (fun a=>decide (aG C a=d))] at y;refine y.mono ?_;rintro b w' ⟨rfl,aa,rfl⟩;exact ⟨rfl,e.os,e.tape,e.output,e.size,e.block⟩
 obtain ⟨k,i,b,_⟩:=aP f.orow;have z:=A _ _ _ b;rw [b] at K;obtain ⟨J,s⟩:∃J,iI (fun a=>decide (aG C a=d)) ks 0=J:=⟨_,rfl⟩;rw [s] at z;rw [s];subst o;clear A f s e b q r;go_enter func60,ntmps60;go_wp2_with fail;refine z.mono ?_;rintro b w' ⟨rfl,O⟩;go_wp2_with fail;go_ret;exact ⟨rfl,O⟩
end
section
open Go.RowKit Go
section
variable {P : Program} {ops : Array Oper} {Q : Exit -> Act -> World -> Prop} {md : Region.Mode}
def sI (c:Nat) (s:List Nat) (C:World->Prop) (j:Nat->World->World->Prop) (k:Nat->World->Prop) (e:Nat->Value->World->Prop) (f:Act)
 (n:World) (K:(ops.toList.take c).filterMap (·.dst)=s) (x:c<=ops.size) (O:hQ md ops f.tmps.size=true) (Y:((List.range ops.size).all fun p=>decide (p < c)||(List.range c).all fun a=>upB md ops ops.size p a)=true) (E:C n) (I:∀a,k a n) (D:∀b w w',b < c->C w->j b w w'->C w')
 (H:∀a b w w',b < c->a≠b->upB md ops ops.size b a=false->k a w->C w->j b w w'->k a w')
 (U:∀a b d w w',b < c->a≠b->vQ md ops a b=false->e a d w->C w->j b w w'->e a d w')
 (V:∀b q,b < c->ops[b]?=some q->cT P ops Q md C j k e f b q)
 (L:∀(v:Operand->Value) w t,C w->(∀a l,a < c->((ops[a]?).bind (·.dst))=some l->e a (v (.tmp l)) w)->(∀a,a < c->∃d,e a d w)->wpAny P md ops Q (ops.size - c+t) (bY c ops.size) (dB v s f) w):
 wpAny P md ops Q ops.size (Array.replicate ops.size false) f n:=by
 refine tX c C j k e f n x O Y E I D H (fun a b d w w' g m A _=>U a b d w w' g m A) V fun r w t G W J S y=>?_;have g:=L r.eval w t G (fun a l o i=>by
  cases u:ops[a]? with
  | none=>rw [u] at i;cases i
  | some q=>
    rw [u] at i;obtain ⟨d,g,m⟩:=y a q o u;have:=g l i;change e a (r.tmps.getD l undef) w;rw [this];exact m) (fun a o=>by
  obtain ⟨d,_,m⟩:=y a _ o (zAq (zAl o x));exact ⟨d,m⟩)
 rw [<-mI r f s W J fun Z X=>S Z fun p z M T i=>X ?_] at g;exact g;rw [<-K];refine List.mem_filterMap.2 ⟨z,?_,i⟩;have N:(ops.toList.take c)[p]?=some z:=(by rw [zBs,zBx M,Array.getElem?_toList];exact T);exact zAd N
end
def VFB (B:Nat) (F:Nat->Prop) (w w':World):Prop:=VisF F w w'/\Keep (fun a=>F a∨B<=a) w w'
def fD {B:Nat} {F:Nat->Prop} {w w':World} (a:VFB B F w.drew w'):VFB B F w w':=⟨⟨a.1.os,a.1.tape,a.1.output,a.1.size,a.1.block⟩,⟨a.2.os,a.2.tape,a.2.output,a.2.size,a.2.block⟩⟩
section
variable {B : Nat} {F : Nat -> Prop} {w w1 w' : World}
def VFB.of_vb (a:VB B w w'):VFB B F w w':=⟨VisF.of_vis a.1,a.2.mono fun _ _ b=>.inr b⟩
def VFB.trans (a:VFB B F w w1) (b:VFB B F w1 w'):VFB B F w w':=⟨a.1.trans b.1,a.2.trans b.2⟩
def VFB.put (b:VFB B F w w1) {p:Addr} (c:F p.block∨w.heap.size<=p.block) (a:Value):VFB B F w (w1.setCell p a):=⟨VisF.put b.1 c a,b.2.setCell (c.elim (fun d=>.inl (.inl d)) .inr) a⟩
def VFB.wider {d:Nat->Prop} (b:VFB B F w w') (e:∀a,F a->d a):VFB B d w w':=⟨⟨b.1.os,b.1.tape,b.1.output,b.1.size,fun a f g=>b.1.block a f (fun c=>g (e a c))⟩,b.2.mono fun a _ c=>c.elim (fun c=>.inl (e a c)) .inr⟩
def VFB.to_vb (c:VFB B F w w') (d:∀a,a < w.heap.size->¬F a):VB B w w':=⟨c.1.to_vis d,c.2.mono fun a e b=>b.elim (fun b=>absurd b (d a e)) id⟩
end
def aCg (B:Nat) (F:Nat->Prop) (a b:Nat) (w w':World):Prop:=(b=a->VFB B F w w')/\(b≠a->VB B w w')
def yM {B:Nat} {F:Nat->Prop} {a d:Nat} {w w':World} (b:aCg B F a d w w'):VFB B F w w':=by
 by_cases c:d=a;exact b.1 c;exact VFB.of_vb (b.2 c)
def aE {B:Nat} {F:Nat->Prop} {b c:Nat} {w w':World} (a:VB B w w'):aCg B F b c w w':=⟨fun _=>VFB.of_vb a,fun _=>a⟩
def iW {B:Nat} {F:Nat->Prop} {a:Nat} {w w':World} (c:VFB B F w w'):aCg B F a a w w':=⟨fun _=>c,fun b=>absurd rfl b⟩
def bN {P:Program} {ops:Array Oper} {Q:Exit->Act->World->Prop} {md:Region.Mode} (B c:Nat) (p:List Nat) (F:Nat->Prop) (b:Nat) (r:List Nat) (n:World->Prop) (m:Value->World->Prop) (l:List (Value->World->Prop)) (i:Act) (e:World)
 (G:(ops.toList.take c).filterMap (·.dst)=p) (J:c<=ops.size) (I:hQ md ops i.tmps.size=true) (S:((List.range ops.size).all fun d=>decide (d < c)||(List.range c).all fun a=>upB md ops ops.size d a)=true)
 (M:(r.all fun a=>a==b||upB md ops ops.size b a)=true)
 (L:n e) (K:∀w w',n w->VFB B F e w->VB B w w'->n w') (E:aFH (VB B) m) (N:∀U∈l,aFH (VFB B F) U)
 (O:∀g y,g < c->ops[g]?=some y->cT P ops Q md (VFB B F e) (aCg B F b) (fun a w=>r.contains a=true->n w) (VsJ b m l) i g y)
 (H:∀(t:Operand->Value) w f,VFB B F e w->(∀a s,a < c->((ops[a]?).bind (·.dst))=some s->VsJ b m l a (t (.tmp s)) w)->(∀a,a < c->∃o,VsJ b m l a o w)->wpAny P md ops Q (ops.size - c+f) (bY c ops.size) (dB t p i) w):
 wpAny P md ops Q ops.size (Array.replicate ops.size false) i e:=by
 refine sI c p (VFB B F e) (aCg B F b) (fun a w=>r.contains a=true->n w) (VsJ b m l) i e G J I S (VFB.of_vb vR) (fun _ _=>L) (fun g w w' _ A d=>A.trans (yM d)) (fun a g w w' _ q T j D d v=>?_) (fun a g o w w' _ q _ k _ d=>?_) O H;by_cases x:g=b;exfalso;subst x;have u:=zBf.1 M a (by simpa using v);simp only [T,Bool.or_false,zCq] at u;exact q u;exact K w w' (j v) D (d.2 x);unfold VsJ at k⊢;by_cases j:a=b;rw [zBx j] at k⊢;exact E o w w' k (d.2 fun z=>q (j.trans z.symm));rw [zBw j] at k⊢;exact cM N a o w w' k (yM d)
end
section
def Pq (a:List Nat) (b:Bool):List Nat->Nat->Bool
 | [],_=>b
 | c::q,p=>decide (aN a p < (c:Int))||(decide (aN a p=(c:Int))&&Pq a b q (p+1))
def rO (a:List Nat):List Nat->Nat->Bool
 | [],_=>true
 | b::q,p=>decide (aN a p=(b:Int))&&rO a q (p+1)
def aAQ (a:List Nat) (d:Bool) (c:Nat) (e:List Nat) (b:Nat):Pq a d (c::e) b=(decide (aN a b < (c:Int))||(decide (aN a b=(c:Int))&&Pq a d e (b+1))):=rfl
def yT (a:List Nat) (d:Nat) (c:List Nat) (b:Nat):rO a (d::c) b=(decide (aN a b=(d:Int))&&rO a c (b+1)):=rfl
def oC (e:List Nat) (c d:Nat):sufLt e c d↔aN e c < aN e d∨(aN e c=aN e d/\sufLt e (c+1) (d+1)):=by
 constructor
 · rintro ⟨w,b,l,f,g⟩;rcases b with _ | b;exact .inl g
   · refine .inr ⟨f 0 oM,w,b,by omega,fun a i=>?_,?_⟩
     · have:=f (a+1) oM;rwa [show c+(a+1)=c+1+a by omega,show d+(a+1)=d+1+a by omega] at this
     · rwa [show c+(b+1)=c+1+b by omega,show d+(b+1)=d+1+b by omega] at g
 · rintro (j |⟨k,w,b,l,f,g⟩);exact ⟨1,0,by omega,fun a i=>absurd i oM,j⟩
   · refine ⟨w+1,b+1,by omega,fun a i=>?_,?_⟩
     · rcases a with _ | a;exact k
       · have:=f a oM;rwa [show c+(a+1)=c+1+a by omega,show d+(a+1)=d+1+a by omega]
     · rwa [show c+(b+1)=c+1+b by omega,show d+(b+1)=d+1+b by omega]
def aAP {d:List Nat} {f:Bool} (e:List Nat):∀ {b c:Nat},sufLt d c b->Pq d f e b=true->Pq d f e c=true:=by
 induction e with
 | nil=>intro b c _ a;exact a
 | cons m e l=>
   intro b c k a;unfold Pq at a⊢;simp only [Bool.or_eq_true,zBd,zCa] at a⊢;rcases (oC d c b).1 k with g |⟨g,i⟩;rcases a with a |⟨a,_⟩;exact .inl oM;exact .inl oM;rcases a with a |⟨a,j⟩;exact .inl oM;exact .inr ⟨by omega,l i j⟩
def rK {R:Nat->Nat->Prop} {P:Nat->Bool} {b:List Nat} (n:b.Pairwise R) (k:∀c a,R c a->P a=true->P c=true):b.take (b.countP P)=b.filter P:=by
 induction b with
 | nil=>rfl
 | cons c e p=>
   obtain ⟨g,i⟩:=List.pairwise_cons.1 n;rw [zBn,List.filter_cons];by_cases d:P c=true
   · simp only [d,if_true];rw [List.take_succ_cons,p i]
   · have f:∀a∈e,¬P a=true:=fun a o m=>d (k c a (g a o) m);have j:e.countP P=0:=List.countP_eq_zero.2 f;have l:e.filter P= []:=List.filter_eq_nil_iff.2 f;simp [d,j,l]
def Nq (a:List Nat) (b:Bool) (c:List Nat):Nat:=(List.range a.length).countP (Pq a b c)
def IsSuf.count {a b:List Nat} (c:IsSuf a b) (P:Nat->Bool):b.countP P=(List.range a.length).countP P:=c.perm.countP_eq P
def aIK (a:List Nat) (b:Bool) (c:List Nat):Nq a b c<=a.length:=by
 unfold Nq;have:=zBh (p:=Pq a b c) (l:=List.range a.length);simpa using this
def aCT {a f:List Nat} (d:IsSuf a f) (c:Bool) (b:List Nat) (g:Nat):((aF a f).take (Nq a c b)).count g=(List.range a.length).countP (fun e=>decide (bF a e=g)&&Pq a c b e):=by
 have i:Nq a c b=f.countP (Pq a c b):=(d.count _).symm;rw [i,aF,<-List.map_take,rK d.sorted (fun l m j k=>aAP b j k),<-d.count,List.count_eq_countP,List.countP_map,List.countP_filter];refine List.countP_congr fun e _=>?_;simp [Function.comp,and_comm]
def bI {a:List Nat} (b:0 < a.length):bF a 0=a.getD (a.length - 1) 0:=by
 unfold bF;rw [zBi,zBu oM]
def aV {a:List Nat} {b:Nat} (c:b+1 < a.length):bF a (b+1)=a.getD b 0:=by
 unfold bF;rw [show b+1+a.length - 1=b+a.length by omega,Nat.add_mod_right,zBu oM]
def eG {a:List Nat} {b:Nat} (c:b < a.length):aN a b=((a.getD b 0:Nat):Int):=by
 rw [aIJ c,zAb,zAa c];rfl
def fN {m:Nat} (b:Nat->Bool) (c:Nat->Bool) (d:b 0=c m) (e:∀a,a < m->b (a+1)=c a):(List.range (m+1)).countP b=(List.range (m+1)).countP c:=by
 rw [List.range_succ_eq_map,zBn,List.countP_map,<-List.range_succ_eq_map,List.range_succ,List.countP_append,zBn,List.countP_nil,zBi,d];congr 1;refine List.countP_congr fun a f=>?_;have g:a < m:=by simpa using f
 simp [Function.comp,e a g]
def rZ {α:Type} (b:List α) (c d:α->Bool) (e:∀a∈b,¬(c a=true/\d a=true)):b.countP (fun a=>c a||d a)=b.countP c+b.countP d:=by
 induction b with
 | nil=>rfl
 | cons a b g=>
   rw [zBn,zBn,zBn,g (fun i f=>e i (by simp [f]))];have:=e a (by simp);cases j:c a <;> cases k:d a <;> simp_all <;> omega
structure EndOk (l:List Nat) (m:Nat):Prop where
 len:l.length=m+1
 last:l.getD m 0=0
 pos:∀p,p < m->0 < l.getD p 0
def aEg {a j:List Nat} {e:Nat} (k:IsSuf a j) (l:EndOk a e) (f:Bool) (g:List Nat) (c:Nat) (u:0 < c):bZ (aF a j) c (Nq a f g)=Nq a f (c::g):=by
 have d:=l.len;unfold bZ;rw [aCT k];have m:(aF a j).countP (fun q=>decide (q < c))=(List.range (e+1)).countP (fun b=>decide (a.getD b 0 < c)):=by
  rw [aF,List.countP_map,k.count,d];refine fN _ _ ?_ fun b i=>?_
  · show decide (bF a 0 < c)=_;rw [bI oM,d,zBb]
  · show decide (bF a (b+1) < c)=_;rw [aV oM]
 have n:(List.range a.length).countP (fun b=>decide (bF a b=c)&&Pq a f g b)=(List.range (e+1)).countP (fun b=>decide (a.getD b 0=c)&&Pq a f g (b+1)):=by
  rw [d];refine fN _ _ ?_ fun b i=>?_;show (decide (bF a 0=c)&&_)=(decide (a.getD e 0=c)&&_);rw [bI oM,d,zBb,l.last];have:decide (0=c)=false:=(by simp;omega);rw [this];rfl
  · show (decide (bF a (b+1)=c)&&_)=_;rw [aV oM]
 rw [m,n,<-rZ]
 · unfold Nq;rw [d];refine List.countP_congr fun b i=>?_;have t:b < e+1:=(by simpa using i);rw [aAQ,eG oM];have o:decide (((a.getD b 0:Nat):Int) < (c:Int))=decide (a.getD b 0 < c):=(by rw [decide_eq_decide];omega);have p:decide (((a.getD b 0:Nat):Int)=(c:Int))=decide (a.getD b 0=c):=(by rw [decide_eq_decide];omega);rw [o,p]
 intro b _;simp only [zBd,zCa];rintro ⟨r,s,_⟩;omega
def aJn (a:List Nat):Nq a false []=0/\Nq a true []=a.length:=by
 constructor;unfold Nq;exact List.countP_eq_zero.2 fun _ _ b=>by simp [Pq] at b
 · unfold Nq;have:=(List.countP_eq_length (p:=Pq a true []) (l:=List.range a.length)).2 (fun _ _=>rfl);rw [this];simp
def eI (a:List UInt8):EndOk (aI a) a.length:=by
 refine ⟨aO a,?_,fun c b=>?_⟩
 · unfold aI cZ;rw [zAb,zAo (by simp)];simp
 · unfold aI cZ;rw [zAb,zAn (by simpa using b),zAf,zAa b];simp
def aHI (b:List Nat) (c:List Nat):∀a,Pq b true c a=(Pq b false c a||rO b c a)/\¬(Pq b false c a=true/\rO b c a=true):=by
 induction c with
 | nil=>intro a;exact ⟨rfl,fun j=>by simp [Pq] at j⟩
 | cons d c m=>
   intro a;obtain ⟨k,l⟩:=m (a+1);rw [aAQ,aAQ,yT,k];by_cases e:aN b a < (d:Int)
   · have:¬aN b a=(d:Int):=oM;simp [e,this]
   · by_cases f:aN b a=(d:Int);have g:decide (aN b a < (d:Int))=false:=(by simpa using e);have i:decide (aN b a=(d:Int))=true:=(by simpa using f);rw [g,i,Bool.false_or,Bool.true_and,Bool.false_or,Bool.true_and,Bool.true_and];exact ⟨rfl,l⟩
     · simp [e,f]
def occ (a:List Nat) (b:List Nat):Nat:=(List.range a.length).countP (rO a b)
def aDZ (a:List Nat) (b:List Nat):Nq a true b=Nq a false b+occ a b:=by
 unfold Nq occ;rw [<-rZ _ _ _ fun c _=>(aHI a b c).2];exact List.countP_congr fun c _=>by rw [(aHI a b c).1]
end
section
open Go.RowKit
def sJ {a b:List Nat} (c:a.Perm b):tcells a=tcells b:=by
 refine oB _ _ (eA a) (fun e d=>?_) ?_
 · rw [dI a d,c.count_eq]
 · rw [gN,c.length_eq]
def aCQ (b d:List Nat) (a:Nat) (k:a < 257) (e:b.Perm (a::d)):((tcells b).setIfInBounds a (.int .i64 (((b.count a - 1:Nat)):Int))).setIfInBounds 257 (.int .i64 ((b.length - 1:Nat):Int))=tcells d:=by
 have f:=e.count_eq;have g:=e.length_eq;rw [zCf] at g;apply oB
 · simp [eA]
 · intro i j;rw [zCe oM];by_cases c:a=i
   · subst c;rw [Array.getElem?_setIfInBounds_self_of_lt (by rw [eA];omega),f a];simp
   · rw [zCe c,dI b j,f i,List.count_cons_of_ne c]
 rw [Array.getElem?_setIfInBounds_self_of_lt (by simp [eA]),g];rfl
def aAM (a:Nat) (c v:List Nat) (b:Nat) (w:World) (x:c.Perm (b::v)) (f:Bk w a 209 (tcells c)) (o:b < 257) (J:c.length<=1000):
 Calls prog 175 #[a,(b:Int),.int .i64 (-1)] w fun H w'=>H=.returned (.int .i64 0)/\Bk w' a 209 (tcells v)/\Keep (fun g=>g=a) w w':=by
 have t:=lhd f;clear f;have a9:¬((b:Int) < 0):=oM;have aa:((b:Int) < 257):=oM;obtain ⟨d,n⟩:=eqx (c.count b);obtain ⟨i,l⟩:=eqx c.length;have ae:d<=1000:=by rw [<-n];exact zAk zBv J
 rw [l] at J;have ad:1<=d:=by rw [<-n,x.count_eq];simp
 have ac:1<=i:=by rw [<-l,x.length_eq];simp
 have z:=aCQ c v b o x;rw [n,l] at z;obtain ⟨K,u,G⟩:=hqq3 z n l;clear z n l;go_enter func175,ntmps175;go_wp2_with fail;refine (eO b _ o).mono ?_;rintro H w1 ⟨rfl,A⟩;have s:=t.out.below A t.out.lt;have V:w1.cell? ⟨a,b,none⟩=some (.int .i64 (d:Int)):=by rw [<-u.out];exact (s.cell b).trans (dI c o)
 have W:w1.cell? ⟨a,257,none⟩=some (.int .i64 (i:Int)):=by rw [<-G.out];exact (s.cell 257).trans (gN c)
 have af:¬((-1:Int) < -(d:Int)):=oM;have ag:¬((-1:Int) > 2147483648 -(i:Int)):=oM;obtain ⟨L,N⟩:=hqq2 A s;clear A s t;go_wp2_with fail;refine wp_region_any kR ?_;refine bX [33,34,35,36,37,38,39,40,41,42,43] (fun g=>g=a) 11 [5,11] (fun j=>Bk j a 209 (tcells c)) (fun _ j=>Bk j a 209 ((tcells c).setIfInBounds b (.int .i64 ((d - 1:Nat):Int)))) [is a,is (b:Int),is a,is a,is (.pointer (some ⟨a,b,none⟩)),is (d:Int),is (.int .i64 (-1)),is (.int .i64 ((d - 1:Nat):Int)),is a,is a,is (.pointer (some ⟨a,b,none⟩)),dF] _ _ rfl kR kR (N.out) (fun j ai f _ S=>Bk.below f S f.lt) (fun _ _ _ f T=>Bk.below f T f.lt) tA1 ?_ ?_
 · refine aR ?_;refine pH3 0 (.pointer (some a)) ?_;refine pH3 1 (.int .i64 (b:Int)) ?_;refine pV3 0 33 ?_;refine pV3 2 35 ?_;refine pW3 3 36 1 34 ?_;refine sC3 (fun _ D _ y _ _ _ e _ _ _ k=>?_) ?_
   · have m:=y rfl;have a0:_=_:=e 4 37 kR rfl;have Y:D.cell? ⟨a,b,none⟩=some (.int .i64 (d:Int)):=(by rw [<-u.out];exact (m.cell b).trans (dI c o));go_simp;exact kq k rfl
   refine pH3 2 (.int .i64 (-1)) ?_;refine sC3 (fun _ _ _ _ _ _ _ e _ _ _ k=>?_) ?_
   · have a1:_=_:=e 5 38 kR rfl;have a2:_=_:=e 6 39 kR rfl;go_simp;exact k _ _ (aL bR) (dT (by rw [IntKind.wrap_i64];omega))
   refine pV3 0 33 ?_;refine pV3 8 41 ?_;refine pW3 9 42 1 34 ?_;refine sC3 (fun _ D _ y _ _ _ e _ _ _ k=>?_) ?_
   · have m:=y rfl;have a4:_=_:=e 10 43 kR rfl;have a3:_=_:=e 7 40 kR rfl;have Z:D.cell? ⟨a,b,none⟩=some (.int .i64 (d:Int)):=(by rw [<-u.out];exact (m.cell b).trans (dI c o));have a8:=m.frozen b;go_simp;exact k (.bool true) _ (bC (Keep.setCell (F:=fun g=>g=a) (Keep.refl _ _) (p:=⟨a,b,none⟩) (.inl rfl) _)) (m.set b _)
   exact aH
 · intro a6 E r e I;replace r:Keep (fun g=>g=a) w1 E:=kD r;obtain ⟨ah,q⟩:∃U,(fun _ j=>Bk j a 209 ((tcells c).setIfInBounds b (.int .i64 ((d - 1:Nat):Int)))) U E:=I 11 dC;simp only [zqq];clear e I;have X:E.cell? ⟨a,257,none⟩=some (.int .i64 (i:Int)):=(by refine (q.cell 257).trans ?_;rw [zCe oM,<-G.out];exact gN c);have a7:=q.frozen 257;have a5:(i:Int)+-1=((i - 1:Nat):Int):=oM;obtain ⟨O,M⟩:=hqq2 q r;have ab:=q.lt;clear q r;go_wp2_with fail;go_ret;refine ⟨rfl,?_,?_⟩;rw [<-K.out];exact O.out.set 257 _;exact ((Keep.of_below L.out).trans M.out).setCell (.inl rfl) _
end
end Go.Proofs.YtcfpmjbojoidoaaGreatDoor
