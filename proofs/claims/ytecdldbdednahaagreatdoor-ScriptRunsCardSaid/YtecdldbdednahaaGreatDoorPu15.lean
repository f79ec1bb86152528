/- Lemmas of the walk. Conditions: each its own. -/
import Derived.Test.YtecdldbdednahaaGreatDoorPu6
import Derived.Test.YtecdldbdednahaaGreatDoorPu13
import Derived.Test.YtecdldbdednahaaGreatDoorProg
import Derived.Test.YtecdldbdednahaaGreatDoorSht
import Derived.Test.YtecdldbdednahaaGreatDoorShl
import Derived.Test.YtecdldbdednahaaGreatDoorShi
import Derived.Test.YtecdldbdednahaaGreatDoorShs
set_option linter.all false
set_option maxRecDepth 100000
set_option maxHeartbeats 8000000
open Go.Proofs.Tryz
namespace Go.Proofs.YtecdldbdednahaaGreatDoor
open Go.RowKit
section
variable {w w1 w' : World} {B gs : Nat} {own own' : Nat -> Nat}
def StpZ.of_stps {b0 b1 n c A xs L} (k:w1.ownsRow b0 44 4 (.slice A n c) n xs) (r:StpsAt w1 b1 xs L) (m:L.length=n) (a:Below w1.heap.size w1 w):StpZ w w1.heap.size own gs A n L:=
 ⟨m,fun l=>by
  obtain ⟨f,t,j,b,d⟩:=(Rd.of_own k).2 l;refine ⟨f,t,j,by have:=a.size;omega,.inl b,fun C D p=>?_⟩;obtain ⟨e,s,i,u,x,y,z,o⟩:=r.get p;exact ⟨e,s,i,(a.cell b).trans (d _ _ u),(a.cell b).trans (d _ _ x),(a.cell b).trans (d _ _ y),(a.cell b).trans (d _ _ z),ArgZ.old (o.rd.below a) nL a.size⟩⟩
end
section
variable {w w1 w' : World} {B g gp sz n c : Nat} {most : Int} {T : List UInt8} {A : Option Addr} {xs : List Value}
def KM.of_do (d:Keep (fun a=>a=gp) w w') (o:B<=gp) (k:B<=w.heap.size) {e} (j:Bk w gp 55 e):KM B w w':=
 ⟨d.to_below k (fun a b f=>by have m:a=gp:=f;omega),d.size,fun a p l i _ b=>d.bk b (Bk.ne b j i)⟩
end
section
variable {w w' : World} {B gs g gp : Nat} {own own' : Nat -> Nat} {most : Int}
def MdAt.lfs0 (a:MdAt w g gp most []) (e:LFS B gs w w' own own') (b:Ap own gs g) (d:Ap own gs gp):MdAt w' g gp most []:=by
 obtain ⟨f,⟨A,c,i,m,j,o⟩,k,l⟩:=a;exact ⟨e.bk f b.col b.ne dC dC,⟨A,c,e.bk i d.col d.ne dC dC,⟨rfl,fun a=>absurd a (by simp)⟩,j,fun a=>absurd a (by simp)⟩,k,l⟩
end
def aLA (w:World) (g gp:Nat) (most:Int) (i:List UInt8) (a:Told) (k:Ending) (w':World):Prop:=
 ∃b e d f,k=.returned (.agg (gX a b e d f))/\MdAt w' g gp most i/\Keep (fun j=>j=gp) w w'/\Made w' w.heap.size 5 1 b a.data.length e (a.data.map bv)/\Made w' w.heap.size 3 1 d a.places.length f (a.places.map nv)
def aJy (B g gp most T j o a A d c w) (b:MdAt w g gp most T) (N:B<=gp) (G:T.length<=549755813888) (l:RdM w B 1 A d (a.D.map bv)) (m:SpB a) (C:doM T most a.kind a.p a.k a.D=(j,o)):
 Calls prog 20 #[g,.agg #[(a.kind:Int),(a.p:Int),(a.k:Int),.slice A d c]] w (aLA w g gp most j o):=by
 have O:a.D.length=d:=by simpa using l.1.1
 have J:0 < d->∀e,A=some e->e.block≠gp:=fun y e H f=>by obtain ⟨_,_,K,_⟩:=b.pl;rcases l.2 y e H with q |⟨P,M,z,_,i⟩;omega;rw [f] at i;exact Bk.ne i K z rfl
 refine (aLF g gp A d c w.heap.size a.kind a.p a.k most T a.D j o C w b.mod b.pl l.1 nL J b.ne G (by have:=m.db;omega) m.pb m.kb ⟨b.b0,b.b1⟩).mono ?_;rintro f w' ⟨s,u,t,x,I,r,i,E,F⟩;exact ⟨s,u,t,x,I,⟨r.bk b.mod (fun f=>b.ne f),F,b.b0,b.b1⟩,r,i,E⟩
def Made.km {w w' B b n c a A xs} (d:Made w b a 1 A n c xs) (j:KM B w w') (e:a≠55) (f:a≠41):Made w' b a 1 A n c xs:=
 d.same fun g k _ i=>j.bk _ _ _ e f i
def ResM.km {w w' B b0 d a b} (k:ResM w b0 d a b) (q:KM B w w'):ResM w' b0 d a b:=by
 obtain ⟨e,i,f,j,l,m,o,p,r,s⟩:=k;exact ⟨e,i,f,j,l,m,o,p,r.km q dC dC,s.km q dC dC⟩
def Keep.grownK {f w w1 w' e sz n v l} (a:Keep f w w1) (k:w1.ownsRow w.heap.size e sz v n l) (b:w1.grownBy w' v.ownBlock):Keep f w w':=
 ⟨b.os.trans a.os,b.tape.trans a.tape,b.output.trans a.output,zAk a.size b.size,fun d i j=>(b.block d (zAl i a.size) (fun e=>by have:=(k.lt d e.symm).1;omega)).trans (a.block d i j)⟩
def Keep.belowK {d w w1 w'} (a:Keep d w w1) (b:Below w1.heap.size w1 w'):Keep d w w':=
 ⟨b.os.trans a.os,b.tape.trans a.tape,b.output.trans a.output,zAk a.size b.size,fun e f i=>(b.block e (zAl f a.size)).trans (a.block e f i)⟩
def aDn (w:World) (B g gp:Nat) (most:Int) (T:Nat->List UInt8) (R:Nat->Told) (n:Nat) (e:Ending) (w':World):Prop:=
 ∃v b,e=.returned v/\w'.ownsRow w.heap.size 41 4 v n b/\(∀a,a < n->ResM w' w.heap.size b a (R a))/\MdAt w' g gp most (T n)/\KM B w w'/\Keep (fun d=>d=gp) w w'
def aFq (B g gp most T R A n c L w) (Q:MdAt w g gp most (T 0)) (ai:B<=gp) (a4:StpM w B A n L) (br:n<=100000) (e:∀b∈L,SpB b) (aj:∀a,(T a).length<=549755813888) (an:∀a b,L[a]?=some b->doM (T a) most b.kind b.p b.k b.D=(T (a+1),R a)):
 Calls prog 19 #[.func (Fn.func 20) #[g] #[],.slice A n c] w (aDn w B g gp most T R n):=by
 obtain ⟨bl,bn,b6,bg,bh,bi,bj⟩:=aAA;have S:B<=w.heap.size:=by have:=Q.lt;omega
 obtain ⟨aH,aL,aJ,aK,aI,aM,a8⟩:=hqq7 Q a4 a4.1 e an aj ai;clear Q a4 e an aj ai;unfold aDn;go_enter func19,ntmps19;go_wp2_with fail;go_loopw [5,10] (fun v a6 wr=>∃(a:Nat) (u:List Value),a<=n/\a6=.int .i64 (a:Int)/\wr.ownsRow w.heap.size 41 4 v a u/\(∀d,d < a->ResM wr w.heap.size u d (R d))/\MdAt wr g gp most (T a)/\KM B w wr/\Keep (fun f=>f=gp) w wr) (fun _ a6 _=>n -(intOf a6).toNat)
 case atStart=>exact ⟨0, [],by omega,rfl,kj _ _ _ _,fun d ap=>absurd ap oM,aH.out,KM.refl _ _,kf _ _⟩
 case round=>
  obtain ⟨a,u,bq,rfl,a1,a3,O,C,X⟩:=hrel;by_cases bb:a < n
  · obtain ⟨b,N⟩:∃b,L[a]?=some b:=⟨_,zAa (by rw [aJ.out];exact bb)⟩;have a5:=C.sz;have aC:=aL.out.step C;obtain ⟨b0,bs,rfl,bp,_,al⟩:=aC.2 oM;obtain ⟨a7,aF,ah,aU,aV,aW,aX,am⟩:=al a b N;have I:Below wr.heap.size wr (wr.alloc (.cells #[(b.kind:Int),(b.p:Int),(b.k:Int),.slice a7 aF ah] 44)):=bR.alloc nL _;have V:=KM.of_below (B:=B) I (zAk S a5);have ao:=aJy B g gp most (T a) (T (a+1)) (R a) b a7 aF ah _ (O.below I) a8.out (aM.out a) (am.step V) (aK.out b (zAd N)) (aI.out a b N);obtain ⟨a9,ag,ae,ab,aS,j,aa,m,ac⟩:=hqq9 ao O a1 C a3 I V a5 X;clear O a1 C a3 am aC al ao N I V a5 X;go_wp2_with fail;refine a9.out.mono ?_;rintro H w1 ⟨k,o,l,r,rfl,aD,K,av,ax⟩;have b5:=(ag.out.below j.out).pl;obtain ⟨_,_,a2,_⟩:=b5;have ar:=KM.of_do (B:=B) K a8.out (by have:=j.out.size;have:=m.out;omega) a2;have J:=aa.out.trans ar;have az:w1.ownsRow w.heap.size 41 4 u5 a u:=aA (aQ ae.out j.out) fun f s _ e=>K.bk e (Bk.ne e a2 dC);obtain ⟨y,U⟩:=eqx ((R a).code);obtain ⟨G,a0⟩:=eqx ((R a).num);obtain ⟨E,Y⟩:=eqx ((R a).data.length);obtain ⟨F,Z⟩:∃bm,(R a).places.length=bm:=⟨_,rfl⟩;unfold gX;rw [U,a0,Y,Z];have i:Below w1.heap.size w1 (w1.alloc (.cells #[(y:Int),(G:Int),.slice k E o,.slice l F r] 41)):=bR.alloc nL _;have bd:=J.sz;have W:=(ab.out.trans J).trans (KM.of_below i (by have:=m.out;omega));have aq:=J.trans (KM.of_below (B:=B) i (by have:=m.out;omega));have aB:=aQ az i;have aE:=aD.below i;have aw:=(av.below i).mono (B':=w.heap.size) (by have:=m.out;have:=j.out.size;omega);have ay:=(ax.below i).mono (B':=w.heap.size) (by have:=m.out;have:=j.out.size;omega);have au:=((ac.out.belowK j.out).trans K).belowK i;obtain ⟨aR,x,aT,aP,aO,ad,af,aN⟩:=hqq8 au aB aE W aq (And.intro aw ay) (show w.heap.size<=(w1.alloc (.cells #[(y:Int),(G:Int),.slice k E o,.slice l F r] 41)).heap.size from W.sz) (And.intro U (And.intro a0 (And.intro Y Z)));clear au ac az aB aD aE K ar J W aq av ax aw ay i bd a2 U a0 Y Z ag ae ab j aa m a9 aU aV aW aX;go_wp2_with (at_builtin;refine bF _ rfl (.tmp 14) (.tmp 18) _ rfl w.heap.size 41 bl bn 4 64 underlying33 b6 bg bh bi bj dC u5 a _ rfl x.out _ _ 1 1 _ rfl (wZ (ke w1 41 #[(y:Int),(G:Int),.slice k E o,.slice l F r]) rfl) (by simp [Value.oneCell']) (by unfold maxLen;omega) oM af.out ?_;intro bt aG bc z bo);have ak:∀f t s,t≠41->Bk (w1.alloc (.cells #[(y:Int),(G:Int),.slice k E o,.slice l F r] 41)) f t s->Bk aG f t s:=fun f t s bf e=>(z.block f e.lt (bC x.out e (fun H=>bf H.symm))).trans e;have M:KM B (w1.alloc (.cells #[(y:Int),(G:Int),.slice k E o,.slice l F r] 41)) aG:=⟨aZ bR (bN x.out S) z (zAk S af.out),z.size,fun f t s _ b4 e=>ak f t s b4 e⟩;have be:=aT.out.keep z.size ak;have b9:=aP.out.trans M;have b7:=aO.out.trans M;have ba:=aR.out.grownK x.out z;have P:u.length=a*4:=x.out.1;obtain ⟨aY,b1,b2,b3⟩:=aN.out;subst aY b1 b2 b3;go_roundw
    case rel=>refine ⟨a+1,_,by omega,by go_num,bc,fun d ap=>?_,be,b9,ba⟩;by_cases H:d=a;subst H;refine ⟨k,o,l,r,?_,?_,?_,?_,ad.out.1.km M dC dC,ad.out.2.km M dC dC⟩;rw [zAo oM,P,Nat.sub_self];rfl;rw [zAo oM,P,show d*4+1 - d*4=1 by omega];rfl;rw [zAo oM,P,show d*4+2 - d*4=2 by omega];rfl;rw [zAo oM,P,show d*4+3 - d*4=3 by omega];rfl;exact ((aS.out d oM).km b7).more
    case measure=>simp [intOf];omega
  · have b8:a=n:=oM;subst b8;go_wp2_with fail;go_ret;exact ⟨_,u,rfl,a1,a3,O,C,X⟩
def vI (B g gp most T R A n c L w) (e:MdAt w g gp most (T 0)) (u:B<=gp) (k:StpM w B A n L) (x:n<=100000) (i:∀a∈L,SpB a) (f:∀b,(T b).length<=549755813888) (j:∀b a,L[b]?=some a->doM (T b) most a.kind a.p a.k a.D=(T (b+1),R b)):
 Calls prog 10 #[g,.slice A n c] w (aDn w B g gp most T R n):=by
 have l:=aFq B g gp most T R A n c L w e u k x i f j;have d:=lhd l;clear e k i f j l;unfold aDn at d⊢;go_enter func10,ntmps10;go_wp2_with fail;refine d.out.mono ?_;rintro z w1 ⟨v,y,rfl,m,o,r,s,t⟩;go_wp2_with fail;go_ret;exact ⟨v,y,rfl,m,o,r,s,t⟩
section
variable {w w' : World} {b0 B gs n q : Nat} {own : Nat -> Nat} {v : Value} {R : Nat -> Told} {L : List Sp}
def StpR.lfs {own'} (f:StpR w b0 v q L) (j:LFS B gs w w' own own') (b:∀a,b0<=a->Ap own gs a):StpR w' b0 v q L:=
 f.same fun g l k d e i=>j.bk i (b g d).col (b g d).ne (by rcases e with rfl | rfl <;> decide) (by rcases e with rfl | rfl <;> decide)
def DataAt.rdM {A f c b} (e:DataAt w b0 A f c b):RdM w B 1 A f (b.map bv):=
 ⟨e.rd,fun o k a=>by
  obtain ⟨_,_,_,⟨d,l,_⟩|⟨g,i,d,m,j,_⟩⟩:=e;omega
  · rw [d] at a;injection a with a;subst a;exact .inr ⟨_,i,by decide,by decide,j⟩⟩
def StpR.stpM {A c} (f:StpR w b0 (.slice A q c) q L) (i:L.length=q):StpM w B A q L:=
 ⟨i,fun o=>by
  obtain ⟨g,d,e,C,m,j,k⟩:=f.row o;refine ⟨g,0,e,m,.inr ⟨_,d,by decide,by decide,j⟩,fun r t p=>?_⟩;obtain ⟨a,s,b,u,x,y,z,l⟩:=k r t p;exact ⟨a,s,b,u,x,y,z,l.rdM⟩⟩
end
def AnsAt.of_plain {w w':World} {n:Nat} {v:Value} {R:Nat->Told} {b:List Value} (d:w'.ownsRow w.heap.size 41 4 v n b) (e:∀a,a < n->ResM w' w.heap.size b a (R a)):AnsAt w' w.heap.size v n R:=⟨b,d,e⟩
def t22:List UInt8:= [0,4,2,129,200,3,255,0,1,9]
def L22:List Sp:= [⟨1,4,2, [98,98]⟩,⟨2,8,3, []⟩,⟨8,-128,-127, []⟩]
def aJM:lA t22 (t22.length / 3)=L22:=by
 unfold lA t22 L22;simp [List.range,List.range.loop,aGi,aEd,spK,spP,spN,spD,nN,pQ,dE]
def R22 (a:Nat):Told:=if a=2 then ⟨0,0, [], []⟩ else ⟨2,0, [], []⟩
def aKR {B gs} (k o a d w1 f e j) (b:L22[k]?=some o) (p:StAt w1 B a gs d 9 2 []):
 Calls prog 15 #[gs,.agg #[(o.kind:Int),(o.p:Int),(o.k:Int),.slice f e j]] w1 (StDone w1 B a gs 9 2 [] (R22 k)):=by
 have u:∀l m n:Int,dL 0 m (oN l n e)=false->∀i,StAt i B a gs d 9 2 []->LFS B gs w1 i a a->Calls prog 25 #[gs,.agg #[(l:Int),(m:Int),(n:Int),.slice f e j]] i fun r w'=>r=.returned (.int .i64 2)/\∃own',StAt w' B own' gs d 9 2 []/\LFS B gs i w' a own':=fun l m n y i t _=>
  (jY B a gs d 9 2 0 [] l m n f e j i t rfl y).mono fun r w' ⟨x,s⟩=>⟨x,a,t.vb (kc s),LFS.of_below B gs a s⟩
 rcases k with _ | _ | _ | k;injection b with b;subst b;exact fI B a gs d 9 2 [] [] 1 4 2 f e j 2 w1 p (.inl rfl) (u 1 4 2 (by show dL 0 4 0=false;decide));injection b with b;subst b;exact fI B a gs d 9 2 [] [] 2 8 3 f e j 2 w1 p (.inr (.inl rfl)) (u 2 8 3 (by show dL 0 8 3=false;decide));injection b with b;subst b;exact yV B a gs d 9 2 [] (-128) (-127) f e j w1 p
 · cases b
def aJL:∀d b,L22[d]?=some b->doM [] 9 b.kind b.p b.k b.D=([],R22 d):=by
 intro d b a;rcases d with _ | _ | _ | d;injection a with a;subst a;rfl;injection a with a;subst a;rfl;injection a with a;subst a;rfl
 · cases a
def aJK:∀b∈L22,SpB b:=by
 intro b a;simp only [L22,List.mem_cons,List.not_mem_nil,or_false] at a;rcases a with rfl | rfl | rfl;exact ⟨by decide,by decide,by decide⟩;exact ⟨by decide,by decide,by decide⟩;exact ⟨by decide,by decide,by decide⟩
def qL {w:World} {a sz n:Nat} {d:TypeId} {v:Value} {xs:List Value} (f:w.ownsRow a d sz v n xs) (l:0 < n):∃g c,v=.slice (some ⟨g,0,none⟩) n c/\a<=g:=by
 rcases f.2 with ⟨_,k⟩|⟨g,b,j,e,i,_⟩;omega;exact ⟨g,b,e,i⟩
def fF {w:World} {e sz n g c:Nat} {f:TypeId} {xs:List Value} (i:w.ownsRow e f sz (.slice (some g) n c) n xs) (k:0 < n) (b:Nat) (d:Value) (l:xs[b]?=some d):w.cell? ⟨g,b,none⟩=some d:=by
 obtain ⟨m,o,a,_,j⟩:=(Rd.of_own i).2 k;injection a with a;injection a with a e2;subst a;subst e2;have:=j b d l;rwa [zBi] at this
def yQ (w):Calls prog 5 #[] w fun b w'=>b=.returned (.bool true)/\Below w.heap.size w w':=by
 have l:=pP (some ⟨w.heap.size,0,none⟩) 10 10 t22 (w.alloc (.cells #[.int .u8 0,.int .u8 4,.int .u8 2,.int .u8 129,.int .u8 200,.int .u8 3,.int .u8 255,.int .u8 0,.int .u8 1,.int .u8 9] 5)) (Rd.made w 5 1 10 #[.int .u8 0,.int .u8 4,.int .u8 2,.int .u8 129,.int .u8 200,.int .u8 3,.int .u8 255,.int .u8 0,.int .u8 1,.int .u8 9] rfl) oM oM;have a9:Below w.heap.size w (w.alloc (.cells #[.int .u8 0,.int .u8 4,.int .u8 2,.int .u8 129,.int .u8 200,.int .u8 3,.int .u8 255,.int .u8 0,.int .u8 1,.int .u8 9] 5)):=bR.alloc nL _;unfold oJ at l;rw [aJM,show t22.length / 3=3 from rfl] at l;obtain ⟨W,y⟩:=hqq2 l a9;clear l a9;go_enter func5,ntmps5;go_wp2_with fail;refine W.out.mono ?_;rintro b w1 ⟨bA,xs,rfl,Q,aw,ab⟩;have aa:=y.out.trans (ab.mono y.out.size);obtain ⟨H,G,rfl,br⟩:=qL Q oM;obtain ⟨i,j,z⟩:=hqq3 Q aw aa;clear Q aw ab aa W y;go_wp2_with fail;refine (pO 9 2 w1 oM oM oM).mono ?_;rintro b bg ⟨gs,aU,own,rfl,ay,ac⟩;obtain ⟨e,f⟩:=hqq2 ay ac;clear ay ac;go_wp2_with fail;refine (aJx 9 bg oM oM).mono ?_;rintro b t ⟨g,gp,rfl,K,aj,ak,b1,an,ar⟩;have aX:w1.heap.size<=gp:=by have:=f.out.size;omega
 have az:=e.out.vb (kc K);have ao:MdAt t g gp 9 []:=⟨an,⟨_,_,ar,⟨rfl,fun I=>absurd I (by simp)⟩,zAp _,fun I=>absurd I (by simp)⟩,by decide,by decide⟩;have J:Below w1.heap.size w1 t:=f.out.trans (K.mono f.out.size);have aC:StpZ t w1.heap.size own gs (some ⟨H,0,none⟩) 3 L22:=StpZ.of_stps i.out j.out rfl J;have a7:Ap own gs g/\Ap own gs gp:=⟨⟨e.out.fresh aj,by have:=e.out.blk.lt;omega⟩,⟨e.out.fresh ak,by have:=e.out.blk.lt;omega⟩⟩;obtain ⟨F,a4,a1,X,x⟩:=hqq5 az aC ao J a7;clear az aC ao J K aj ak b1 an ar a7 e f;go_wp2_with fail;refine (uF w1.heap.size own gs aU 9 2 (fun _=> []) R22 (some ⟨H,0,none⟩) 3 G L22 t F.out a4.out oM fun s be bd aV V aM bb aP aY b2 _ _=>aKR s be bd aV V aM bb aP aY b2).mono ?_;rintro b V ⟨bB,bG,bu,bq,rfl,S,_,av,b3,O⟩;have ad:=O.below F.out.size;have m:=X.out.trans ad;have am:=aQ i.out m;have ax:=j.out.below m;have ap:=a1.out.lfs0 O x.out.1 x.out.2;obtain ⟨a5,bo,rfl,bt⟩:=qL S oM;obtain ⟨a2,E,a0,a3,D,Y⟩:=hqq6 S av am ax ap m;clear S av am ax ap m ad b3 O F a4 a1 X x;go_wp2_with fail;refine (vI w1.heap.size g gp 9 (fun _=> []) R22 (some ⟨H,0,none⟩) 3 G L22 V D.out aX (StpR.stpM (c:=G) ⟨xs,a0.out,a3.out⟩ rfl) oM aJK (fun _=>by simp) aJL).mono ?_;rintro b a ⟨bC,bF,rfl,p,aB,_,al,ah⟩;have ae:=al.low;obtain ⟨_,_,au,_⟩:=D.out.pl;have o:=Y.out.trans ae;have d:=aQ i.out o;have U:=aA a2.out fun bl bp _ a8=>ah.bk a8 (Bk.ne a8 au dC);have r:=j.out.below o;obtain ⟨aW,bn,rfl,bs⟩:=qL p oM;obtain ⟨_,_,_,_,aL,_⟩:=aB 0 oM;have bv:a.cell? aW=some (.int .i64 2):=fF p oM 0 (.int .i64 2) aL;obtain ⟨_,_,_,_,aJ,_⟩:=E.out 0 oM;obtain ⟨_,_,_,_,aK,_⟩:=E.out 2 oM;have bw:a.cell? a5=some (.int .i64 2):=fF U oM 0 (.int .i64 2) aJ;have bx:a.cell? ⟨a5,8,none⟩=some (.int .i64 0):=fF U oM 8 (.int .i64 0) aK;obtain ⟨aN,bc,aR,aD,aE,bh,aF,M⟩:=r.get (k:=0) rfl;obtain ⟨_,_,_,aG,_,_,_,_⟩:=r.get (k:=1) rfl;obtain ⟨_,_,_,aH,aI,_,_,_⟩:=r.get (k:=2) rfl;have b5:=fF d oM _ _ aD;have b6:=fF d oM _ _ aE;have b7:=fF d oM _ _ aF;have b8:=fF d oM _ _ aG;have b9:=fF d oM _ _ aH;have ba:=fF d oM _ _ aI;have aZ:bc=2:=M.1.symm;subst aZ;have bz:(convert 22 9 (.slice aN 2 aR)).run prog a=.ok (.string ⟨#[98,98]⟩) a:=(kN (P:=prog) 22 9 5 underlying22 underlying5 underlying9 M.rd).trans rfl;have ai:=z.out.trans (o.mono z.out.size);obtain ⟨C,bj⟩:=hqq2 ai p;have N:=pP (some ⟨a.heap.size,0,none⟩) 2 2 [1,2] (a.alloc (.cells #[.int .u8 1,.int .u8 2] 5)) (Rd.made a 5 1 2 #[.int .u8 1,.int .u8 2] rfl) oM oM;have a6:Below a.heap.size a (a.alloc (.cells #[.int .u8 1,.int .u8 2] 5)):=bR.alloc nL _;unfold oJ at N;obtain ⟨Z,u⟩:=hqq2 N a6;clear N a6 ai o M aD aE bh aF aG aH aI d U r p aB ae ah al au aL D a0 a3 a2 E Y z i j aJ aK;simp only [Nat.zero_mul,Nat.one_mul,zBi,Nat.reduceMul,Nat.reduceAdd] at b5 b6 b7 b8 b9 ba;go_wp2_with fail;refine Z.out.mono ?_;rintro b bD ⟨bf,bE,rfl,aq,_,af⟩;have b4:∃A c,bf=.slice A 0 c:=by obtain ⟨A,c,aT,_⟩:=aS aq;exact ⟨A,c,aT⟩
 obtain ⟨bi,bm,rfl⟩:=b4;have ag:=C.out.trans ((u.out.trans (af.mono u.out.size)).mono C.out.size);have aO:=lhd ag;clear ag af aq Z u C;go_wp2_with fail;go_ret;exact ⟨rfl,aO.out⟩
def vN (A:Option Addr) (o c:Nat) (S:List UInt8) (most d9:Int) (w:World) (C:Rd w w.heap.size 1 A o (S.map bv)) (dM:o<=c) (eh:c<=maxLen) (ba:TabW w):
 Calls prog 3 #[.slice A o c,(most:Int),(d9:Int)] w fun i w'=>i=.returned (.bool true)/\Below w.heap.size w w':=by
 have dW:=ba.pos;have d0:S.length=o:=by simpa using C.1
 obtain ⟨n,dO,dP⟩:=vT most 61 oM;obtain ⟨aj,dS,dT⟩:=vT d9 64 oM;have c9:IntKind.i64.wrap (n:Int)=(n:Int):=by rw [wI0];omega
 have dz:IntKind.i64.wrap (aj:Int)=(aj:Int):=by rw [wI0];omega
 have ca:IntKind.i64.wrap (1+(aj:Int))=((aj+1:Nat):Int):=by rw [wI0];omega
 obtain ⟨Q,cN⟩:=eqx (aj+1);rw [cN] at ca;have er:1<=Q:=oM;have es:Q<=64:=oM;have em:n<=60:=oM;obtain ⟨B,ce⟩:=eqx w.heap.size;have cf:1 < B:=oM;obtain ⟨q,cJ⟩:=eqx (S.length / 3);obtain ⟨L,aw⟩:=eqx (lA S q);have cg:L.length=q:=by rw [<-aw];simp [lA]
 have eq:3*q<=o:=oM;have cV:∀f∈L,SpB f/\f.D.length<=4:=by rw [<-aw];exact aLH S q
 obtain ⟨df,aS,dk,e1,dj,de,aT,b2⟩:=hqq8 ba ce C d0 cJ aw cg cV;clear ba dW ce C d0 cN dT dP cJ aw cg cV;by_cases dB:o > 150
 · have m:decide ((o:Int) > 150)=true:=zBz oM;go_enter func3,ntmps3;go_wp2_with fail;refine (yQ w).mono ?_;rintro i bD ⟨rfl,M⟩;have di:=lhd M;clear M;go_wp2_with fail;go_ret;exact ⟨rfl,di.out⟩
 have m:decide ((o:Int) > 150)=false:=zBy oM;have dL:o<=100000:=oM;have el:o<=150:=oM;clear dB;go_enter func3,ntmps3;go_wp2_with fail;refine (pO n Q w oM oM oM).mono ?_;rintro i w1 ⟨gs,cb,a3,rfl,bo,bb⟩;rw [aS.out] at bo bb;obtain ⟨z,bP⟩:=hqq2 bo bb;clear bo bb dz ca dS;go_wp2_with fail;refine (aJx n w1 oM oM).mono ?_;rintro i aI ⟨g,gp,rfl,bc,cv,cw,dQ,cy,af⟩;have cX:=z.out.vb (kc bc);have cz:MdAt aI g gp (n:Int) []:=⟨cy,⟨_,_,af,⟨rfl,fun x=>absurd x (by simp)⟩,zAp _,fun x=>absurd x (by simp)⟩,by omega,by omega⟩;have cj:Ap a3 gs g/\Ap a3 gs gp:=⟨⟨z.out.fresh cv,by have:=z.out.blk.lt;omega⟩,⟨z.out.fresh cw,by have:=z.out.blk.lt;omega⟩⟩;have dI:B<=gp:=by have:=z.out.size;omega
 have cl:=bP.out.trans (bc.mono z.out.size);obtain ⟨H,bT,aU,aV⟩:=hqq4 cX cz cj cl;clear cX cz cj cl bc cv cw dQ cy af z bP c9 dO;go_wp2_with fail;have az:=pP A o c S aI ((by have x:=dk.out;rw [aS.out] at x;exact x.below aV.out:Rd aI B 1 A o (S.map bv)).mono H.out.size) dL dM;unfold oJ at az;rw [dj.out,de.out] at az;refine az.mono ?_;rintro i bD ⟨dY,e0,rfl,bk,bn,M⟩;obtain ⟨Y,ch⟩:=eqx aI.heap.size;rw [ch] at bk bn;have bp:StpR bD Y dY q L:=⟨e0,bk,bn⟩;have cY:=H.out.vb (kc M);have cB:=bT.out.below M;have cm:=aV.out.trans (M.mono H.out.size);have cc:∀a6,Y<=a6->Ap a3 gs a6:=fun a6 Z=>⟨H.out.fresh oM,by have:=H.out.blk.lt;omega⟩;obtain ⟨E,I,rfl,en,eg⟩:=bp.slice;have ee:B<=Y:=by have:=H.out.size;omega
 obtain ⟨b4,b3,bU,aW,aQ⟩:=hqq5 bp cY cB cm cc;clear az bk bn M bp cY cB cm cc ch H bT aV;have cO:∀b,StAt b B a3 gs cb n Q []->StpR b Y (.slice E q I) q L->Below B w b->Calls prog 9 #[gs,.slice E q I] b (aAM b B a3 gs n Q (txM n L) (anM n L) q):=fun b av bC dt=>
  uF B a3 gs cb n Q (txM n L) (anM n L) E q I L b av (bC.stpZ aT.out aQ.out) oM fun e f dX dA bE dd d8 du ae dU dK ck=>by obtain ⟨aD,cQ⟩:=b2.out f (zAd ae);have cC:d8<=4:=(by have:=ck.1.1;simp at this;omega);have dG:Below B w bE:=dt.trans (dK.below av.size);exact yU B dX gs dA n Q (txM n L e) f.D (txM n L (e+1)) (anM n L e) f.kind f.p f.k dd d8 du bE (aCh ae) dU ck oM ((show TabW w from df.out).below dG cf) cf (by have:=kZ n L (e+1);omega)
 have cG:∀b,MdAt b g gp (n:Int) []->StpR b Y (.slice E q I) q L->Calls prog 10 #[g,.slice E q I] b (aDn b B g gp (n:Int) (txM n L) (anM n L) q):=fun b av bC=>
  vI B g gp (n:Int) (txM n L) (anM n L) E q I L b av dI (bC.stpM aT.out) oM (fun f a1=>(b2.out f a1).1) (fun e=>by have:=kZ n L e;omega) fun e f ae=>aCh ae
 obtain ⟨bW,bV⟩:=hqq2 cO cG;clear cO cG;go_wp2_with fail;refine (bW.out bD b3.out b4.out aW.out).mono ?_;rintro i da ⟨ez,eB,ex,ec,rfl,cD,dF,cK,cZ,aB⟩;have bt:=AnsAt.of_z cD cK;have cR:=b4.out.lfs aB aQ.out;have cA:=bU.out.lfs0 aB aU.out.1 aU.out.2;have cn:=aW.out.trans (aB.below b3.out.size);have dV:B<=da.heap.size:=cZ.size;obtain ⟨db,a7,rfl,eo,ei⟩:=bt.slice;obtain ⟨c2,b1,aY,bQ⟩:=hqq4 bt cR cA cn;clear cD dF cK cZ aB bt cR cA cn b3 b4 bU aW bW aQ aU;go_wp2_with fail;refine (bV.out da aY.out b1.out).mono ?_;rintro i b ⟨eA,eC,rfl,cE,cL,dN,bh,bf⟩;obtain ⟨_,_,bm,_⟩:=aY.out.pl;have d2:=c2.out.keep bf bm dC dC dC;have bw:=(AnsAt.of_plain cE cL).mono (zAp _);have cT:=b1.out.keep bf bm dC dC;have co:=bQ.out.trans bh.low;have br:B<=b.heap.size:=zAk dV bh.sz;obtain ⟨dc,b6,rfl,ep,ej⟩:=bw.slice;obtain ⟨u,be⟩:=eqx b.heap.size;have k:Below b.heap.size b (b.alloc (.cells #[.string ⟨#[]⟩,(n:Int)] 38)):=bR.alloc nL _;have K:MdX (b.alloc (.cells #[.string ⟨#[]⟩,(n:Int)] 38)) b.heap.size n (txM n L 0):=ke b 38 #[.string ⟨#[]⟩,(n:Int)];have ah:=d2.below k;have ai:=bw.below k;have ag:=cT.below k;have aa:=co.trans (k.mono br);have a2:B<=(b.alloc (.cells #[.string ⟨#[]⟩,(n:Int)] 38)).heap.size:=zAk br k.size;rw [be] at K;have ef:B<=u:=oM;obtain ⟨U,W,X,a5,a4,V,bS⟩:=hqq7 K ah ai ag aa a2 be;clear cE cL dN bh bf bm d2 bw cT co br be k K ah ai ag aa a2 c2 b1 aY bQ bV;go_wp2_with fail;rw [bS.out];go_loopw [16] (fun bx wr=>∃e:Nat,e<=q/\bx=.int .i64 (e:Int)/\MdX wr u n (txM n L e)/\AnsAt wr 0 (.slice db q a7) q (anM n L)/\AnsAt wr 0 (.slice dc q b6) q (anM n L)/\StpR wr Y (.slice E q I) q L/\Below B w wr/\B<=wr.heap.size) (fun bx _=>q -(intOf bx).toNat)
 case atStart=>exact ⟨0,zAp _,rfl,U.out,W.out,X.out,a5.out,a4.out,V.out⟩
 case round=>
  clear U W X a5 a4 V bS;obtain ⟨e,ae,rfl,a9,bs,bu,a1,Z,bq⟩:=hrel;by_cases bi:e < q
  · obtain ⟨c9,ew,au,ek,cp⟩:=a1.get oM;subst au;obtain ⟨f,aE⟩:∃f,L[e]?=some f:=⟨_,zAa (by rw [aT.out];exact bi)⟩;obtain ⟨aP,aH,c4,c5,c6,c7,dv,aA⟩:=cp e f aE;obtain ⟨aD,cQ⟩:=b2.out f (zAd aE);have cC:aH<=4:=(by have:=aA.1;omega);have dD:=kZ n L e;have dE:=kZ n L (e+1);have af:=yF (n:Int) L e;have ct:0 < aH->∀b5,aP=some b5->b5.block≠u:=fun ed b5 ay i=>by obtain ⟨_,_,_,⟨au,e4,_⟩|⟨g,e2,au,_,dH,_⟩⟩:=aA;omega;rw [au] at ay;injection ay with ay;subst ay;have c8:g=u:=i;subst c8;exact Bk.ne dH a9 dC rfl
    obtain ⟨a,C⟩:=eqx (anM (n:Int) L e);rw [C] at af
    have cM:Calls prog 11 #[.pointer (some ⟨u,0,none⟩),.agg #[(f.kind:Int),(f.p:Int),(f.k:Int),.slice aP aH c4]] wr fun i w'=>bZ u (n:Int) (txM n L (e+1)) a wr w' i:=
        aF0 u aP aH c4 wr.heap.size f.kind f.p f.k (n:Int) (txM n L e) f.D (txM n L (e+1)) a (by rw [<-C];exact aCh aE) wr a9 aA.rd nL ct oM oM aD.pb aD.kb oM
    have cH:a.places.length<=1099511627776:=oM;obtain ⟨aZ,ap,an,c1,c3,bY,ao,dl⟩:=hqq8 cM cH a9 bs bu a1 Z C;have et:(e:Int) < (q:Int):=oM;obtain ⟨eu,bg⟩:=eqx f.kind;obtain ⟨ey,bl⟩:=eqx f.p;obtain ⟨ev,bj⟩:=eqx f.k;rw [bg] at c5;rw [bl] at c6;rw [bj] at c7;rw [bg,bl,bj] at aZ;clear cM cH a9 bs bu a1 Z C aA ct cp aD cQ cC dD dE af aE bg bl bj;go_wp2_with fail;refine aZ.out.mono ?_;rintro i t ⟨aM,b7,aN,b8,rfl,a0,cs,cF,K⟩;have ah:=c1.out.keep a0 an.out dC dC dC;have ai:=c3.out.keep a0 an.out dC dC dC;have ag:=bY.out.keep a0 an.out dC dC;have a2:B<=t.heap.size:=zAk bq a0.size;have aa:=ao.out.trans (a0.to_below bq fun a6 Z i=>by have c8:a6=u:=i;omega);obtain ⟨a8,cx⟩:=eqx t.heap.size;obtain ⟨j,ax⟩:=eqx (t.alloc (.cells #[(a.code:Int),(a.num:Int),.slice aM a.data.length b7,.slice aN a.places.length b8] 41));have k:Below t.heap.size t j:=(by rw [<-ax];exact bR.alloc nL _);have d3:Bk j t.heap.size 41 (gX a aM b7 aN b8):=(by rw [<-ax];exact ke _ _ _);have cP:ResX j t.heap.size a:=⟨aM,b7,aN,b8,d3,(cs.below k).1,(cF.below k).mono (zAp _)⟩;have d1:=ax;obtain ⟨U,W,X,a5,a4,V,bX,c0⟩:=hqq8 (show MdX j u n (txM n L (e+1)) from kg K k (Bk.lt K)) (ah.below k) (ai.below k) (ag.below k) (aa.trans (k.mono a2)) (show B<=j.heap.size from zAk a2 k.size) cP d1;clear ax cP k d1 ah ai ag aa K cs cF a0 d3 a2 an c1 c3 bY ao aZ c5 c6 c7 dv;unfold gX;go_wp2_with fail;rw [c0.out];clear c0;obtain ⟨ak,ar,Ap,aq,s,cu,cI⟩:=bX.out;rw [cx] at s;unfold gX at s;obtain ⟨m,y,dx,ac,cq⟩:=W.out.get oM;obtain ⟨J,P,dy,ad,cr⟩:=X.out.get oM;subst dx;subst dy;obtain ⟨F,N,G,O,bF,bG,bH,bI,aJ,aL⟩:=cq e bi;obtain ⟨al,aF,am,aG,bJ,bK,bL,bM,bN,bO⟩:=cr e bi;rw [dl.out] at bF bG bH bI aJ aL bJ bK bL bM bN bO
    have cd:∀b,Grow j b->b.cell? ⟨m,y+e*4,none⟩=some (.int .i64 a.code)/\b.cell? ⟨m,y+e*4+1,none⟩=some (.int .i64 a.num)/\b.cell? ⟨m,y+e*4+2,none⟩=some (.slice F a.data.length N)/\b.cell? ⟨m,y+e*4+3,none⟩=some (.slice G a.places.length O)/\b.cell? ⟨J,P+e*4,none⟩=some (.int .i64 a.code)/\b.cell? ⟨J,P+e*4+1,none⟩=some (.int .i64 a.num)/\b.cell? ⟨J,P+e*4+2,none⟩=some (.slice al a.data.length aF)/\b.cell? ⟨J,P+e*4+3,none⟩=some (.slice am a.places.length aG):=fun b d=>
        ⟨(d.cell ac).trans bF,(d.cell ac).trans bG,(d.cell ac).trans bH,(d.cell ac).trans bI,(d.cell ad).trans bJ,(d.cell ad).trans bK,(d.cell ad).trans bL,(d.cell ad).trans bM⟩
    have ci:∀b,Grow j b->b.cell? ⟨a8,0,none⟩=some (.int .i64 a.code)/\b.cell? ⟨a8,1,none⟩=some (.int .i64 a.num)/\b.cell? ⟨a8,2,none⟩=some (.slice ak a.data.length ar)/\b.cell? ⟨a8,3,none⟩=some (.slice Ap a.places.length aq):=fun b d=>
        ⟨(d.cell s.lt).trans ((s.cell 0).trans rfl),(d.cell s.lt).trans ((s.cell 1).trans rfl),(d.cell s.lt).trans ((s.cell 2).trans rfl),(d.cell s.lt).trans ((s.cell 3).trans rfl)⟩
    have cU:∀b,Grow j b->Calls prog 12 #[.agg #[(a.code:Int),(a.num:Int),.slice F a.data.length N,.slice G a.places.length O],.agg #[(a.code:Int),(a.num:Int),.slice al a.data.length aF,.slice am a.places.length aG]] b fun i w'=>i=.returned (.bool true)/\Below b.heap.size b w':=fun b d=>
        (aJt a.code a.code a.num a.num F al G am a.data.length N a.data.length aF a.places.length O a.places.length aG _ _ _ _ a.data a.data a.places a.places b (aJ.rd.below d) (bN.rd.below d) (aL.rd.below d) (bO.rd.below d) d.size d.size d.size d.size ap.out ap.out).mono (by rintro i w' ⟨rfl,x⟩;exact ⟨by simp,x⟩)
    have cW:∀b,Grow j b->Calls prog 13 #[.agg #[(a.code:Int),(a.num:Int),.slice F a.data.length N,.slice G a.places.length O],.agg #[(a.code:Int),(a.num:Int),.slice ak a.data.length ar,.slice Ap a.places.length aq]] b fun i w'=>i=.returned (.bool true)/\Below b.heap.size b w':=fun b d=>
        (vD a.code a.code a.num a.num F ak G Ap a.data.length N a.data.length ar a.places.length O a.places.length aq _ _ _ _ a.data a.data a.places a.places b (aJ.rd.below d) (cu.below d) (aL.rd.below d) (cI.rd.below d) d.size d.size d.size d.size ap.out ap.out).mono (by rintro i w' ⟨rfl,x⟩;exact ⟨by simp,x⟩)
    obtain ⟨aR,dh,dn,dp⟩:=hqq4 cd ci cU cW;clear cd ci cU cW cq cr bF bG bH bI aJ aL bJ bK bL bM bN bO s cu cI ac ad bX
    try rw [cx]
    refine wp_region_any kR ?_;refine aO [82,83,84,85,86,87,88,89,90,91,92,93,94,95,96,97,98,99,100] (Grow) (Vs [is (.slice (some ⟨m,y,none⟩) q a7),is (e:Int),is (.pointer (some ⟨m,y+e*4,none⟩)),is (.agg #[(a.code:Int),(a.num:Int),.slice F a.data.length N,.slice G a.places.length O]),is (.slice (some ⟨J,P,none⟩) q b6),is (e:Int),is (.pointer (some ⟨J,P+e*4,none⟩)),is (.agg #[(a.code:Int),(a.num:Int),.slice al a.data.length aF,.slice am a.places.length aG]),is (.bool true),is (.bool false),is (.bool false),is (.slice (some ⟨m,y,none⟩) q a7),is (e:Int),is (.pointer (some ⟨m,y+e*4,none⟩)),is (.agg #[(a.code:Int),(a.num:Int),.slice F a.data.length N,.slice G a.places.length O]),is (.agg #[(a.code:Int),(a.num:Int),.slice ak a.data.length ar,.slice Ap a.places.length aq]),is (.bool true),is (.bool false),is (.bool false)]) _ _ rfl kR bR (fun _ _=>Grow.trans) (cS tA1) ?_ ?_
    · refine aK ?_;refine pH 13 (.slice (some ⟨m,y,none⟩) q a7) ?_;refine pH 16 (.int .i64 (e:Int)) ?_;refine pW 0 82 1 83 ?_;refine sC (fun _ b d _ _ _ l _ _ _ r=>?_) ?_
      · have e5:_=_:=l 2 84 kR rfl;replace d:(Grow) j b:=gD d;obtain ⟨k0,bz,bA,bB,d4,d5,d6,d7⟩:=aR.out b d;go_simp;exact r _ _ bR rfl
      refine pH 14 (.slice (some ⟨J,P,none⟩) q b6) ?_;refine pH 16 (.int .i64 (e:Int)) ?_;refine pW 4 86 5 87 ?_;refine sC (fun _ b d _ _ _ l _ _ _ r=>?_) ?_
      · have e7:_=_:=l 6 88 kR rfl;replace d:(Grow) j b:=gD d;obtain ⟨k0,bz,bA,bB,d4,d5,d6,d7⟩:=aR.out b d;go_simp;exact r _ _ bR rfl
      refine sC (fun _ b d _ _ _ l _ _ _ r=>?_) ?_
      · have e6:_=_:=l 3 85 kR rfl;have e8:_=_:=l 7 89 kR rfl;replace d:(Grow) j b:=gD d;go_simp;refine (dn.out b d).mono ?_;rintro i dZ ⟨rfl,bd⟩;exact r _ _ bd rfl
      refine pV 8 90 ?_;refine pV 9 91 ?_;refine gH 92 false 13 (.slice (some ⟨m,y,none⟩) q a7) ?_;refine gH 92 false 16 (.int .i64 (e:Int)) ?_;refine gW 92 false 11 93 12 94 ?_;refine sG 92 false (fun _ b d _ _ _ l _ _ _ r=>?_) ?_
      · have e9:_=_:=l 13 95 kR rfl;replace d:(Grow) j b:=gD d;obtain ⟨k0,bz,bA,bB,d4,d5,d6,d7⟩:=aR.out b d;go_simp;exact r _ _ bR rfl
      refine sG 92 false (fun b9 b d _ _ dR _ _ _ _ r=>?_) ?_
      · have e3:b9 (.tmp 17)=.pointer (some ⟨a8,0,none⟩):=dR 17 kR;replace d:(Grow) j b:=gD d;obtain ⟨k0,bz,bA,bB⟩:=dh.out b d;go_simp;exact r _ _ bR rfl
      refine sG 92 false (fun _ b d _ _ _ l _ _ _ r=>?_) ?_
      · have ea:_=_:=l 14 96 kR rfl;have eb:_=_:=l 15 97 kR rfl;replace d:(Grow) j b:=gD d;go_simp;refine (dp.out b d).mono ?_;rintro i dZ ⟨rfl,bd⟩;exact r _ _ bd rfl
      refine gV 92 false 16 98 ?_;refine pW 10 92 17 99 ?_;exact aC
    · intro b9 t d l;replace d:(Grow) j t:=gD d;have dw:b9 (.tmp 100)=.bool false:=l 18 100 rfl;simp only [zqq];rw [dw];clear l;have ab:=a4.out.trans (d.mono V.out);obtain ⟨aX,dg,dr,ds,dm,dq⟩:=hqq6 ab (show MdX t u n (txM n L (e+1)) from kg U.out d (Bk.lt U.out)) (W.out.below d) (X.out.below d) (a5.out.below d) (show B<=t.heap.size from zAk V.out d.size);clear ab d U W X a5 a4 V;go_wp2_with fail;go_roundw
      case rel=>exact ⟨e+1,by omega,by go_num,dg.out,dr.out,ds.out,dm.out,aX.out,dq.out⟩
      case measure=>simp [intOf];omega
  · have dJ:e=q:=oM;subst dJ;have ao:=lhd Z;clear Z a9 bs bu a1;go_wp2_with fail;refine (yQ wr).mono ?_;rintro i bE ⟨rfl,ab⟩;have aX:=lhd (ao.out.trans (ab.mono bq));clear ab;go_wp2_with fail;go_ret;exact ⟨rfl,by rw [aS.out];exact aX.out⟩
end Go.Proofs.YtecdldbdednahaaGreatDoor
