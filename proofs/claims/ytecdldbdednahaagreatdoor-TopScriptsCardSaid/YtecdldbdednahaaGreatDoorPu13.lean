/- Lemmas of the walk. Conditions: each its own. -/
import Derived.Test.YtecdldbdednahaaGreatDoorPu11
import Derived.Test.YtecdldbdednahaaGreatDoorProg
import Derived.Test.YtecdldbdednahaaGreatDoorSht
import Derived.Test.YtecdldbdednahaaGreatDoorShl
import Derived.Test.YtecdldbdednahaaGreatDoorShi
import Derived.Test.YtecdldbdednahaaGreatDoorShs
set_option linter.all false
set_option maxRecDepth 100000
set_option maxHeartbeats 1000000
open Go.Proofs.Tryz
namespace Go.Proofs.YtecdldbdednahaaGreatDoor
open Go.RowKit
def aIk:(prog.info? 41).map (fun a=>(a.zero.map (·.cells.size),a.size,a.bytes))=some (some 4,4,64):=by kernel_rfl
def aAA:∃d e,prog.info? 41=some d/\d.zero=some e/\d.size=4/\d.bytes=64/\e.cells.size=4:=by
 have a:=aIk;cases i:prog.info? 41 with
 | none=>rw [i] at a;cases a
 | some d=>
   rw [i] at a;cases f:d.zero with
   | none=>simp [f] at a
   | some e=>
     simp [f] at a;exact ⟨d,e,rfl,f,a.2.1,a.2.2,a.1⟩
def StpsAt.get {w:World} {B:Nat}:∀ {L:List Sp} {xs:List Value} {k:Nat} {s:Sp},StpsAt w B xs L->L[k]?=some s->
 ∃A n c,xs[k*4]?=some (.int .i64 s.kind)/\xs[k*4+1]?=some (.int .i64 s.p)/\xs[k*4+2]?=some (.int .i64 s.k)/\xs[k*4+3]?=some (.slice A n c)/\DataAt w B A n c s.D
 | [],_,k,_,_,f=>by simp at f
 | s0::L,xs,0,s,⟨A,n,c,ys,e,hd,f⟩,hk=>by have C:s0=s:=(by simpa using hk);subst C;exact ⟨A,n,c,by rw [e];rfl,by rw [e];rfl,by rw [e];rfl,by rw [e];rfl,hd⟩
 | s0::L,xs,k+1,s,⟨A,n,c,ys,e,hd,f⟩,hk=>by
   obtain ⟨i,E,j,l,m,o,u,z⟩:=StpsAt.get f (k:=k) (s:=s) (by simpa using hk);have d:∀a,xs[(k+1)*4+a]?=ys[k*4+a]?:=fun a=>by rw [e,show (k+1)*4+a=(k*4+a)+1+1+1+1 by omega];simp
   exact ⟨i,E,j,(d 0).trans l,(d 1).trans m,(d 2).trans o,(d 3).trans u,z⟩
section
variable {w w1 w' : World} {B gs : Nat} {own own' : Nat -> Nat}
def StpZ (w:World) (B:Nat) (own:Nat->Nat) (gs:Nat) (A:Option Addr) (n:Nat) (L:List Sp):Prop:=
 L.length=n/\(0 < n->∃b a,A=some ⟨b,a,none⟩/\b < w.heap.size/\(b < B∨(Ap own gs b/\∃cs f,w.heap[b]?=some (.cells cs 44 f)))/\
    ∀k d,L[k]?=some d->∃A1 e c1,w.cell? ⟨b,a+k*4,none⟩=some (.int .i64 d.kind)/\w.cell? ⟨b,a+k*4+1,none⟩=some (.int .i64 d.p)/\w.cell? ⟨b,a+k*4+2,none⟩=some (.int .i64 d.k)/\w.cell? ⟨b,a+k*4+3,none⟩=some (.slice A1 e c1)/\ArgZ w B own gs A1 e d.D)
def StpZ.step {A n L} (j:StpZ w B own gs A n L) (k:LFS B gs w w' own own'):StpZ w' B own' gs A n L:=by
 refine ⟨j.1,fun m=>?_⟩;obtain ⟨b,G,rfl,f,l,C⟩:=j.2 m;have a:w'.heap[b]?=w.heap[b]?:=by rcases l with q |⟨q,cs,i,d⟩;exact k.keep.block b f (by have I:b < B:=q;omega);exact k.vis.same d (fun e=>e.elim (fun e=>e q.col) q.ne) dC dC
 refine ⟨b,G,rfl,zAl f k.size,?_,fun E H D=>?_⟩;rcases l with q |⟨q,cs,i,d⟩;exact .inl q;exact .inr ⟨q.step k f,cs,i,a.trans d⟩
 · obtain ⟨A1,F,c1,o,p,s,u,z⟩:=C E H D;exact ⟨A1,F,c1,(World.cell?_of_block a).trans o,(World.cell?_of_block a).trans p,(World.cell?_of_block a).trans s,(World.cell?_of_block a).trans u,z.step k⟩
structure AnsK (H:Nat->Prop) (w w':World) (B gs:Nat) (own:Nat->Nat):Prop where
 keep:Keep H w w'
 low:∀b,H b->B<=b
 ap:∀b,H b->Ap own gs b
 ty:∀b,H b->∃cs fr,w.heap[b]?=some (.cells cs 41 fr)
def AnsK.same {e} (k:AnsK e w w' B gs own) {b:Nat} {cs t i} (d:w.heap[b]?=some (.cells cs t i)) (j:t≠41):w'.heap[b]?=w.heap[b]?:=
 k.keep.block b (lt_of_block d) fun f=>by obtain ⟨l,m,a⟩:=k.ty b f;rw [d] at a;injection a with a;injection a with _ a;exact j a
def ArgZ.ans {m A n e} (a:ArgZ w B own gs A n e) (k:AnsK m w w' B gs own):ArgZ w' B own gs A n e:=by
 have G:=k.keep.size;rcases zBa n with d | d;subst d;have:e= []:=(by simpa using a.1.1);subst this;exact ⟨Rd.nil _ _ _ _,fun u=>absurd u oM⟩
 · obtain ⟨b,D,rfl,p,s⟩:=a.1.2 d;have l:w'.heap[b]?=w.heap[b]?:=by
    rcases a.2 d _ rfl with q |⟨q,cs,j,f⟩;exact k.keep.block b p fun o=>by have:=k.low b o;have H:b < B:=q;omega
    exact k.same f dC
   refine ⟨⟨a.1.1,fun _=>⟨b,D,rfl,by omega,fun C E z=>by rw [<-s C E z];exact World.cell?_of_block l⟩⟩,fun _ F i=>?_⟩;injection i with i;subst i;rcases a.2 d _ rfl with q |⟨q,cs,j,f⟩;exact .inl q;exact .inr ⟨q,cs,j,l.trans f⟩
def StpZ.ans {l A n L} (f:StpZ w B own gs A n L) (k:AnsK l w w' B gs own):StpZ w' B own gs A n L:=by
 refine ⟨f.1,fun o=>?_⟩;obtain ⟨b,H,rfl,j,i,D⟩:=f.2 o;have a:w'.heap[b]?=w.heap[b]?:=by
  rcases i with q |⟨q,cs,e,d⟩;exact k.keep.block b j fun m=>by have:=k.low b m;have J:b < B:=q;omega
  exact k.same d dC
 refine ⟨b,H,rfl,zAl j k.keep.size,?_,fun F I E=>?_⟩;rcases i with q |⟨q,cs,e,d⟩;exact .inl q;exact .inr ⟨q,cs,e,a.trans d⟩
 · obtain ⟨A1,G,c1,p,s,u,z,C⟩:=D F I E;exact ⟨A1,G,c1,(World.cell?_of_block a).trans p,(World.cell?_of_block a).trans s,(World.cell?_of_block a).trans u,(World.cell?_of_block a).trans z,C.ans k⟩
def MadeZ.ans {i a A n c xs} (d:MadeZ w own gs a A n c xs) (k:AnsK i w w' B gs own) (l:a≠41):MadeZ w' own gs a A n c xs:=by
 have e:w'.ownsRow 0 a 1 (.slice A n c) n xs:=aA d.1.own fun b cs o f=>(k.same f l).trans f;refine ⟨⟨e,Rd.of_own e,d.1.cap,d.1.max⟩,fun j m=>?_⟩;have:=d.2 j m;exact ⟨zAl this.1 k.keep.size,this.2⟩
def LFS.ans {f} (a:LFS B gs w w1 own own') (k:Keep f w1 w') (i:∀b,f b->w.heap.size<=b/\B<=b):LFS B gs w w' own own':=
 ⟨a.old,⟨k.os.trans a.vis.os,k.tape.trans a.vis.tape,k.output.trans a.vis.output,zAk a.vis.size k.size,fun b d e=>by
  have j:w'.heap[b]?=w1.heap[b]?:=k.block b (zAl d a.vis.size) fun q=>by have:=(i b q).1;omega
  unfold Bk;rw [j];exact a.vis.block b d e⟩,⟨k.os.trans a.keep.os,k.tape.trans a.keep.tape,k.output.trans a.keep.output,zAk a.keep.size k.size,fun b d e=>(k.block b (zAl d a.keep.size) fun q=>by have:=(i b q).1;omega).trans (a.keep.block b d e)⟩⟩
def aEJ {v:Value} (a:w.grownBy w' v.ownBlock):Keep (fun b=>v.ownBlock=some b) w w':=⟨a.os,a.tape,a.output,a.size,fun b e f=>a.block b e fun d=>f d.symm⟩
def ResZ (w:World) (own:Nat->Nat) (gs:Nat) (a:List Value) (k:Nat) (r:Told):Prop:=
 ∃A1 c1 A2 c2,a[k*4]?=some (.int .i64 r.code)/\a[k*4+1]?=some (.int .i64 r.num)/\a[k*4+2]?=some (.slice A1 r.data.length c1)/\a[k*4+3]?=some (.slice A2 r.places.length c2)/\MadeZ w own gs 5 A1 r.data.length c1 (r.data.map bv)/\MadeZ w own gs 3 A2 r.places.length c2 (r.places.map nv)
def ResZ.step {a k r} (d:ResZ w own gs a k r) (q:LFS B gs w w' own own'):ResZ w' own' gs a k r:=by
 obtain ⟨A1,c1,A2,c2,e,f,i,j,l,m⟩:=d;exact ⟨A1,c1,A2,c2,e,f,i,j,l.step q dC dC,m.step q dC dC⟩
def ResZ.ans {d a k r} (e:ResZ w own gs a k r) (q:AnsK d w w' B gs own):ResZ w' own gs a k r:=by
 obtain ⟨A1,c1,A2,c2,f,i,j,l,m,o⟩:=e;exact ⟨A1,c1,A2,c2,f,i,j,l,m.ans q dC,o.ans q dC⟩
def ResZ.more {a i k r} (j:ResZ w own gs a k r):ResZ w own gs (a++i) k r:=by
 obtain ⟨A1,c1,A2,c2,l,m,o,p,s⟩:=j;have q:∀(d:Nat) (e:Value),a[d]?=some e->(a++i)[d]?=some e:=fun d e f=>by rw [zAn (zAc.1 f).1];exact f
 exact ⟨A1,c1,A2,c2,q _ _ l,q _ _ m,q _ _ o,q _ _ p,s⟩
end
def aAM (w:World) (B:Nat) (own:Nat->Nat) (gs most rate:Nat) (T:Nat->List UInt8) (R:Nat->Told) (n:Nat) (d:Ending) (w':World):Prop:=
 ∃v a own' e,d=.returned v/\w'.ownsRow w.heap.size 41 4 v n a/\(∀b,v.ownBlock=some b->Ap own' gs b)/\(∀k,k < n->ResZ w' own' gs a k (R k))/\StAt w' B own' gs e most rate (T n)/\LFS B gs w w' own own'
def aFd (B own gs gl most rate T R A n c L w) (Y:StAt w B own gs gl most rate (T 0)) (ad:StpZ w B own gs A n L) (bI:n<=100000) (ay:∀k e own1 gl1 w1 A1 aV c1,L[k]?=some e->StAt w1 B own1 gs gl1 most rate (T k)->LFS B gs w w1 own own1->ArgZ w1 B own1 gs A1 aV e.D->Calls prog 15 #[gs,.agg #[(e.kind:Int),(e.p:Int),(e.k:Int),.slice A1 aV c1]] w1 (StDone w1 B own1 gs most rate (T (k+1)) (R k))):
 Calls prog 19 #[.func (Fn.func 15) #[gs] #[],.slice A n c] w (aAM w B own gs most rate T R n):=by
 obtain ⟨bz,bC,bq,bt,bu,bw,bx⟩:=aAA;have bG:B<=w.heap.size:=Y.size;obtain ⟨aZ,b3,b2,b1⟩:=hqq4 Y ad ay ad.1;clear Y ad ay;unfold aAM;go_enter func19,ntmps19;go_wp2_with fail;go_loopw [5,10] (fun v l wr=>∃(k:Nat) (f:List Value) (own1:Nat->Nat) (gl1:Nat),k<=n/\l=.int .i64 (k:Int)/\wr.ownsRow w.heap.size 41 4 v k f/\(∀b,v.ownBlock=some b->Ap own1 gs b)/\(∀d,d < k->ResZ wr own1 gs f d (R d))/\StAt wr B own1 gs gl1 most rate (T k)/\LFS B gs w wr own own1) (fun _ l _=>n -(intOf l).toNat)
 case atStart=>exact ⟨0, [],own,gl,by omega,rfl,kj _ _ _ _,fun b a=>(by cases a),fun d O=>absurd O oM,aZ.out,LFS.refl _ _ _ _⟩
 case round=>
  obtain ⟨k,f,own1,gl1,bH,rfl,aa,a1,ac,U,u⟩:=hrel;by_cases bs:k < n
  · obtain ⟨e,ae⟩:∃e,L[k]?=some e:=⟨_,zAa (by rw [b1.out];exact bs)⟩;have aS:=u.size;have aN:=b3.out.step u;obtain ⟨b0,bJ,rfl,bE,_,aw⟩:=aN.2 oM;obtain ⟨J,md,M,an,ao,aq,bl,ax⟩:=aw k e ae;obtain ⟨af,a4⟩:=eqx e.kind;obtain ⟨ah,ab⟩:=eqx e.p;obtain ⟨ag,a8⟩:=eqx e.k;have a3:=b2.out k e own1 gl1;rw [a4,ab,a8] at a3;rw [a4] at an;rw [ab] at ao;rw [a8] at aq;have G:Below wr.heap.size wr (wr.alloc (.cells #[(af:Int),(ah:Int),(ag:Int),.slice J md M] 44)):=bR.alloc nL _;have az:=a3 (wr.alloc (.cells #[(af:Int),(ah:Int),(ag:Int),.slice J md M] 44)) J md M ae (U.vb (kc G)) (u.trans (LFS.of_below B gs own1 G)) (ax.vis G);obtain ⟨aj,am,W,K,ak,al,V,bi⟩:=hqq8 az U aa a1 u ac G aS;clear U aa a1 u ac ax aN aw a3 az ae a4 ab a8 G aS;go_wp2_with fail;refine aj.out.mono ?_;rintro o w1 ⟨A1,c1,A2,c2,own2,gl2,rfl,aO,aC,z,C,aX,aY⟩;obtain ⟨i,a2⟩:=eqx ((R k).code);obtain ⟨m,a9⟩:=eqx ((R k).num);obtain ⟨n1,a6⟩:=eqx ((R k).data.length);obtain ⟨n2,a7⟩:∃bB,(R k).places.length=bB:=⟨_,rfl⟩;unfold gX;rw [a2,a9,a6,a7];have H:=(LFS.of_below B gs own1 V.out).trans aC;have bp:gs < (wr.alloc (.cells #[(af:Int),(ah:Int),(ag:Int),.slice J md M] 44)).heap.size:=by have:=am.out.blk.lt;have:=V.out.size;omega
    have aE:MadeZ w1 own2 gs 5 A1 (R k).data.length c1 ((R k).data.map bv):=⟨⟨bN z.own (zAp _),z.rd,z.cap,z.max⟩,fun F a0=>by
        subst a0;have Z:=z.own.lt (k:=F.block) rfl;exact ⟨Z.2,aX F rfl,by omega⟩⟩
    have aF:MadeZ w1 own2 gs 3 A2 (R k).places.length c2 ((R k).places.map nv):=⟨⟨bN C.own (zAp _),C.rd,C.cap,C.max⟩,fun F a0=>by
        subst a0;have Z:=C.own.lt (k:=F.block) rfl;exact ⟨Z.2,aY F rfl,by omega⟩⟩
    have ar:∀b,u5.ownBlock=some b->Ap own2 gs b:=fun b a=>(K.out b a).step H (W.out.lt b a).2;have aI:=aA W.out fun b cs a bo=>H.bk bo (K.out b a).col (K.out b a).ne dC dC;have N:Below w1.heap.size w1 (w1.alloc (.cells #[(i:Int),(m:Int),.slice A1 n1 c1,.slice A2 n2 c2] 41)):=bR.alloc nL _;have aJ:=aQ aI N;have I:=LFS.of_below B gs own2 N;have aP:=aO.vb (kc N);have a5:=(ak.out.trans H).trans I;have aL:∀d,d < k->ResZ (w1.alloc (.cells #[(i:Int),(m:Int),.slice A1 n1 c1,.slice A2 n2 c2] 41)) own2 gs f d (R d):=fun d O=>((al.out d O).step H).step I;have aG:=aE.step I dC dC;have aH:=aF.step I dC dC;have aT:=a5.size;obtain ⟨E,X,b6,be,ai,b8,b9,bg,b5⟩:=hqq9 aJ aP a5 aL ar aG aH aT a2;obtain ⟨bc,ba,bb⟩:=hqq3 a9 a6 a7;clear aI aJ aO aP H a5 I aC z C aX aY aE aF aG aH ar aL N aT bp a2 a9 a6 a7 am W K ak al V bi aj an ao aq bl;go_wp2_with (at_builtin;refine bF _ rfl (.tmp 14) (.tmp 18) _ rfl w.heap.size 41 bz bC 4 64 underlying33 bq bt bu bw bx dC u5 k _ rfl E.out _ _ 1 1 _ rfl (wZ (ke w1 41 #[(i:Int),(m:Int),.slice A1 n1 c1,.slice A2 n2 c2]) rfl) (by simp [Value.oneCell']) (by unfold maxLen;omega) oM bg.out ?_;intro bA aW aK aB av);have S:=aEJ aB
    have s:AnsK (fun b=>u5.ownBlock=some b) (w1.alloc (.cells #[(i:Int),(m:Int),.slice A1 n1 c1,.slice A2 n2 c2] 41)) aW B gs own2:=by
        refine ⟨S,fun b a=>?_,ai.out,fun b a=>?_⟩;have:=(E.out.lt b a).1;omega
        · rcases E.out.2 with ⟨q,_⟩|⟨g,bD,bj,bm,_,bn,_⟩
          · have j:u5.ownBlock=some b:=a;rw [q] at j;cases j
          have j:u5.ownBlock=some b:=a;rw [bm] at j;injection j with j;subst j;exact ⟨bj,_,bn⟩
    have aR:=X.out.far S s.ap;have aD:=b6.out.ans S fun b a=>⟨(E.out.lt b a).1,s.low b a⟩;have aU:f.length=k*4:=E.out.1;have au:∀b,bA.ownBlock=some b->Ap own2 gs b:=fun b a=>by rcases av with o | o;rw [o] at a;exact ai.out b a;rw [o] at a;injection a with a;subst a;exact ⟨X.out.fresh nL,by have:=X.out.blk.lt;omega⟩
    have aM:∀d,d < k+1->ResZ aW own2 gs (f++#[Value.int .i64 i,(m:Int),.slice A1 n1 c1,.slice A2 n2 c2].toList) d (R d):=fun d O=>by
        by_cases o:d=k
        · subst o;have q:∀l,(f++#[Value.int .i64 i,(m:Int),.slice A1 n1 c1,.slice A2 n2 c2].toList)[d*4+l]?= [Value.int .i64 i,.int .i64 m,.slice A1 n1 c1,.slice A2 n2 c2][l]?:=fun l=>by rw [zAo oM,aU,Nat.add_sub_cancel_left]
          refine ⟨A1,c1,A2,c2,?_,?_,?_,?_,b8.out.ans s dC,b9.out.ans s dC⟩;rw [b5.out];exact q 0;rw [bc.out];exact q 1;rw [ba.out];exact q 2;rw [bb.out];exact q 3
        exact ((be.out d oM).ans s).more
    obtain ⟨bh,b7,b4,bf,bd⟩:=hqq5 aR aD au aM aK;clear aR aD au aM aK S s aU aB av;go_roundw
    case rel=>exact ⟨k+1,_,own2,gl2,by omega,by go_num,bd.out,b4.out,bf.out,bh.out,b7.out⟩
    case measure=>simp [intOf];omega
  · have br:k=n:=oM;subst br;go_wp2_with fail;go_ret;exact ⟨_,f,own1,gl1,rfl,aa,a1,ac,U,u⟩
def uF (B own gs gl most rate T R A n c L w) (e:StAt w B own gs gl most rate (T 0)) (i:StpZ w B own gs A n L) (C:n<=100000) (f:∀k a own1 gl1 w1 A1 l c1,L[k]?=some a->StAt w1 B own1 gs gl1 most rate (T k)->LFS B gs w w1 own own1->ArgZ w1 B own1 gs A1 l a.D->Calls prog 15 #[gs,.agg #[(a.kind:Int),(a.p:Int),(a.k:Int),.slice A1 l c1]] w1 (StDone w1 B own1 gs most rate (T (k+1)) (R k))):
 Calls prog 9 #[gs,.slice A n c] w (aAM w B own gs most rate T R n):=by
 have j:=aFd B own gs gl most rate T R A n c L w e i C f;have d:=lhd j;clear e i f j;unfold aAM at d⊢;go_enter func9,ntmps9;go_wp2_with fail;refine d.out.mono ?_;rintro F w1 ⟨v,E,own1,gl1,rfl,m,o,s,u,z⟩;go_wp2_with fail;go_ret;exact ⟨v,E,own1,gl1,rfl,m,o,s,u,z⟩
structure MdAt (w:World) (g gp:Nat) (most:Int) (T:List UInt8):Prop where
 mod:Bk w g 57 #[gp,(most:Int)]
 pl:PlS w gp T
 b0:0<=most
 b1:most<=2147483648
section
variable {w w1 w' : World} {B g gp sz n c : Nat} {most : Int} {T : List UInt8} {A : Option Addr} {xs : List Value}
def MdAt.ne (a:MdAt w g gp most T):g≠gp:=by
 obtain ⟨A,c,d,_⟩:=a.pl;exact Bk.ne a.mod d dC
def MdAt.lt (a:MdAt w g gp most T):gp < w.heap.size:=by
 obtain ⟨A,c,d,_⟩:=a.pl;exact d.lt
def MdAt.keep (l:MdAt w g gp most T) (D:w.heap.size<=w'.heap.size) (k:∀b t cs,t≠41->Bk w b t cs->Bk w' b t cs):MdAt w' g gp most T:=by
 obtain ⟨m,⟨A,c,o,i,p,e⟩,s,u⟩:=l;refine ⟨k _ _ _ dC m,⟨A,c,k _ _ _ dC o,?_,p,fun a f j=>⟨(e a f j).1,by obtain ⟨cs,d⟩:=(e a f j).2;exact ⟨cs,k _ _ _ dC d⟩⟩⟩,s,u⟩;refine ⟨i.1,fun a=>?_⟩;obtain ⟨b,H,rfl,z,C⟩:=i.2 a;obtain ⟨cs,d⟩:=(e a _ rfl).2;have E:w'.heap[b]?=w.heap[b]?:=(k _ _ _ dC d).trans (Eq.symm d);exact ⟨b,H,rfl,zAl z D,fun G I F=>by rw [<-C G I F];exact World.cell?_of_block E⟩
def MdAt.below (d:MdAt w g gp most T) (k:Below w.heap.size w w'):MdAt w' g gp most T:=d.keep k.size fun b t cs _ a=>a.below k a.lt
structure KM (B:Nat) (w w':World):Prop where
 low:Below B w w'
 sz:w.heap.size<=w'.heap.size
 bk:∀b t cs,t≠55->t≠41->Bk w b t cs->Bk w' b t cs
def KM.refl (B w):KM B w w:=⟨kh _ _,zAs _,fun _ _ _ _ _ a=>a⟩
def KM.trans (a:KM B w w1) (k:KM B w1 w'):KM B w w':=⟨a.low.trans k.low,zAk a.sz k.sz,fun b t cs d e f=>k.bk b t cs d e (a.bk b t cs d e f)⟩
def KM.of_below (k:Below w.heap.size w w') (d:B<=w.heap.size):KM B w w':=⟨k.mono d,k.size,fun b t cs _ _ a=>a.below k a.lt⟩
def RdM (w:World) (B sz:Nat) (A:Option Addr) (n:Nat) (xs:List Value):Prop:=Rd w w.heap.size sz A n xs/\(0 < n->∀a,A=some a->a.block < B∨∃t cs,t≠55/\t≠41/\Bk w a.block t cs)
def RdM.step (a:RdM w B sz A n xs) (k:KM B w w'):RdM w' B sz A n xs:=by
 rcases zBa n with d | d;subst d;have:xs= []:=(by simpa using a.1.1);subst this;exact ⟨Rd.nil _ _ _ _,fun p=>absurd p oM⟩;obtain ⟨b,C,rfl,m,o⟩:=a.1.2 d;have l:=a.2 d _ rfl;have s:w'.heap[b]?=w.heap[b]?:=(by rcases l with q |⟨t,cs,e,f,i⟩;exact k.low.block b q;exact (k.bk _ _ _ e f i).trans (Eq.symm i));refine ⟨⟨a.1.1,fun _=>⟨b,C,rfl,zAl m k.sz,fun z D u=>by rw [<-o z D u];exact World.cell?_of_block s⟩⟩,fun _ E j=>?_⟩;injection j with j;subst j;rcases l with q |⟨t,cs,e,f,i⟩;exact .inl q;exact .inr ⟨t,cs,e,f,k.bk _ _ _ e f i⟩
end
section
variable {w w' : World} {B gs g gp : Nat} {own own' : Nat -> Nat} {most : Int}
end
def StpM (w:World) (B:Nat) (A:Option Addr) (n:Nat) (L:List Sp):Prop:=
 L.length=n/\(0 < n->∃b a,A=some ⟨b,a,none⟩/\b < w.heap.size/\(b < B∨∃t cs,t≠55/\t≠41/\Bk w b t cs)/\∀k d,L[k]?=some d->∃e md f,w.cell? ⟨b,a+k*4,none⟩=some (.int .i64 d.kind)/\w.cell? ⟨b,a+k*4+1,none⟩=some (.int .i64 d.p)/\w.cell? ⟨b,a+k*4+2,none⟩=some (.int .i64 d.k)/\w.cell? ⟨b,a+k*4+3,none⟩=some (.slice e md f)/\RdM w B 1 e md (d.D.map bv))
def StpM.step {w w' B n A L} (j:StpM w B A n L) (k:KM B w w'):StpM w' B A n L:=by
 refine ⟨j.1,fun C=>?_⟩;obtain ⟨b,I,rfl,D,l,E⟩:=j.2 C;have H:w'.heap[b]?=w.heap[b]?:=by rcases l with q |⟨t,cs,a,d,e⟩;exact k.low.block b q;exact (k.bk _ _ _ a d e).trans (Eq.symm e)
 have f:∀i,w'.cell? ⟨b,i,none⟩=w.cell? ⟨b,i,none⟩:=fun i=>World.cell?_of_block H;refine ⟨b,I,rfl,zAl D k.sz,?_,fun q J G=>?_⟩;rcases l with q |⟨t,cs,a,d,e⟩;exact .inl q;exact .inr ⟨t,cs,a,d,k.bk _ _ _ a d e⟩;obtain ⟨m,md,o,p,s,u,z,F⟩:=E q J G;exact ⟨m,md,o,(f _).trans p,(f _).trans s,(f _).trans u,(f _).trans z,F.step k⟩
structure SpB (s:Sp):Prop where
 pb:-9223372036854775808<=s.p/\s.p<=9223372036854775807
 kb:-9223372036854775808<=s.k/\s.k<=9223372036854775807
 db:s.D.length<=549755813888
def ResM (w:World) (b0:Nat) (a:List Value) (k:Nat) (r:Told):Prop:=
 ∃A1 c1 A2 c2,a[k*4]?=some (.int .i64 r.code)/\a[k*4+1]?=some (.int .i64 r.num)/\a[k*4+2]?=some (.slice A1 r.data.length c1)/\a[k*4+3]?=some (.slice A2 r.places.length c2)/\Made w b0 5 1 A1 r.data.length c1 (r.data.map bv)/\Made w b0 3 1 A2 r.places.length c2 (r.places.map nv)
def Made.same {w w' b n c a A xs} (d:Made w b a 1 A n c xs) (k:∀g cs,b<=g->Bk w g a cs->Bk w' g a cs):Made w' b a 1 A n c xs:=by
 have e:w'.ownsRow b a 1 (.slice A n c) n xs:=aA d.own fun g cs i f=>k g cs (d.own.lt g i).1 f;exact ⟨e,Rd.of_own e,d.cap,d.max⟩
def ResM.same {w w' b0 e k r} (f:ResM w b0 e k r) (q:∀g t cs,b0<=g->t=5∨t=3->Bk w g t cs->Bk w' g t cs):ResM w' b0 e k r:=by
 obtain ⟨A1,c1,A2,c2,i,j,l,m,o,p⟩:=f;exact ⟨A1,c1,A2,c2,i,j,l,m,o.same fun g cs d a=>q g _ cs d (.inl rfl) a,p.same fun g cs d a=>q g _ cs d (.inr rfl) a⟩
def ResM.more {w b0 a i k r} (j:ResM w b0 a k r):ResM w b0 (a++i) k r:=by
 obtain ⟨A1,c1,A2,c2,l,m,o,p,s⟩:=j;have q:∀(d:Nat) (e:Value),a[d]?=some e->(a++i)[d]?=some e:=fun d e f=>by rw [zAn (zAc.1 f).1];exact f
 exact ⟨A1,c1,A2,c2,q _ _ l,q _ _ m,q _ _ o,q _ _ p,s⟩
def txM (most:Int) (L:List Sp):Nat->List UInt8
 | 0=> []
 | k+1=>match L[k]? with
   | some a=>(doM (txM most L k) most a.kind a.p a.k a.D).1
   | none=>txM most L k
def anM (most:Int) (L:List Sp) (k:Nat):Told:=match L[k]? with
 | some a=>(doM (txM most L k) most a.kind a.p a.k a.D).2
 | none=>⟨0,0, [], []⟩
def aCh {most L k a} (d:L[k]?=some a):doM (txM most L k) most a.kind a.p a.k a.D=(txM most L (k+1),anM most L k):=by
 simp only [txM,anM,d]
def aLH (t q):∀d∈lA t q,SpB d/\d.D.length<=4:=by
 intro d e;unfold lA at e;obtain ⟨a,_,rfl⟩:=zAy.1 e;have i:=aLI (t.getD (3*a) 0) (t.getD (3*a+1) 0);have j:=aLJ (t.getD (3*a) 0) (t.getD (3*a+2) 0);have f:=aJP (t.getD (3*a) 0) (t.getD (3*a+1) 0) (t.getD (3*a+2) 0);unfold aGi aEd;refine ⟨⟨?_,?_,?_⟩,f⟩;show -9223372036854775808<=spP _ _/\spP _ _<=9223372036854775807;omega;show -9223372036854775808<=spN _ _/\spN _ _<=9223372036854775807;omega;show (spD _ _ _).length<=549755813888;omega
section
variable {w w' : World} {b0 B gs n q : Nat} {own : Nat -> Nat} {v : Value} {R : Nat -> Told} {L : List Sp}
def AnsAt (w:World) (b0:Nat) (v:Value) (n:Nat) (R:Nat->Told):Prop:=∃a,w.ownsRow b0 41 4 v n a/\∀k,k < n->ResM w b0 a k (R k)
def AnsAt.same (f:AnsAt w b0 v n R) (k:∀g t cs,b0<=g->t=41∨t=5∨t=3->Bk w g t cs->Bk w' g t cs):AnsAt w' b0 v n R:=by
 obtain ⟨o,e,i⟩:=f;exact ⟨o,aA e fun g cs d a=>k g _ cs (e.lt g d).1 (.inl rfl) a,fun m j=>(i m j).same fun g t cs d l a=>k g t cs d (.inr l) a⟩
def AnsAt.below (d:AnsAt w b0 v n R) (k:Below w.heap.size w w'):AnsAt w' b0 v n R:=d.same fun g t cs _ _ a=>a.below k a.lt
def AnsAt.keep {gx a cs0} (e:AnsAt w b0 v n R) (k:Keep (fun b=>b=gx) w w') (hx:Bk w gx a cs0) (i:41≠a) (j:5≠a) (l:3≠a):AnsAt w' b0 v n R:=
 e.same fun g t cs _ f d=>k.bk d (Bk.ne d hx (by rcases f with rfl | rfl | rfl <;> assumption))
def AnsAt.slice (e:AnsAt w b0 v n R):∃A c,v=.slice A n c/\n<=c/\c<=maxLen:=by
 obtain ⟨i,f,_⟩:=e;obtain ⟨A,c,d,a⟩:=aS f;exact ⟨A,c,d,a.cap,a.max⟩
def AnsAt.get {A c} (e:AnsAt w b0 (.slice A n c) n R) (m:0 < n):∃g a,A=some ⟨g,a,none⟩/\g < w.heap.size/\∀k,k < n->∃A1 c1 A2 c2,w.cell? ⟨g,a+k*4,none⟩=some (.int .i64 (R k).code)/\w.cell? ⟨g,a+k*4+1,none⟩=some (.int .i64 (R k).num)/\w.cell? ⟨g,a+k*4+2,none⟩=some (.slice A1 (R k).data.length c1)/\w.cell? ⟨g,a+k*4+3,none⟩=some (.slice A2 (R k).places.length c2)/\Made w b0 5 1 A1 (R k).data.length c1 ((R k).data.map bv)/\Made w b0 3 1 A2 (R k).places.length c2 ((R k).places.map nv):=by
 obtain ⟨D,f,i⟩:=e;obtain ⟨g,a,rfl,j,d⟩:=(Rd.of_own f).2 m;refine ⟨g,a,rfl,j,fun k l=>?_⟩;obtain ⟨A1,c1,A2,c2,s,u,z,C,o,p⟩:=i k l;exact ⟨A1,c1,A2,c2,d _ _ s,d _ _ u,d _ _ z,d _ _ C,o,p⟩
def StpR (w:World) (b0:Nat) (v:Value) (q:Nat) (L:List Sp):Prop:=∃xs,w.ownsRow b0 44 4 v q xs/\StpsAt w b0 xs L
def StpR.same (f:StpR w b0 v q L) (k:∀g t cs,b0<=g->t=44∨t=5->Bk w g t cs->Bk w' g t cs):StpR w' b0 v q L:=by
 obtain ⟨xs,e,i⟩:=f;exact ⟨xs,aA e fun g cs d a=>k g _ cs (e.lt g d).1 (.inl rfl) a,i.keep fun g cs d a=>k g _ cs d (.inr rfl) a⟩
def StpR.below (d:StpR w b0 v q L) (k:Below w.heap.size w w'):StpR w' b0 v q L:=d.same fun g t cs _ _ a=>a.below k a.lt
def StpR.keep {gx a cs0} (e:StpR w b0 v q L) (k:Keep (fun b=>b=gx) w w') (hx:Bk w gx a cs0) (i:44≠a) (j:5≠a):StpR w' b0 v q L:=
 e.same fun g t cs _ f d=>k.bk d (Bk.ne d hx (by rcases f with rfl | rfl <;> assumption))
def StpR.slice (e:StpR w b0 v q L):∃A c,v=.slice A q c/\q<=c/\c<=maxLen:=by
 obtain ⟨i,f,_⟩:=e;obtain ⟨A,c,d,a⟩:=aS f;exact ⟨A,c,d,a.cap,a.max⟩
def StpR.row {A c} (m:StpR w b0 (.slice A q c) q L) (E:0 < q):∃g cs,A=some ⟨g,0,none⟩/\b0<=g/\g < w.heap.size/\Bk w g 44 cs/\∀k d,L[k]?=some d->∃A1 f c1,w.cell? ⟨g,0+k*4,none⟩=some (.int .i64 d.kind)/\w.cell? ⟨g,0+k*4+1,none⟩=some (.int .i64 d.p)/\w.cell? ⟨g,0+k*4+2,none⟩=some (.int .i64 d.k)/\w.cell? ⟨g,0+k*4+3,none⟩=some (.slice A1 f c1)/\DataAt w b0 A1 f c1 d.D:=by
 obtain ⟨xs,i,o⟩:=m;obtain ⟨g,M,l,C,e⟩:=(Rd.of_own i).2 E;subst l;rcases i.2 with ⟨a,_⟩|⟨g',K,j,a,s,u,_⟩
 · cases a
 injection a with a _ _;injection a with a;injection a with a e2 _;subst a e2;refine ⟨g,j,rfl,s,C,u,fun k d F=>?_⟩;obtain ⟨A1,f,c1,G,H,I,J,z⟩:=o.get F;exact ⟨A1,f,c1,e _ _ G,e _ _ H,e _ _ I,e _ _ J,z⟩
def StpR.get {A c} (f:StpR w b0 (.slice A q c) q L) (l:0 < q):∃g a,A=some ⟨g,a,none⟩/\g < w.heap.size/\∀k s,L[k]?=some s->∃A1 d c1,w.cell? ⟨g,a+k*4,none⟩=some (.int .i64 s.kind)/\w.cell? ⟨g,a+k*4+1,none⟩=some (.int .i64 s.p)/\w.cell? ⟨g,a+k*4+2,none⟩=some (.int .i64 s.k)/\w.cell? ⟨g,a+k*4+3,none⟩=some (.slice A1 d c1)/\DataAt w b0 A1 d c1 s.D:=by
 obtain ⟨g,cs,e,_,j,_,i⟩:=f.row l;exact ⟨g,0,e,j,i⟩
def DataAt.argZ {A i c d} (f:DataAt w b0 A i c d) (j:∀b,b0<=b->Ap own gs b):ArgZ w B own gs A i d:=
 ⟨f.rd,fun s o a=>by
  obtain ⟨_,_,_,⟨e,p,_⟩|⟨g,cs,e,m,l,_⟩⟩:=f;omega
  · rw [e] at a;injection a with a;subst a;exact .inr ⟨j g m,cs,_,l⟩⟩
def StpR.stpZ {A c} (e:StpR w b0 (.slice A q c) q L) (f:L.length=q) (a:∀b,b0<=b->Ap own gs b):StpZ w B own gs A q L:=
 ⟨f,fun p=>by
  obtain ⟨g,cs,d,m,o,i,j⟩:=e.row p;refine ⟨g,0,d,o,.inr ⟨a g m,cs,_,i⟩,fun k z s=>?_⟩;obtain ⟨A1,u,c1,C,D,E,F,l⟩:=j k z s;exact ⟨A1,u,c1,C,D,E,F,l.argZ a⟩⟩
end
def AnsAt.mono {w b0 b1 n v R} (d:AnsAt w b0 v n R) (a:b1<=b0):AnsAt w b1 v n R:=by
 obtain ⟨u,e,f⟩:=d;refine ⟨u,bN e a,fun k i=>?_⟩;obtain ⟨A1,c1,A2,c2,m,o,p,s,j,l⟩:=f k i;exact ⟨A1,c1,A2,c2,m,o,p,s,j.mono a,l.mono a⟩
section
variable {w w' : World} {B g : Nat} {own : Nat -> Nat} {cs0 : Array Value}
def WaveE.farT {f L} (a:WaveE w B own f L) (k:Keep (fun b=>b=g) w w') (d:Bk w g 41 cs0):WaveE w' B own f L:=by
 obtain ⟨l,v,a⟩:=a;refine ⟨l,v,k.bk a.blk (Bk.ne a.blk d dC),a.base,fun D z=>?_,fun b d=>⟨(a.bnd b d).1,zAl (a.bnd b d).2 k.size⟩⟩;obtain ⟨j,p,s,u⟩:=a.rows D z;exact ⟨j,aA p fun b cs _ e=>k.bk e (Bk.ne e d dC),s,fun E C=>(u E C).keep k fun b t cs i e _ m=>by
  have o:b=g:=m;subst o;rw [(aP e d).1] at i;exact absurd i dC⟩
def WalkE.farT {gk L T} (i:WalkE w B own gk L T) (k:Keep (fun b=>b=g) w w') (a:Bk w g 41 cs0):WalkE w' B own gk L T:=by
 obtain ⟨f,gt,d,j,l,e,m⟩:=i;exact ⟨f,gt,k.bk d (Bk.ne d a dC),j,l.farT k a,k.bk e (Bk.ne e a dC),m⟩
def PermE.farT {f gp R P i} (p:PermE w f gp R P i) (k:Keep (fun b=>b=g) w w') (e:Bk w g 41 cs0):PermE w' f gp R P i:=by
 obtain ⟨⟨o,E,F,G,D,z,j,C,m,hx,l⟩,s,u⟩:=p;have a:=hx.at_;exact ⟨⟨o,E,F,G,D,z,j,C,m,⟨⟨k.bk a.blk (Bk.ne a.blk e dC),aA a.lrow fun b cs _ d=>k.bk d (Bk.ne d e dC),aA a.orow fun b cs _ d=>k.bk d (Bk.ne d e dC),k.bk a.ar (Bk.ne a.ar e dC),aA a.trow fun b cs _ d=>k.bk d (Bk.ne d e dC),aA a.frow fun b cs _ d=>k.bk d (Bk.ne d e dC),a.apart,a.lt,a.lo⟩,hx.fp,hx.fa,hx.fl,hx.fo,hx.ft,hx.ff,hx.nd,hx.tkl,hx.tkk,hx.frn,hx.frk,hx.sz⟩,l⟩,s,u⟩
def LiveE.farT {gl rate t} (e:LiveE w B own gl t rate) (k:Keep (fun b=>b=g) w w') (d:Bk w g 41 cs0):LiveE w' B own gl t rate:=by
 obtain ⟨gk,gp,m,T,p,o,⟨f,a,i,j⟩,l⟩:=e;exact ⟨gk,gp,m,T,p,o,⟨f,⟨k.bk a.blk (Bk.ne a.blk d dC),a.col,a.walk.farT k d,a.perm.farT k d⟩,i,j⟩,l⟩
def StAt.farT {gs gl most rate t} (a:StAt w B own gs gl most rate t) (k:Keep (fun b=>b=g) w w') (d:Bk w g 41 cs0):StAt w' B own gs gl most rate t:=
 ⟨k.bk a.blk (Bk.ne a.blk d dC),a.low,a.col,a.live.farT k d,a.n127,a.len,a.max,a.r1,a.r2⟩
end
section
variable {P : Program} {ops : Array Oper} {Q : Exit -> Act -> World -> Prop} {md : Region.Mode}
end
section
variable {w w' : World} {B gs gs1 gs2 gl1 gl2 most rate : Nat} {own own' own1 own2 own2' : Nat -> Nat} {T T2 : List UInt8} {r : Told} {v : Value}
def DoS (B gs:Nat) (own:Nat->Nat) (most rate:Nat) (T2:List UInt8) (w w':World):Prop:=∃own' a,StAt w' B own' gs a most rate T2/\LFS B gs w w' own own'
def ResD (w:World) (own:Nat->Nat) (gs:Nat) (r:Told) (v:Value):Prop:=∃A1 c1 A2 c2,v=.agg (gX r A1 c1 A2 c2)/\MadeZ w own gs 5 A1 r.data.length c1 (r.data.map bv)/\MadeZ w own gs 3 A2 r.places.length c2 (r.places.map nv)
def MadeZ.stepC {a A n c xs} (d:MadeZ w own gs a A n c xs) (k:LFS B gs w w' own own') (i:a≠226) (j:a≠180):MadeZ w' own gs a A n c xs:=⟨(d.step k i j).1,fun e f=>⟨zAl (d.2 e f).1 k.size,(d.2 e f).2⟩⟩
def ResD.step (a:ResD w own gs r v) (k:LFS B gs w w' own own'):ResD w' own gs r v:=by
 obtain ⟨A1,c1,A2,c2,rfl,d,e⟩:=a;exact ⟨A1,c1,A2,c2,rfl,d.stepC k dC dC,e.stepC k dC dC⟩
def ResD.below (a:ResD w own gs r v) (k:Below w.heap.size w w'):ResD w' own gs r v:=a.step (LFS.of_below 0 gs own k)
def OneDone (w:World) (B gs1 gs2:Nat) (own2:Nat->Nat) (most rate:Nat) (T2:List UInt8) (r:Told) (v:Value):Prop:=∃a d,StAt w B a gs1 d most rate T2/\Two a gs1 own2 gs2/\ResD w own2 gs2 r v
def BothDone (w:World) (B gs1 gs2 most rate:Nat) (T2:List UInt8) (r:Told) (v:Value):Prop:=∃a d own2' e,StAt w B a gs1 d most rate T2/\StAt w B own2' gs2 e most rate T2/\Two a gs1 own2' gs2/\∃A1 c1 A2 c2,v=.agg (gX r A1 c1 A2 c2)/\Made w 0 5 1 A1 r.data.length c1 (r.data.map bv)/\Made w 0 3 1 A2 r.places.length c2 (r.places.map nv)
def OneDone.below (d:OneDone w B gs1 gs2 own2 most rate T2 r v) (k:Below w.heap.size w w'):OneDone w' B gs1 gs2 own2 most rate T2 r v:=by
 obtain ⟨j,a,e,f,i⟩:=d;exact ⟨j,a,e.vb (kc k),f,i.below k⟩
def BothDone.below (e:BothDone w B gs1 gs2 most rate T2 r v) (k:Below w.heap.size w w'):BothDone w' B gs1 gs2 most rate T2 r v:=by
 obtain ⟨o,a,own2',d,f,i,j,A1,c1,A2,c2,rfl,l,m⟩:=e;exact ⟨o,a,own2',d,f.vb (kc k),i.vb (kc k),j,A1,c1,A2,c2,rfl,l.below k,m.below k⟩
def aLQ (d e B gs1 gs2:Nat) (own1 own2:Nat->Nat) (most rate:Nat) (T2:List UInt8) (a:Nat) (w w':World):Prop:=(a=d->DoS B gs1 own1 most rate T2 w w')/\(a=e->DoS B gs2 own2 most rate T2 w w')/\(a≠d->a≠e->Below w.heap.size w w')
def DuoC (a:World) (B gt:Nat) (cs:Array Value) (w:World):Prop:=Bk w gt 44 cs/\Below B a w/\B<=w.heap.size
def DuoU (d e B gs1 gl1 gs2 gl2:Nat) (own1 own2:Nat->Nat) (most rate:Nat) (T:List UInt8) (a:Nat) (w:World):Prop:=(a=d->StAt w B own1 gs1 gl1 most rate T/\StAt w B own2 gs2 gl2 most rate T)/\(a=e->StAt w B own2 gs2 gl2 most rate T)
def DuoC.step {l gt j p s cs} (z:DuoC l B gt cs w) (k:aLQ p s B gs1 gs2 own1 own2 most rate T2 j w w') (m:Ap own1 gs1 gt) (o:Ap own2 gs2 gt):DuoC l B gt cs w':=by
 obtain ⟨e,f,d⟩:=z;by_cases c1:j=p;obtain ⟨own',u,_,a⟩:=k.1 c1;exact ⟨a.bk e m.col m.ne dC dC,f.trans (a.below d),zAk d a.size⟩;by_cases c2:j=s;obtain ⟨own',u,_,a⟩:=k.2.1 c2;exact ⟨a.bk e o.col o.ne dC dC,f.trans (a.below d),zAk d a.size⟩;have i:=k.2.2 c1 c2;exact ⟨e.below i e.lt,f.trans (i.mono d),zAk d i.size⟩
def fG (w B):Below B w w.drew:=⟨rfl,rfl,rfl,zAs _,fun _ _=>rfl⟩
def DuoC.drew {d gt cs} (a:DuoC d B gt cs w):DuoC d B gt cs w.drew:=⟨a.1,a.2.1.trans (fG w B),a.2.2⟩
def DuoU.drew {e f i} (d:DuoU f i B gs1 gl1 gs2 gl2 own1 own2 most rate T e w):DuoU f i B gs1 gl1 gs2 gl2 own1 own2 most rate T e w.drew:=⟨fun a=>⟨(d.1 a).1.vb (kc (fG _ _)),(d.1 a).2.vb (kc (fG _ _))⟩,fun a=>(d.2 a).vb (kc (fG _ _))⟩
def DuoU.step {j e f i} (l:DuoU f i B gs1 gl1 gs2 gl2 own1 own2 most rate T j w) (k:aLQ f i B gs1 gs2 own1 own2 most rate T2 e w w') (C:Two own1 gs1 own2 gs2) (u:j≠e) (o:e≠i):DuoU f i B gs1 gl1 gs2 gl2 own1 own2 most rate T j w':=by
 refine ⟨fun a=>?_,fun a=>?_⟩;have m:=k.2.2 (fun p=>u (a.trans p.symm)) o;obtain ⟨s,d⟩:=l.1 a;exact ⟨s.vb (kc m),d.vb (kc m)⟩;have d:=l.2 a;by_cases c1:e=f;obtain ⟨own',D,_,z⟩:=k.1 c1;exact (d.other z C).1;exact d.vb (kc (k.2.2 c1 o))
end
def aFQ {d a k} (f:¬dL d a k=false):0<=a/\0<=k/\a+k<=(d:Int):=by
 cases e:dL d a k with
 | false=>exact absurd e f
 | true=>
   obtain ⟨i,b,rfl,rfl,j⟩:=fS e;omega
def aI6 (T u) (most:Nat) (d z k:Int) (a:T.length<=most):(doM T (most:Int) d z k u).1.length<=most:=by
 unfold doM;by_cases f:d=1
 · rw [zBx f];split;exact a
   · split;exact a
     · rename_i e C
       have:=aFQ e;simp only [zAi,zAj,zAw];omega
 rw [zBw f];by_cases i:d=2;rw [zBx i];split;exact a;simp only [zAi,zAj,zAw];omega;rw [zBw i];by_cases m:d=5
 · rw [zBx m];split <;> exact a
 rw [zBw m];by_cases j:d=3
 · rw [zBx j];split;exact a
   · rename_i e
     have:=aFQ e;simp only [zAi,zAj,zAw];omega
 rw [zBw j];by_cases l:d=4;rw [zBx l];exact a;rw [zBw l];by_cases o:d=6;rw [zBx o];exact a;rw [zBw o];by_cases p:d=7;rw [zBx p];exact a;rw [zBw p];by_cases s:d=8;rw [zBx s];exact a;rw [zBw s];exact a
section
variable {P : Program} {ops : Array Oper} {Q : Exit -> Act -> World -> Prop} {md : Region.Mode}
end
section
variable {w w' : World} {v : Value}
def fresh (N0:Nat) (t:TypeId) (cs:Array Value):Value->World->Prop:=fun v w=>∃g,v=.pointer (some ⟨g,0,none⟩)/\N0<=g/\Bk w g t cs
def aLT:Array Value:=#[.int .i64 0,.int .i64 0,.slice none 0 0,.slice none 0 0]
variable {B gs gl gx gt N0 most rate : Nat} {own own' : Nat -> Nat} {T T2 : List UInt8} {r : Told}
def MdX (w:World) (gx most:Nat) (T:List UInt8):Prop:=Bk w gx 38 #[.string ⟨T.toArray⟩,(most:Int)]
def PyA (B gs gx N0 most rate:Nat) (T2:List UInt8) (r:Told) (v:Value) (w:World):Prop:=∃own1 gl1,StAt w B own1 gs gl1 most rate T2/\Ap own1 gs gx/\∃A1 c1 A2 c2,v=.agg (gX r A1 c1 A2 c2)/\Made w N0 5 1 A1 r.data.length c1 (r.data.map bv)/\Made w N0 3 1 A2 r.places.length c2 (r.places.map nv)
def PyA.below (a:PyA B gs gx N0 most rate T2 r v w) (k:Below w.heap.size w w'):PyA B gs gx N0 most rate T2 r v w':=by
 obtain ⟨own1,gl1,d,e,A1,c1,A2,c2,f,i,j⟩:=a;exact ⟨own1,gl1,d.vb (kc k),e,A1,c1,A2,c2,f,i.below k,j.below k⟩
def PyA.keep (f:PyA B gs gx N0 most rate T2 r v w) (k:Keep (fun b=>b=gx) w w') (hx:gx < N0):PyA B gs gx N0 most rate T2 r v w':=by
 obtain ⟨own1,gl1,i,e,A1,c1,A2,c2,j,l,m⟩:=f;exact ⟨own1,gl1,i.far k (fun b a=>by have d:b=gx:=a;rw [d];exact e),e,A1,c1,A2,c2,j,l.keepF k (fun b a=>by have d:b=gx:=a;omega),m.keepF k (fun b a=>by have d:b=gx:=a;omega)⟩
def PyB (gx N0 most:Nat) (T2:List UInt8) (r:Told) (v:Value) (w:World):Prop:=∃A1 c1 A2 c2,v=.agg (gX r A1 c1 A2 c2)/\RdN w N0 1 A1 r.data.length (r.data.map bv)/\Made w N0 3 1 A2 r.places.length c2 (r.places.map nv)/\MdX w gx most T2
def PyB.below (d:PyB gx N0 most T2 r v w) (k:Below w.heap.size w w'):PyB gx N0 most T2 r v w':=by
 obtain ⟨A1,c1,A2,c2,e,f,i,a⟩:=d;exact ⟨A1,c1,A2,c2,e,f.below k,i.below k,kg a k (Bk.lt a)⟩
def PyS (d e B gs gx:Nat) (own:Nat->Nat) (most rate:Nat) (T2:List UInt8) (a:Nat) (w w':World):Prop:=(a=d->DoS B gs own most rate T2 w w')/\(a=e->Keep (fun b=>b=gx) w w'/\MdX w' gx most T2)/\(a≠d->a≠e->Below w.heap.size w w')
def PyC (a:World) (B gx gt N0 most:Nat) (cs:Array Value) (w:World):Prop:=Bk w gt 44 cs/\Below B a w/\B<=w.heap.size/\N0<=w.heap.size/\∃d,MdX w gx most d
def PyU (d e B gs gl gx:Nat) (own:Nat->Nat) (most rate:Nat) (T:List UInt8) (a:Nat) (w:World):Prop:=(a=d->StAt w B own gs gl most rate T)/\(a=e->MdX w gx most T)
def PyC.step {s p D E cs} (F:PyC s B gx gt N0 most cs w) (k:PyS D E B gs gx own most rate T2 p w w') (z:Ap own gs gt) (C:Ap own gs gx) (H:gt≠gx) (K:B<=gx):PyC s B gx gt N0 most cs w':=by
 obtain ⟨f,l,a,m,u,o⟩:=F;by_cases c1:p=D;obtain ⟨own',J,_,e⟩:=k.1 c1;exact ⟨e.bk f z.col z.ne dC dC,l.trans (e.below a),zAk a e.size,zAk m e.size,u,e.bk o C.col C.ne dC dC⟩;by_cases c2:p=E;obtain ⟨i,G⟩:=k.2.1 c2;exact ⟨i.bk f (fun j=>H j),l.trans (i.to_below a fun b d j=>by have I:b=gx:=j;omega),zAk a i.size,zAk m i.size,T2,G⟩;have d:=k.2.2 c1 c2;exact ⟨f.below d f.lt,l.trans (d.mono a),zAk a d.size,zAk m d.size,u,kg o d (Bk.lt o)⟩
def PyC.drew {d cs} (a:PyC d B gx gt N0 most cs w):PyC d B gx gt N0 most cs w.drew:=⟨a.1,a.2.1.trans (fG w B),a.2.2.1,a.2.2.2.1,a.2.2.2.2⟩
def PyU.drew {e f i} (d:PyU f i B gs gl gx own most rate T e w):PyU f i B gs gl gx own most rate T e w.drew:=⟨fun a=>(d.1 a).vb (kc (fG _ _)),fun a=>d.2 a⟩
def PyU.step {f i d j} (e:PyU d j B gs gl gx own most rate T f w) (k:PyS d j B gs gx own most rate T2 i w w') (m:Ap own gs gx) (o:f≠i) (p:f=d->i≠j):PyU d j B gs gl gx own most rate T f w':=by
 refine ⟨fun a=>?_,fun a=>?_⟩;exact (e.1 a).vb (kc (k.2.2 (fun l=>o (a.trans l.symm)) (p a)));by_cases c1:i=d;obtain ⟨own',z,_,u⟩:=k.1 c1;exact u.bk (e.2 a) m.col m.ne dC dC;have s:=k.2.2 c1 (fun l=>o (a.trans l.symm));exact kg (e.2 a) s (Bk.lt (e.2 a))
end
def aLP (cs:Array Value):Prop:=∀(a:Nat) (c:UInt8),cs[a]?≠some (bv c)
def aIG (x y A1 A2 n1 c1 n2 c2):aLP #[(x:Int),(y:Int),.slice A1 n1 c1,.slice A2 n2 c2]:=by
 intro a c;rcases a with _ | _ | _ | _ | a <;> simp [bv]
section
variable {w w' : World} {g : Nat} {t : TypeId} {cs : Array Value} (hx : Bk w g t cs) (k : Keep (fun b => b = g) w w')
include hx k
def aLK {B n:Nat} {A:Option Addr} {T:List UInt8} (o:aLP cs) (d:Rd w B 1 A n (T.map bv)) (l:B<=w.heap.size):Rd w' w'.heap.size 1 A n (T.map bv):=Rd.keepF d k l fun s z m a=>by
 obtain ⟨b,u,e,C,j⟩:=d.2 s;rw [m] at e;cases e;have a:b=g:=a;subst a;have p:(T.map bv).length=n:=by have:=d.1;omega
 have i:0 < T.length:=by simp at p;omega
 have f:=j 0 (bv (T[0]'i)) (by rw [zAf,zAa i];rfl);rw [zBq,hx.cell u] at f;exact o _ _ f
def aKg {B sz n c a A xs} (i:a≠t) (d:Made w B a sz A n c xs):Made w' B a sz A n c xs:=by
 have f:w'.ownsRow B a sz (.slice A n c) n xs:=aA d.own fun b j _ e=>k.bk e (Bk.ne e hx i);exact ⟨f,Rd.of_own f,d.cap,d.max⟩
end
def mL (w:World) (g:Nat) (a d:Int) (e f:Value):World:=(((w.setCell g (.int .i64 a)).setCell ⟨g,1,none⟩ (.int .i64 d)).setCell ⟨g,2,none⟩ e).setCell ⟨g,3,none⟩ f
def iA (w g a d e f):Keep (fun b=>b=g) w (mL w g a d e f):=
 ((((kf (fun b=>b=g) w).setCell (p:=g) (.inl rfl) _).setCell (p:=⟨g,1,none⟩) (.inl rfl) _).setCell (p:=⟨g,2,none⟩) (.inl rfl) _).setCell (p:=⟨g,3,none⟩) (.inl rfl) _
def aAy {w g j l m o} (i:Bk w g 41 #[j,l,m,o]) (a d e f):Bk (mL w g a d e f) g 41 #[(a:Int),(d:Int),e,f]:=by
 have:=(((i.set 0 (.int .i64 a)).set 1 (.int .i64 d)).set 2 e).set 3 f;simpa [mL] using this
def ResC (w:World) (g:Nat):Prop:=∃(x y:Int) (A1:Option Addr) (n1 c1:Nat) (A2:Option Addr) (n2 c2:Nat),Bk w g 41 #[(x:Int),(y:Int),.slice A1 n1 c1,.slice A2 n2 c2]
def ResX (w:World) (g:Nat) (r:Told):Prop:=∃A1 c1 A2 c2,Bk w g 41 (gX r A1 c1 A2 c2)/\Rd w w.heap.size 1 A1 r.data.length (r.data.map bv)/\Made w 0 3 1 A2 r.places.length c2 (r.places.map nv)
section
variable {w : World} {g g' : Nat} {r : Told} {A1 A2 : Option Addr} {x y : Int} {n1 c1 n2 c2 : Nat}
def ResC.of (a:Bk w g 41 aLT):ResC w g:=⟨_,_,_,_,_,_,_,_,a⟩
def ResC.setR {e} (a:ResC w g) (d:ResC w g') (j:mL w g' x y (.slice A1 n1 c1) (.slice A2 n2 c2)=e):ResC e g:=by
 subst j;obtain ⟨_,_,_,_,_,_,_,_,d⟩:=d;by_cases f:g=g';subst f;exact ⟨_,_,_,_,_,_,_,_,aAy d _ _ _ _⟩;obtain ⟨_,_,_,_,_,_,_,_,a⟩:=a;exact ⟨_,_,_,_,_,_,_,_,(iA w g' _ _ _ _).bk a (fun i=>f i)⟩
def StAt.setR {d B gs gl most rate own T} (e:StAt w B own gs gl most rate T) (a:ResC w g') (f:mL w g' x y (.slice A1 n1 c1) (.slice A2 n2 c2)=d):StAt d B own gs gl most rate T:=by
 subst f;obtain ⟨_,_,_,_,_,_,_,_,a⟩:=a;exact e.farT (iA w g' _ _ _ _) a
def MdX.setR {d gx most T} (e:MdX w gx most T) (a:ResC w g') (f:mL w g' x y (.slice A1 n1 c1) (.slice A2 n2 c2)=d):MdX d gx most T:=by
 subst f;obtain ⟨_,_,_,_,_,_,_,_,a⟩:=a;exact (iA w g' _ _ _ _).bk e (Bk.ne e a dC)
def RowR (w:World) (A1 A2:Option Addr) (c2:Nat) (r:Told):Prop:=Rd w w.heap.size 1 A1 r.data.length (r.data.map bv)/\Made w 0 3 1 A2 r.places.length c2 (r.places.map nv)
def RowR.setR {d A3 A4 c4 q} (e:RowR w A3 A4 c4 q) (a:ResC w g') (f:mL w g' x y (.slice A1 n1 c1) (.slice A2 n2 c2)=d):RowR d A3 A4 c4 q:=by
 subst f;obtain ⟨_,_,_,_,_,_,_,_,a⟩:=a;exact ⟨aLK a (iA w g' _ _ _ _) (aIG _ _ _ _ _ _ _ _) e.1 nL,aKg a (iA w g' _ _ _ _) dC e.2⟩
def ResX.new {a} (d:ResC w g) (i:RowR w A1 A2 c2 r) (f:mL w g r.code r.num (.slice A1 r.data.length c1) (.slice A2 r.places.length c2)=a):ResX a g r:=by
 have e:=i.setR d f;subst f;obtain ⟨_,_,_,_,_,_,_,_,j⟩:=d;exact ⟨A1,c1,A2,c2,aAy j _ _ _ _,e.1,e.2⟩
def ResX.setR {i} (s:ResX w g r) (l:ResC w g') (u:RowR w A1 A2 c2 r) (f:mL w g' r.code r.num (.slice A1 r.data.length c1) (.slice A2 r.places.length c2)=i):ResX i g r:=by
 by_cases j:g=g';subst j;exact ResX.new l u f;obtain ⟨a,o,d,e,z,C,D⟩:=s;have m:=RowR.setR (A3:=a) (A4:=d) (c4:=e) (q:=r) ⟨C,D⟩ l f;subst f;exact ⟨a,o,d,e,(iA w g' _ _ _ _).bk z (fun p=>j p),m.1,m.2⟩
end
section
variable {w w' : World} {B gs g gp n rate q : Nat} {own own' : Nat -> Nat} {v : Value} {R : Nat -> Told} {most : Int}
def AnsAt.of_z {a} (d:w'.ownsRow w.heap.size 41 4 v q a) (e:∀k,k < q->ResZ w' own' gs a k (R k)):AnsAt w' 0 v q R:=
 ⟨a,bN d (zAp _),fun k f=>by
  obtain ⟨A1,c1,A2,c2,l,m,o,p,i,j⟩:=e k f;exact ⟨A1,c1,A2,c2,l,m,o,p,i.1,j.1⟩⟩
end
def kZ (most:Nat) (L:List Sp):∀k,(txM (most:Int) L k).length<=most
 | 0=>zAp _
 | k+1=>by have a:=kZ most L k;unfold txM;split;exact aI6 _ _ most _ _ _ a;exact a
def yF (most L k):(anM most L k).places.length<=(txM most L k).length+1:=by
 unfold anM;split;exact aET _ _ _ _ _ _;exact zAp _
def pO (most rate:Nat) (w) (u:most<=2147483648) (j:1<=rate) (l:rate<=64):
 Calls prog 6 #[(most:Int),(rate:Int)] w fun i w'=>∃gs gl own,i=.returned (.tuple #[.pointer (some ⟨gs,0,none⟩),o0])/\StAt w' w.heap.size own gs gl most rate []/\Below w.heap.size w w':=by
 have m:=tC rate none 0 0 w.heap.size [] [] 0 rfl rfl w (Rd.nil _ _ _ _) (fun F z=>by cases z) nL oM oM j l;have n1:¬((most:Int) < 0):=oM;have n2:¬((most:Int) > 2147483648):=oM;have E:decide ((most:Int) > 2147483648)=false:=zBy n2;have f:=lhd m;clear m;go_enter func6,ntmps6;go_wp2_with fail;refine f.out.mono ?_;rintro i w1 ⟨gl,own,rfl,D,e,a⟩;have d:Below w1.heap.size w1 (w1.alloc (.cells #[.pointer (some ⟨gl,0,none⟩),(most:Int)] 52)):=bR.alloc nL _;have o:StAt (w1.alloc (.cells #[.pointer (some ⟨gl,0,none⟩),(most:Int)] 52)) w.heap.size own w1.heap.size gl most rate []:=
  ⟨ke _ _ _,a.size,Nat.eq_zero_of_not_pos fun C=>by have:=(e.bnd w1.heap.size oM).2;omega,e.vis (kc d),by simp,by simp,u,j,l⟩
 obtain ⟨s,p⟩:=hqq2 o (a.trans (d.mono a.size));clear o d a e f;go_wp2_with fail;go_ret2;exact ⟨_,gl,own,rfl,s.out,p.out⟩
end Go.Proofs.YtecdldbdednahaaGreatDoor
