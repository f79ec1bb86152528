/- Lemmas of the walk. Conditions: each its own. -/
import Derived.Test.YtnmapianpjamnaaGreatDoorPk11
import Derived.Test.YtnmapianpjamnaaGreatDoorProg
import Derived.Test.YtnmapianpjamnaaGreatDoorShl
set_option linter.all false
set_option maxRecDepth 100000
set_option maxHeartbeats 2000000
open Go.Proofs.Tryz
namespace Go.Proofs.YtnmapianpjamnaaGreatDoor
section
open Go.RowKit
def Tr.mkO (a:List Bool):Option Tr:=if a.length=0 then none else some (Tr.mk a)
def Tr.mkO_bits (a:List Bool):cR (Tr.mkO a)=a:=by
 unfold Tr.mkO;split
 · rename_i b
   exact (zBk b).symm
 exact Tr.mk_bits oM
def sU {w:World} {F:Nat->Prop} {gt ga:Nat} {v:Int} (e:F gt) (d:F ga) (ht:Bk w gt 205 #[ga,.slice none 0 0,.int .i64 (-1),.int .i64 v]) (c:Bk w ga 228 #[.slice none 0 0,.slice none 0 0,.int .i64 268435456]):TX w F gt ga none 0 0 [] [] [] (-1) v:=
 ⟨e,⟨ht,World.ownsRow_nil _ _ _ _⟩,(fun b a=>by cases a),⟨d,none,0,none,0,c,World.ownsRow_nil _ _ _ _,World.ownsRow_nil _ _ _ _,(fun b a=>by cases a),fun b a=>by cases a⟩,rfl,fun g f=>by omega⟩
def aAq (A:Option Addr) (b t B:Nat) (d:List Bool) (w:World) (C:Rd w B 1 A b (d.map Value.bool)) (am:B<=w.heap.size) (a0:b<=1100) (ar:b<=t):
 Calls prog 94 #[.slice A b t] w fun j w'=>∃gt,j=.returned (.pointer (some ⟨gt,0,none⟩))/\TreeEo w' (fun c=>w.heap.size<=c) gt (Tr.mkO d)/\Below w.heap.size w w':=by
 have X:d.length=b:=by simpa using C.1
 obtain ⟨ag,f⟩:=hqq2 C X;clear C X;go_enter func94,ntmps94;go_wp2_with fail;refine (lR _).mono ?_;rintro j w1 ⟨rfl,W,y⟩;obtain ⟨H,I⟩:=hqq2 W y;have k:=y.size;clear W y;rcases zBa b with u | u
 · subst u;have au:Tr.mkO d=none:=(by unfold Tr.mkO;rw [zBw f.out]);go_wp2_with fail;go_ret;have an:=I.out.alloc k (.cells #[w.heap.size,.slice none 0 0,.int .i64 (-1),.int .i64 0] 205);rw [au];exact ⟨_,rfl,⟨_,_,_,_,_,_,_,_,_,sU k nL (Bk.new _ _ _) (H.out.alloc _),by omega,.inl ⟨rfl,rfl,List.Perm.refl _⟩⟩,an⟩
 · obtain ⟨a,z⟩:=eqx (Tr.lvs b);have Y:(b+127)/ 128=a:=z;have aH:((b:Int)+128 - 1)/ 128=(a:Int):=oM;have aI:(0:Int) < (a:Int):=oM;have o:=I.out.alloc k (.cells #[w.heap.size,.slice none 0 0,.int .i64 (-1),.int .i64 0] 205);have E:=Bk.new w1 205 #[w.heap.size,.slice none 0 0,.int .i64 (-1),.int .i64 0];have x:=H.out.alloc (.cells #[w.heap.size,.slice none 0 0,.int .i64 (-1),.int .i64 0] 205);have D:=(ag.out.mono am).below o;obtain ⟨G,av⟩:=eqx (w1.alloc (.cells #[w.heap.size,.slice none 0 0,.int .i64 (-1),.int .i64 0] 205));rw [av] at E x D o;have V:TS G (fun c=>w.heap.size<=c) w1.heap.size 0 [] [] (-1) 0:=⟨_,_,_,_,sU k nL E x⟩;obtain ⟨ad,ah,J,ae,s⟩:=hqq5 V D o z Y;clear E x D o z Y V;go_wp2_with fail;have q:0 < a:=(by have:=s.out;omega);have aE:a<=9:=(by have:=s.out;omega);have m:=J.out.size;have aq:∀l,l < a->(Tr.cut d a l (l+1)).length<=128:=(by intro l aF;rw [Tr.cut_len q oM,f.out];exact Tr.leaf_len q (by have:=s.out;omega));refine (aAB (fun c=>w.heap.size<=c) w1.heap.size (-1) 0 A b t w.heap.size a d ar oM q oM f.out (fun c i aD=>by omega) aq (a - 1) 0 a 0 [] [] G q oM nL ad.out (fun c i=>zAk m i) oM (List.Perm.refl _) ah.out m).mono ?_;rintro j a3 ⟨e,aw,ay,rfl,⟨al,a4,aj,ax,g⟩,K,L,M,N,O,R,ak,S⟩;have az:=g.rd.c2;have aC:=g.rd.blk.frozen 2;have aG:=g.rd.blk.lt;have a5:=lhd (g.setrt (e.num:Int));have a6:=lhd (L.keep (w':=a3.setCell ⟨w1.heap.size,2,none⟩ (.int .i64 (e.num:Int))) (fun _ _ _ ai=>ai) fun T _ aA i=>i.far (p:=⟨w1.heap.size,2,none⟩) (Bk.ne i g.rd.blk dC) _);have Z:Below w.heap.size G a3:=S.keep.to_below m (fun c i j=>by have aB:w.heap.size<=c:=j;omega);have ab:=lhd ((J.out.trans Z).setCell (p:=⟨w1.heap.size,2,none⟩) k (.int .i64 (e.num:Int)));have r:e.er=Tr.mk d:=(by rw [K];unfold Tr.mk;rw [f.out,ae.out]);have a2:0 < d.length:=(by rw [f.out];exact u);have a1:e.er.Ok:=(by rw [r];exact Tr.mk_ok a2 (by rw [f.out];exact a0));have ap:e.len<=1100:=(by show e.er.bits.length<=1100;rw [r,Tr.mk_bits a2,f.out];exact a0);have U:Tr.mkO d=some e.er:=(by unfold Tr.mkO;rw [zBv oM,r]);obtain ⟨ac,a9,aa,a7,af,a8⟩:=hqq6 U O R M a1 N;clear g K L M O R ak S Z r a1 U N;go_wp2_with fail;go_ret;exact ⟨_,rfl,ac.out ▸⟨al,a4,aj,aw,ay,ax, [],_,0,a5.out,by have:=a8.out;omega,.inr ⟨e,rfl,a6.out,rfl,af.out,ap,a7.out,a9.out,fun T ao=>zAk m (aa.out T ao)⟩⟩,ab.out⟩
def uU (A:Option Addr) (a c B:Nat) (b:List Bool) (w:World) (l:Rd w B 1 A a (b.map Value.bool)) (i:B<=w.heap.size) (j:a<=1100) (k:a<=c):
 Calls prog 94 #[.slice A a c] w fun d w'=>∃gt,d=.returned (.pointer (some ⟨gt,0,none⟩))/\TreeB w' w.heap.size gt b/\Below w.heap.size w w':=by
 refine (aAq A a c B b w l i j k).mono ?_;rintro d w' ⟨gt,e,f,g⟩;exact ⟨gt,e,⟨_,Tr.mkO_bits b,f⟩,g⟩
def ix9 (a:Nat->Value) (lv:Nat) (b:lv < 9) (w:World):(Instr.index 133 (.agg #[a 0,a 1,a 2,a 3,a 4,a 5,a 6,a 7,a 8]) (.int .i64 (lv:Int))).run prog w=.ok (a lv) w:=by
 rcases lv with _ | _ | _ | _ | _ | _ | _ | _ | _ | lv
 all_goals first |(exfalso;omega)| kernel_rfl
def lF (B b:Nat) (e:List Nat) (f a:Nat) (w:World) (aC:WaveAt w B b e) (t:a < 257) (ag:f<=e.length) (I:∀o∈e,o < 257) (aF:e.length<=1000):
 Calls prog 219 #[b,(f:Int),(a:Int)] w fun q w'=>q=.returned (.int .i64 (((e.take f).count a:Nat):Int))/\VB B w w':=by
 have ac:=mF e f a ag I t;have ad:=qL e f a;obtain ⟨ae,g,v,l,ai⟩:=aC;have u:=l.set 10 (.int .i64 0);rw [bS] at u;have U:=VB.set_wave l ae 0;obtain ⟨n,O⟩:=eqx e.length;rw [O] at l u ag aF;have bo:max (f:Int) 0=(f:Int):=oM;have bp:min (f:Int) (n:Int)=(f:Int):=oM;have aB:=l.frozen 10;have aQ:w.cell? ⟨b,10,none⟩=some (.int .i64 v):=(l.cell 10).trans (aT g n v).2.2.2.2.2.2.2.2.2.2;have bk:=l.lt;obtain ⟨aV,J⟩:=eqx (w.setCell ⟨b,10,none⟩ (.int .i64 0));rw [J] at u U;obtain ⟨E,a1,au,al,am,aS,aU,an⟩:=hqq8 u U ai ac ad I O J;clear l ai u U ac ad I O J;go_enter func219,ntmps219;go_wp2_with fail;rw [an.out];refine (eC a _ t).mono ?_;rintro q w1 ⟨rfl,K⟩;have j:=E.out.below K E.out.lt;have aj:=a1.out.below K;obtain ⟨a2,a3,a4,a5,a6,a7,a8,a9,aa,ab,ay⟩:=aT g (n:Int) 0;have b0:w1.cell? b=some (g 0):=(j.cell 0).trans a2;have b1:w1.cell? ⟨b,1,none⟩=some (g 1):=(j.cell 1).trans a3;have b2:w1.cell? ⟨b,2,none⟩=some (g 2):=(j.cell 2).trans a4;have b3:w1.cell? ⟨b,3,none⟩=some (g 3):=(j.cell 3).trans a5;have b4:w1.cell? ⟨b,4,none⟩=some (g 4):=(j.cell 4).trans a6;have b5:w1.cell? ⟨b,5,none⟩=some (g 5):=(j.cell 5).trans a7;have b6:w1.cell? ⟨b,6,none⟩=some (g 6):=(j.cell 6).trans a8;have b7:w1.cell? ⟨b,7,none⟩=some (g 7):=(j.cell 7).trans a9;have b8:w1.cell? ⟨b,8,none⟩=some (g 8):=(j.cell 8).trans aa;have b9:w1.cell? ⟨b,9,none⟩=some (.int .i64 (n:Int)):=(j.cell 9).trans ab;obtain ⟨ap,G⟩:=hqq2 j aj;clear a2 a3 a4 a5 a6 a7 a8 a9 aa ab ay j aj K E a1 aQ aB;go_wp2_with fail;go_loopw [1,28] (fun o Y wr=>∃lv:Nat,lv<=9/\Y=.int .i64 lv/\o=.int .i64 ((fK e f a lv:Nat):Int)/\VB B w1 wr) (fun _ Y _=>9 -(intOf Y).toNat)
 case atStart=>exact ⟨0,by omega,rfl,by rw [al.out],VisK.refl _ _⟩
 case round=>
  obtain ⟨lv,bl,rfl,rfl,T⟩:=hrel;by_cases z:lv < 9
  · have aE:=ix9 g lv z;obtain ⟨D,r,S⟩:=au.out lv z;obtain ⟨x,N⟩:=eqx (2 ^ lv);obtain ⟨c,s⟩:=eqx (aX a lv);have ah:c < x:=(by rw [<-N,<-s];exact kV a lv t oM);rw [N] at r S;obtain ⟨p,cap,af,bm,bj⟩:=World.ownsRow.form r oM;rw [af] at aE r;obtain ⟨o,C⟩:=eqx (fK e f a lv);obtain ⟨Z,X⟩:=eqx (fK e f a (lv+1));obtain ⟨H,M⟩:=eqx (eP a lv);have W:=mG e f a lv z;have V:=aCw e f a lv;rw [s,C,M,X] at W;rw [s,C] at V;rw [C];have bn:(c:Int) < (x:Int):=oM;obtain ⟨aw,av,aq,a0,ar,ao,ax,y⟩:=hqq8 W V r (S c ah) s M X T;clear r S af N s C X M W V T;go_wp2_with fail;refine wp_region_any kR ?_;refine cX [32,33,34,35,36,37,38,39,40,41,42,43,1] (VB B) (Vs [is b,is (.slice (some p) x cap),is (a:Int),is (lv:Int),is (c:Int),is (.pointer (some ⟨p,c*3,none⟩)),is (.agg #[.pointer (some ⟨D c,0,none⟩),(lv:Int),(c:Int)]),is (o:Int),is (a:Int),is (lv:Int),is (.bool H),is (Z:Int),is (Z:Int)]) _ _ rfl kR vR (fun _ _=>VisK.trans) (fC tA0) ?_ ?_
    · refine bN ?_;refine pH 0 (.pointer (some b)) ?_;refine pH 8 (.slice (some p) x cap) ?_;refine pH 2 (.int .i64 (a:Int)) ?_;refine pH 7 (.int .i64 (lv:Int)) ?_;refine sC (fun _ k _ _ _ _ d _ _ _ m=>?_) ?_
      · have bb:_=_:=d 2 34 kR rfl;have bc:_=_:=d 3 35 kR rfl;go_simp;refine (iO a lv k t oM).mono ?_;rintro q ak ⟨rfl,L⟩;rw [ar.out];exact m _ _ (VisK.of_below L) rfl
      refine pW 1 33 4 36 ?_;refine sC (fun _ k i _ _ _ d _ _ _ m=>?_) ?_
      · have bd:_=_:=d 5 37 kR rfl;replace i:(VB B) wr k:=bD i;have R:=(G.out.trans (y.out.trans i)).1.own aq.out dC dC;obtain ⟨aK,aL,aM⟩:=fE D lv x c ah;have aW:k.cell? ⟨p,c*3,none⟩=_:=(World.ownsRow.cellAt R (c*3) oM).trans aK;have aY:k.cell? ⟨p,c*3+1,none⟩=_:=(World.ownsRow.cellAt R (c*3+1) oM).trans aL;have aZ:k.cell? ⟨p,c*3+2,none⟩=_:=(World.ownsRow.cellAt R (c*3+2) oM).trans aM;go_simp;exact m _ _ vR rfl
      refine pH 1 (.int .i64 (o:Int)) ?_;refine pH 2 (.int .i64 (a:Int)) ?_;refine pH 7 (.int .i64 (lv:Int)) ?_;refine sC (fun _ k _ _ _ _ d _ _ _ m=>?_) ?_
      · have bg:_=_:=d 8 40 kR rfl;have bh:_=_:=d 9 41 kR rfl;go_simp;refine (kC a lv k t z).mono ?_;rintro q ak ⟨rfl,L⟩;rw [ao.out];exact m _ _ (VisK.of_below L) rfl
      refine sC (fun _ k i _ _ _ d _ _ _ m=>?_) ?_
      · have ba:_=_:=d 0 32 kR rfl;have be:_=_:=d 6 38 kR rfl;have bf:_=_:=d 7 39 kR rfl;have bi:_=_:=d 10 42 kR rfl;replace i:(VB B) wr k:=bD i;go_simp;obtain ⟨aN,aJ⟩:=(y.out.trans i).1.waveC ap.out;have aG:=a0.out.2.vis (G.out.trans (y.out.trans i)).1;refine (oT b (D c) g n aN lv c (aR e lv c) o H k aJ aG av.out).mono ?_;rintro q ak ⟨rfl,aI⟩;rw [aw.out];exact m _ _ (aI.mono fun H l=>by rcases l with rfl | rfl;exact ae;exact a0.out.1) rfl
      refine pV 11 43 ?_;exact aP
    · intro aA aO i d;replace i:(VB B) wr aO:=bD i;have az:aA (.tmp 1)=.int .i64 (Z:Int):=d 12 1 rfl;simp only [zqq];rw [az];clear d;have aH:=y.out.trans i;go_wp2_with fail;go_roundw
      case rel=>exact ⟨lv+1,by omega,by go_num,by rw [ax.out],aH⟩
      case measure=>simp [intOf];omega
  · have aD:lv=9:=oM;subst aD;rw [am.out];go_wp2_with fail;go_ret;exact ⟨rfl,G.out.trans T⟩
def xJ:(prog.info? 138).map (fun a=>(a.zero,a.size,a.bytes))=some (some (.slice none 0 0),1,24):=by kernel_rfl
def vW:(prog.info? 143).map (fun a=>(a.zero,a.size,a.bytes))=some (some (.agg #[.pointer none,.int .i64 0,.int .i64 0]),3,24):=by kernel_rfl
def aAX (n:Nat) (g:n<=1000000) (w:World):(Instr.makeSlice 137 (.int .i64 (n:Int)) (.int .i64 (n:Int))).run prog w=.ok (.slice (some w.heap.size) n n) (w.alloc (.cells (rowC (fun _=>.slice none 0 0) n) 138)):=by
 obtain ⟨f,b,c,d,e⟩:=info_parts xJ;have:=run_make (P:=prog) w 137 138 f (.slice none 0 0) underlying137 b c .i64 .i64 n n oM (Int.le_refl _) (by rw [e];omega) oM;rw [this,d,wA];have a:madeCells #[.slice none 0 0] n=Array.replicate n (.slice none 0 0):=by apply Array.ext';rw [toList_madeCells_one];simp
 simp only [Value.cells,zBq,zBl];rw [a]
end
section
open Go.RowKit Go
section
variable {P : Program} {ops : Array Oper} {Q : Exit -> Act -> World -> Prop} {md : Region.Mode}
def sO (n:Nat) (s:List Nat) (c:World->Prop) (i:Nat->World->World->Prop) (j:Nat->World->Prop) (d:Nat->Value->World->Prop) (e:Act)
 (m:World) (L:(ops.toList.take n).filterMap (·.dst)=s) (y:n<=ops.size) (R:eQ md ops e.tmps.size=true) (X:((List.range ops.size).all fun p=>decide (p < n)||(List.range n).all fun a=>upB md ops ops.size p a)=true) (G:c m) (J:∀a,j a m) (E:∀b w w',b < n->c w->i b w w'->c w')
 (I:∀a b w w',b < n->a≠b->upB md ops ops.size b a=false->j a w->c w->i b w w'->j a w')
 (U:∀a b v w w',b < n->a≠b->oQ md ops a b=false->d a v w->c w->i b w w'->d a v w')
 (V:∀b q,b < n->ops[b]?=some q->bQ P ops Q md c i j d e b q)
 (M:∀(x:Operand->Value) w t,c w->(∀a k,a < n->((ops[a]?).bind (·.dst))=some k->d a (x (.tmp k)) w)->(∀a,a < n->∃v,d a v w)->wpAny P md ops Q (ops.size - n+t) (cE n ops.size) (bY x s e) w):
 wpAny P md ops Q ops.size (Array.replicate ops.size false) e m:=by
 refine nM n c i j d e m y R X G J E I (fun a b v w w' f l D _=>U a b v w w' f l D) V fun r w t H W K S z=>?_;have f:=M r.eval w t H (fun a k o g=>by
  cases u:ops[a]? with
  | none=>rw [u] at g;cases g
  | some q=>
    rw [u] at g;obtain ⟨v,f,l⟩:=z a q o u;have:=f k g;change d a (r.tmps.getD k undef) w;rw [this];exact l) (fun a o=>by
  obtain ⟨v,_,l⟩:=z a _ o (zAq (zAl o y));exact ⟨v,l⟩)
 rw [<-iK r e s W K fun Y ht=>S Y fun p C N T g=>ht ?_] at f;exact f;rw [<-L];refine List.mem_filterMap.2 ⟨C,?_,g⟩;have O:(ops.toList.take n)[p]?=some C:=(by rw [zBr,zBw N,Array.getElem?_toList];exact T);exact zAd O
end
def VFB (B:Nat) (F:Nat->Prop) (w w':World):Prop:=VisF F w w'/\Keep (fun a=>F a∨B<=a) w w'
def fD {B:Nat} {F:Nat->Prop} {w w':World} (a:VFB B F w.drew w'):VFB B F w w':=⟨⟨a.1.os,a.1.tape,a.1.output,a.1.size,a.1.block⟩,⟨a.2.os,a.2.tape,a.2.output,a.2.size,a.2.block⟩⟩
section
variable {B : Nat} {F : Nat -> Prop} {w w1 w' : World}
def VFB.of_vb (a:VB B w w'):VFB B F w w':=⟨VisF.of_vis a.1,a.2.mono fun _ _ b=>.inr b⟩
def VFB.trans (a:VFB B F w w1) (b:VFB B F w1 w'):VFB B F w w':=⟨a.1.trans b.1,a.2.trans b.2⟩
def VFB.put (b:VFB B F w w1) {p:Addr} (c:F p.block∨w.heap.size<=p.block) (a:Value):VFB B F w (w1.setCell p a):=⟨VisF.put b.1 c a,b.2.setCell (c.elim (fun d=>.inl (.inl d)) .inr) a⟩
def VFB.to_vb (c:VFB B F w w') (d:∀a,a < w.heap.size->¬F a):VB B w w':=⟨c.1.to_vis d,c.2.mono fun a e b=>b.elim (fun b=>absurd b (d a e)) id⟩
end
def uT (B:Nat) (F:Nat->Prop) (a b:Nat) (w w':World):Prop:=(b=a->VFB B F w w')/\(b≠a->VB B w w')
def pT {B:Nat} {F:Nat->Prop} {a d:Nat} {w w':World} (b:uT B F a d w w'):VFB B F w w':=by
 by_cases c:d=a;exact b.1 c;exact VFB.of_vb (b.2 c)
def aD {B:Nat} {F:Nat->Prop} {b c:Nat} {w w':World} (a:VB B w w'):uT B F b c w w':=⟨fun _=>VFB.of_vb a,fun _=>a⟩
def sT {B:Nat} {F:Nat->Prop} {a:Nat} {w w':World} (c:VFB B F w w'):uT B F a a w w':=⟨fun _=>c,fun b=>absurd rfl b⟩
def dO {P:Program} {ops:Array Oper} {Q:Exit->Act->World->Prop} {md:Region.Mode} (B n:Nat) (o:List Nat) (F:Nat->Prop) (b:Nat) (q:List Nat) (m:World->Prop) (l:Value->World->Prop) (k:List (Value->World->Prop)) (g:Act) (d:World)
 (G:(ops.toList.take n).filterMap (·.dst)=o) (J:n<=ops.size) (I:eQ md ops g.tmps.size=true) (R:((List.range ops.size).all fun c=>decide (c < n)||(List.range n).all fun a=>upB md ops ops.size c a)=true)
 (M:(q.all fun a=>a==b||upB md ops ops.size b a)=true)
 (L:m d) (K:∀w w',m w->VFB B F d w->VB B w w'->m w') (E:aBN (VB B) l) (N:∀T∈k,aBN (VFB B F) T)
 (O:∀e y,e < n->ops[e]?=some y->bQ P ops Q md (VFB B F d) (uT B F b) (fun a w=>q.contains a=true->m w) (VsJ b l k) g e y)
 (H:∀(s:Operand->Value) w f,VFB B F d w->(∀a r,a < n->((ops[a]?).bind (·.dst))=some r->VsJ b l k a (s (.tmp r)) w)->(∀a,a < n->∃v,VsJ b l k a v w)->wpAny P md ops Q (ops.size - n+f) (cE n ops.size) (bY s o g) w):
 wpAny P md ops Q ops.size (Array.replicate ops.size false) g d:=by
 refine sO n o (VFB B F d) (uT B F b) (fun a w=>q.contains a=true->m w) (VsJ b l k) g d G J I R (VFB.of_vb vR) (fun _ _=>L) (fun e w w' _ C c=>C.trans (pT c)) (fun a e w w' _ p S i D c u=>?_) (fun a e v w w' _ p _ j _ c=>?_) O H;by_cases x:e=b;exfalso;subst x;have t:=zBf.1 M a (by simpa using u);simp only [S,Bool.or_false,zCn] at t;exact p t;exact K w w' (i u) D (c.2 x);unfold VsJ at j⊢;by_cases i:a=b;rw [zBw i] at j⊢;exact E v w w' j (c.2 fun z=>p (i.trans z.symm));rw [zBv i] at j⊢;exact fC N a v w w' j (pT c)
end
section
open Go.RowKit
def Nd (xs:List Value) (b c g:Nat):Prop:=∃a n f d e:Int,At8 xs b (ndL c g a n f d e)
def LT.Sm (a:LT):Prop:=a.ht<=100000/\a.len<=100000
def LT.In.nd {w:World} {xs:List Value} {a:Nat} {b c:LT} (d:(LT.nd a b c).In w xs):Nd xs a b.num c.num:=⟨_,_,_,_,_,d.1⟩
def LT.In.cel {w:World} {xs:List Value} {a:LT} (i:a.In w xs):∃b c d e f,At8 xs a.num (uJ b c a.ht a.len a.on d e f):=by
 obtain ⟨b,c,d,e,f,g⟩:=a.cel;exact ⟨b,c,d,e,f,by rw [<-g];exact i.at⟩
def LT.In.mk {w:World} {xs:List Value} {c:Nat} {a b:LT} (d:At8 xs c (ndL a.num b.num ((max a.ht b.ht+1:Nat):Int) ((a.len+b.len:Nat):Int) ((a.on+b.on:Nat):Int) (a.len:Int) (a.on:Int))) (e:a.In w xs) (f:b.In w xs):(LT.nd c a b).In w xs:=⟨d,e,f⟩
def TurnP (F:Nat->Prop) (gt n b c:Nat) (xs:List Value) (fr:List Nat) (rt v:Int) (d:LT) (w w':World):Prop:=∃a,TS w' F gt n a fr rt v/\d.In w' a/\ButL [b,c] xs a/\LK F [] w w'/\KT gt w w'
def TurnP.from {F:Nat->Prop} {gt n a b:Nat} {xs:List Value} {fr:List Nat} {rt v:Int} {c:LT} {w0 w w':World} (d:TurnP F gt n a b xs fr rt v c w w') (k0:LK F [] w0 w) (k:KT gt w0 w):TurnP F gt n a b xs fr rt v c w0 w':=by
 obtain ⟨l,e,f,g,i,j⟩:=d;exact ⟨l,e,f,g,k0.trans i,k.trans j⟩
def TurnP.below {F:Nat->Prop} {gt n a b:Nat} {xs:List Value} {fr:List Nat} {rt v:Int} {c:LT} {w w1 w':World} (d:TurnP F gt n a b xs fr rt v c w w1) (k0:Below w1.heap.size w1 w'):TurnP F gt n a b xs fr rt v c w w':=by
 obtain ⟨k,e,f,g,i,j⟩:=d;exact ⟨k,e.below k0,f.below k0,g,i.trans (LK.below k0),j.trans (KT.below k0)⟩
def LT.Sm.l {f:Nat} {a b:LT} (c:(LT.nd f a b).Sm):a.Sm:=by
 obtain ⟨d,e⟩:=c;rw [LT.len_nd] at e;simp only [LT.ht,LT.er,Tr.ht] at d;exact ⟨by simp only [LT.ht];omega,by omega⟩
def LT.Sm.r {f:Nat} {b a:LT} (c:(LT.nd f b a).Sm):a.Sm:=by
 obtain ⟨d,e⟩:=c;rw [LT.len_nd] at e;simp only [LT.ht,LT.er,Tr.ht] at d;exact ⟨by simp only [LT.ht];omega,by omega⟩
def ButL.mono {b c:List Nat} {xs d:List Value} (g:ButL b xs d) (j:∀a,a∈b->a∈c):ButL c xs d:=fun a f i e=>g a f (fun k=>i (j a k)) e
def At8.nd {xs f:List Value} {e:List Nat} {b c d:Nat} (a:Nd xs b c d) (g:ButL e xs f) (j:b∉e):Nd f b c d:=by
 obtain ⟨i,m,o,k,l,a⟩:=a;exact ⟨i,m,o,k,l,g _ _ j a⟩
def LK.new {F:Nat->Prop} {d:List Nat} {w w1 j:World} {a:Nat} (f:LK F d w w1) (i:Keep (fun b=>b=a) w1 j) (p:w.heap.size<=a) (l:F a):LK F d w j:=
 ⟨f.keep.trans (i.mono fun b _ c=>by rw [show b=a from c];exact l),fun e k m g=>i.bk (f.blk e k m g) fun c=>by have:=g.lt;have o:e=a:=c;omega⟩
def LT.Sm.of {a:LT} (b:a.ht<=50000/\a.len<=50000):a.Sm:=⟨by omega,by omega⟩
section
variable {w w' : World} {F Fa : Nat -> Prop} {gt ga cap n : Nat} {A : Option Addr} {xs : List Value} {tk tk' : List Bool} {fr fr' : List Nat} {rt v : Int}
def TX.arena (f:TX w F gt ga A cap n xs tk fr rt v) (t:∀a,w.heap.size<=a->F a) (l:∀a,Fa a->F a) (q:∀a b d,Fa a->Bk w a b d->b=228∨b=4∨b=3) (r:ArenaE w' (Gw Fa w.heap.size) ga tk' fr') (g:Keep Fa w w') (u:tk'.length=n) (x:∀j,j < n->tk'[j]?=some (decide (j∉fr'))):
 TX w' F gt ga A cap n xs tk' fr' rt v/\LK F [] w w':=by
 have k:∀a b d,Bk w a b d->b≠228->b≠4->b≠3->¬Fa a:=fun a b d g m o p s=>by rcases q a b d s g with c | c | c;exact m c;exact o c;exact p c
 refine ⟨⟨f.fg,⟨g.bk f.rd.blk (k _ _ _ f.rd.blk dC dC dC),aA f.rd.row fun a d _ i=>g.bk i (k _ _ _ i dC dC dC)⟩,f.own,r.mono fun a _ e=>?_,u,x⟩,LK.of g (fun a _ c=>l a c) fun a d c i=>k a _ d i dC dC dC c⟩;rcases e with e | e;exact l a e;exact t a e
end
def LK.trans' {F:Nat->Prop} {b c:List Nat} {w w1 w':World} (e:LK F b w w1) (i:LK F c w1 w') (j:∀a,a < w.heap.size->a∈c->a∈b):LK F b w w':=
 ⟨e.keep.trans i.keep,fun a d g f=>i.blk a d (fun k=>g (j a f.lt k)) (e.blk a d g f)⟩
def aBo {a:Tr} (b:a.Full):32*a.lv<=a.bits.length:=by have:=Tr.full_lv b;omega
def Tr.Ok.one {a:Tr} (c:a.Ok) (f:a.bits.length < 32):∃b,a=.lf b:=by
 cases a with
 | lf b=>exact ⟨b,rfl⟩
 | nd d e=>
   have:=aBo c.2;have:=Tr.lv_pos (.nd d e);omega
def mL {a b:List Nat} (c:a.Perm b):tcells a=tcells b:=by
 refine nQ _ _ (eF a) (fun e d=>?_) ?_
 · rw [dJ a d,c.count_eq]
 · rw [gG,c.length_eq]
def fO (c:IntKind) (n:Nat) (a:Nat->Nat):Array Value:=((List.range n).map fun b=>Value.int c ((a b:Nat):Int)).toArray
def gE (b:IntKind) (n:Nat) (a:Nat->Nat):(fO b n a).size=n:=by simp [fO]
def dD {c:IntKind} {n:Nat} {b:Nat->Nat} {a:Nat} (d:a < n):(fO c n b)[a]?=some (.int c ((b a:Nat):Int)):=by
 unfold fO;rw [List.getElem?_toArray,zAf,zCh d];rfl
def mH {c:IntKind} {n:Nat} {b:Nat->Nat} {a:Nat} (d:¬a < n):(fO c n b)[a]?=none:=Array.getElem?_eq_none (by rw [gE];omega)
def bM {d:IntKind} {n:Nat} {b c:Nat->Nat} (e:∀a,a < n->b a=c a):fO d n b=fO d n c:=by
 unfold fO;congr 1;exact List.map_congr_left fun a f=>by rw [e a (zCg.1 f)]
def gF {e:IntKind} {n:Nat} {f:Nat->Nat} {d v:Nat} (g:d < n):(fO e n f).setIfInBounds d (.int e ((v:Nat):Int))=fO e n (fun c=>if c=d then v else f c):=by
 apply Array.ext_getElem?;intro c;rw [zCc,gE];by_cases b:c < n
 · rw [dD b,dD b];by_cases a:d=c
   · subst a;rw [zBw rfl,zBw b,zBw rfl]
   · rw [zBv a,zBv (fun g=>a g.symm)]
 · rw [mH b,mH b];by_cases a:d=c
   · subst a;rw [zBw rfl,zBv b]
   · rw [zBv a]
def jI (b:IntKind) (n:Nat):Array.replicate n (Value.int b 0)=fO b n (fun _=>0):=by
 apply Array.ext_getElem?;intro c;by_cases a:c < n;rw [dD a,Array.getElem?_replicate,zBw a];rfl
 · rw [mH a,Array.getElem?_replicate,zBv a]
def aAp (b:IntKind) (n:Nat) (a:Nat->Nat):(fO b n a).toList=(List.range n).map fun d=>Value.int b ((a d:Nat):Int):=rfl
@[irreducible] def cntL (c:List Nat):List Value:=(List.range 257).map fun e=>.int .i64 ((c.count e:Nat):Int)
def rN (b:List Nat) {a:Nat} (c:a < 257):(cntL b)[a]?=some (.int .i64 ((b.count a:Nat):Int)):=by
 unfold cntL;rw [zAf,zCh c];rfl
def uI (a:List Nat):(cntL a).length=257:=by unfold cntL;simp
def aBl {w:World} {gt:Nat} {a:List Nat} (e:Bk w gt 236 (tcells a)):(loadCells ⟨gt,0,none⟩ 257).run prog w=.ok (cntL a).toArray w:=by
 have:=run_loadCells_list (P:=prog) w ⟨gt,0,none⟩ (cntL a) (fun b v d=>by
  have f:(⟨gt,0,none⟩:Addr).add b=⟨gt,b,none⟩:=by unfold Addr.add;split <;> simp_all
  have c:b < 257:=by rw [<-uI a];exact (zAc.1 d).1
  rw [f,e.cell b,dJ a c,<-rN a c,d])
 rw [uI] at this;exact this
def pC {g:Oper} {b:Act} {w:World} {i:Act->World->Prop} {Q:Exit->Act->World->Prop} (a:TypeId) (k:Operand) (p:g.op=.load a k)
 (c:Addr) (t:b.eval k=.pointer (some c)) (d:Array Value) (n:Nat) (e:TypeDesc)
 (r:prog.underlying a=some e) (x:(match e with | .struct _ | .array _ _=>true | _=>false)=true) (j:(prog.info? a).map (·.size)=some n)
 (o:(loadCells c n).run prog w=.ok d w) (l:i (b.put g.dst (.agg d)) w):g.wp prog b w i Q:=by
 have s:(loadVar a c).run prog w=.ok (.agg d) w:=by
  cases f:prog.info? a with
  | none=>simp [f] at j
  | some u=>
    have q:u.size=n:=(by simpa [f] using j);have m:(isAgg a).run prog w=.ok true w:=(by unfold isAgg;rw [Sem.run_bind,run_underlying r w];cases e <;> simp_all);simp [loadVar,Sem.run_bind,m,sizeOf,typeInfo,f,q,o]
 unfold Oper.wp execOp;simp only [p,t,Instr.loadAt,Instr.sureAddr,Sem.run_bind,Sem.run_pure,Result.andThen_ok,s];exact l
def aC0 (b:List Nat) (a:Nat) (c:a < 257) (w:World):(Instr.index 202 (.agg (cntL b).toArray) (.int .i64 (a:Int))).run prog w=.ok (.int .i64 ((b.count a:Nat):Int)) w:=by
 have j:(cntL b).toArray[a]?=some (.int .i64 ((b.count a:Nat):Int)):=by rw [List.getElem?_toArray];exact rN b c
 have d:(0:Int)<=(a:Int)/\(a:Int) < ((257:Nat):Int):=oM;have g:=underlying202;have i:=underlying3;have f:=rN b c;have e:(isAgg 3).run prog w=.ok false w:=by unfold isAgg;rw [Sem.run_bind,run_underlying i w];rfl
 simp [Instr.index,asIntOf,Sem.run_bind,run_underlying g w,d,Tryz.sizeOf3,c,part,e,f]
def oV (gt:Nat) (b:List Nat) (c d:Nat) (w:World) (l:Bk w gt 236 (tcells b)) (a2:d < 257) (i:b.countP (fun a=>decide (a < d))<=c) (g:c < b.countP (fun a=>decide (a < d))+b.count d) (a1:b.length<=1000):
 Calls prog 200 #[gt,(c:Int)] w fun N w'=>N=.returned (.int .i64 (d:Int))/\Below w.heap.size w w':=by
 have H:=aBl l;have X:=lhd l;clear l;have Z:decide ((c:Int) < 0)=false:=by simp
 go_enter func200,ntmps200;go_wp2_with fail;refine pC 202 (.tmp 15) rfl ⟨gt,0,none⟩ rfl (cntL b).toArray 257 _ underlying202 rfl kR H ?_;have x:=fun a=>mR b a;have G:∀a,a < d->b.countP (fun e=>decide (e < a))+b.count a<=b.countP (fun e=>decide (e < d)):=fun a V=>by rw [<-x a];exact List.countP_mono_left fun e _ l=>by simp at l⊢;omega
 obtain ⟨D,K,J,C⟩:=hqq4 x G i g;clear x G i g H;have a0:c<=1000:=by
  have g:=C.out;have m:b.countP (fun a=>decide (a < d))+b.count d<=b.length:=by rw [<-D.out d];exact zBh
  omega
 simp only [Act.put,List.setIfInBounds_toArray,List.set_cons_zero,List.set_cons_succ];go_wp2_with fail;go_loopw [1,17] (fun v z wr=>∃a:Nat,a<=d/\z=.int .i64 (a:Int)/\v=.int .i64 ((c - b.countP (fun e=>decide (e < a)):Nat):Int)/\wr=w) (fun _ z _=>257 -(intOf z).toNat)
 case atStart=>exact ⟨0,by omega,rfl,by simp,rfl⟩
 case round=>
  obtain ⟨a,V,rfl,rfl,rfl⟩:=hrel;have U:=aC0 b a oM;have i:=J.out;have g:=C.out;have m:=D.out a;have j:=K.out a;obtain ⟨f,s⟩:∃f,b.countP (fun e=>decide (e < d))=f:=⟨_,rfl⟩;obtain ⟨v,k⟩:∃f,b.countP (fun e=>decide (e < a))=f:=⟨_,rfl⟩;obtain ⟨I,t⟩:∃f,b.countP (fun e=>decide (e < a+1))=f:=⟨_,rfl⟩;obtain ⟨q,o⟩:=eqx (b.count a);rw [s] at i g j;rw [k] at m j;rw [t,o] at m;rw [o] at j U;by_cases W:a < d
  · have T:=j W;have r:¬c - v < q:=oM;have O:decide (c - v < q)=false:=zBx r;have E:IntKind.i64.wrap (((c - v:Nat):Int) -(q:Int))=((c - I:Nat):Int):=(by rw [IntKind.wrap_i64];omega);have R:a < 257:=oM;have S:(a:Int) < 257:=oM;rw [k];obtain ⟨u,p⟩:=eqx (c - v);obtain ⟨Y,y⟩:∃u,c - I=u:=⟨_,rfl⟩;rw [p] at r O E⊢;rw [y] at E;obtain ⟨L,M⟩:=hqq2 y t;clear i g m j T s k t o p y;go_wp2_with fail;go_roundw
    case rel=>exact ⟨a+1,by omega,by go_num,by rw [M.out,L.out],by first | rfl | trivial⟩
    case measure=>simp [intOf];omega
  · obtain rfl:a=d:=oM;rw [k];obtain rfl:f=v:=(by rw [<-s,<-k]);rw [o] at g;have r:c - f < q:=oM;have R:a < 257:=oM;have S:(a:Int) < 257:=oM;obtain ⟨u,p⟩:=eqx (c - f);rw [p] at r⊢;clear i g m j s k t o p;go_wp2_with fail;go_ret;exact ⟨rfl,Below.refl _ _⟩
end
end Go.Proofs.YtnmapianpjamnaaGreatDoor
