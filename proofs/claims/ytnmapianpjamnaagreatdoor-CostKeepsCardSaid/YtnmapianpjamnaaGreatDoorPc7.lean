/- Lemmas of the walk. Conditions: each its own. -/
import Derived.Test.YtnmapianpjamnaaGreatDoorPc5
import Derived.Test.YtnmapianpjamnaaGreatDoorProg
set_option linter.all false
set_option maxRecDepth 100000
set_option maxHeartbeats 4000000
open Go.Proofs.Tryz
namespace Go.Proofs.YtnmapianpjamnaaGreatDoor
open Go.RowKit
def Nd (j:List Value) (b c i:Nat):Prop:=∃a f g d e:Int,At8 j b (ndL c i a f g d e)
def LT.Sm (a:LT):Prop:=a.ht<=100000/\a.len<=100000
def LT.In.nd {f:World} {d:List Value} {a:Nat} {b c:LT} (e:(LT.nd a b c).In f d):Nd d a b.num c.num:=⟨_,_,_,_,_,e.1⟩
def LT.In.cel {k:World} {g:List Value} {a:LT} (j:a.In k g):∃b c d e f,At8 g a.num (oB b c a.ht a.len a.on d e f):=by
 obtain ⟨b,c,d,e,f,i⟩:=a.cel;exact ⟨b,c,d,e,f,by rw [<-i];exact j.at⟩
def LT.In.mk {d:World} {c:List Value} {e:Nat} {a b:LT} (f:At8 c e (ndL a.num b.num ((max a.ht b.ht+1:Nat):Int) ((a.len+b.len:Nat):Int) ((a.on+b.on:Nat):Int) (a.len:Int) (a.on:Int))) (g:a.In d c) (i:b.In d c):(LT.nd e a b).In d c:=⟨f,g,i⟩
def iT (f:Nat->Prop) (b j i n:Nat) (l:List Value) (m:List Nat) (q c:Int) (e:World) (a:TS e f b j l m q c) {u v w x:Int} {B C:Nat} {D:Option Addr} (d:At8 l i (oB u v n B C w x D)):
 Calls prog 270 #[b,(i:Int)] e fun z k=>z=.returned (.int .i64 (n:Int))/\TS k f b j l m q (wrap64 (c+1))/\LK f [] e k/\VisK (fun y=>y=b) e k:=by
 have p:=a.setv (wrap64 (c+1));have o:=a.lkv 3 (.int .i64 (wrap64 (c+1)));obtain ⟨L,E,H,Q,a⟩:=a;obtain ⟨A,I,rfl,g⟩:=a.rd.ex (by have:=d.lt a.rd.len;omega);have F:=a.rd.c1;have G:=a.rd.c3;have K:=a.rd.blk.frozen 3;have N:=a.rd.blk.lt;have M:=g.lt;have P:b≠A:=Bk.ne a.rd.blk g dC;have O:(i:Int) < (j:Int):=by have:=d.lt a.rd.len;omega
 obtain ⟨_,_,J,_⟩:=a.rd.at d;obtain ⟨t,s,r⟩:=hqq3 (VisK.set_tree a.rd.blk (wrap64 (c+1))) p o;clear p o a d g;go_enter func270,ntmps270;go_wp2_with fail;go_ret;exact ⟨rfl,s.out,r.out,t.out⟩
def aFA {d e:Nat} {i j k:List Nat} (l:(d::e::(i++(j++k))).Nodup):d≠e/\(∀a,a∈i->a∉ [d,e])/\(∀a,a∈j->a∉ [d,e])/\∀a,a∈k->a∉ [d,e]:=by
 rw [List.nodup_cons,List.nodup_cons] at l;obtain ⟨c,g,_⟩:=l;simp only [List.mem_cons,zCm,not_or] at c g;refine ⟨c.1,fun a b f=>?_,fun a b f=>?_,fun a b f=>?_⟩<;> simp only [List.mem_cons,List.not_mem_nil,or_false] at f <;> rcases f with rfl | rfl;exact c.2.1 b;exact g.1 b;exact c.2.2.1 b;exact g.2.1 b;exact c.2.2.2 b;exact g.2.2 b
def TurnP (c:Nat->Prop) (d j g i:Nat) (n:List Value) (f:List Nat) (k m:Int) (l:LT) (e a:World):Prop:=∃b,TS a c d j b f k m/\l.In a b/\ButL [g,i] n b/\LK c [] e a/\KT d e a
def TurnP.from {a:Nat->Prop} {b g e f:Nat} {m:List Value} {d:List Nat} {i k:Int} {j:LT} {w0 c l:World} (n:TurnP a b g e f m d i k j c l) (k0:LK a [] w0 c) (t:KT b w0 c):TurnP a b g e f m d i k j w0 l:=by
 obtain ⟨u,o,p,q,r,s⟩:=n;exact ⟨u,o,p,q,k0.trans r,t.trans s⟩
def TurnP.below {F:Nat->Prop} {gt d b c:Nat} {k:List Value} {a:List Nat} {e g:Int} {f:LT} {i w1 j:World} (l:TurnP F gt d b c k a e g f i w1) (k0:Below w1.heap.size w1 j):TurnP F gt d b c k a e g f i j:=by
 obtain ⟨r,m,n,o,p,q⟩:=l;exact ⟨r,m.below k0,n.below k0,o,p.trans (LK.below k0),q.trans (KT.below k0)⟩
def oD (k:Nat->Prop) (o r a d:Nat) (g:List Value) (u:List Nat) (w x:Int) (e b c:LT) (i:World) (f:TS i k o r g u w x) (t:Nd g a d c.num) (v:Nd g d e.num b.num) (af:e.In i g) (ag:b.In i g) (ai:c.In i g)
 (P:(a::d::(e.nums++(b.nums++c.nums))).Nodup) (ay:e.Sm) (az:b.Sm) (aA:c.Sm):
 Calls prog 272 #[o,(a:Int)] i fun q bh=>q=.returned (.int .i64 (d:Int))/\TurnP k o r a d g u w x (.nd d e (.nd a b c)) i bh:=by
 obtain ⟨b2,bc,be,b8,ba,t⟩:=t;obtain ⟨b3,bd,bf,b9,bb,v⟩:=v;obtain ⟨b0,bm,aW,bg,f⟩:=f;obtain ⟨n,bz,rfl,s⟩:=f.rd.ex (by have:=t.lt f.rd.len;omega);obtain ⟨E,ab,ac,ad⟩:=aFA P;have aa:=f.rd.c1;have b5:=f.rd.blk.lt;have b4:=s.lt;have b6:o≠n:=Bk.ne f.rd.blk s dC;have bA:(a:Int) < (r:Int):=by have:=t.lt f.rd.len;omega
 have bB:(d:Int) < (r:Int):=by have:=v.lt f.rd.len;omega
 obtain ⟨bj,aD,_⟩:=f.rd.at t;obtain ⟨aE,aF,_⟩:=f.rd.at v;have aZ:=fun b7=>s.frozen b7;obtain ⟨a9,C⟩:=eqx e.num;obtain ⟨m,O⟩:=eqx b.num;obtain ⟨M,D⟩:=eqx c.num;have am:=(f.put (a*8) (.int .i64 (m:Int))).put (d*8+1) (.int .i64 (a:Int));have ax:LK k [] i ((i.setCell ⟨n,a*8,none⟩ (.int .i64 (m:Int))).setCell ⟨n,d*8+1,none⟩ (.int .i64 (a:Int))):=(LK.set s dC (OwnF.at f.own) _).trans (LK.set (s.set (a*8) _) dC (OwnF.at f.own) _);have ak:At8 ((g.set (a*8) (.int .i64 (m:Int))).set (d*8+1) (.int .i64 (a:Int))) a (ndL m M b2 bc be b8 ba):=by rw [<-D];exact (t.set (j:=0) oM (.int .i64 (m:Int))).set_ne E (j:=1) oM _
 have al:At8 ((g.set (a*8) (.int .i64 (m:Int))).set (d*8+1) (.int .i64 (a:Int))) d (ndL a9 a b3 bd bf b9 bb):=by rw [<-C];exact (v.set_ne (j:=0) (fun q=>E q.symm) oM (.int .i64 (m:Int))).set (j:=1) oM (.int .i64 (a:Int))
 have ah:ButL [a,d] g ((g.set (a*8) (.int .i64 (m:Int))).set (d*8+1) (.int .i64 (a:Int))):=((But8.set a g (j:=0) oM _).l (by simp)).trans ((But8.set d _ (j:=1) oM _).l (by simp));rw [O] at aF;rw [C] at aE;rw [D] at aD;have a8:=lhd (show KT o i ((i.setCell ⟨n,a*8,none⟩ (.int .i64 (m:Int))).setCell ⟨n,d*8+1,none⟩ (.int .i64 (a:Int))) from KT.keep (Keep.setCell (F:=fun b=>b=n) (Keep.setCell (F:=fun b=>b=n) (Keep.refl _ _) (p:=⟨n,a*8,none⟩) (.inl rfl) _) (p:=⟨n,d*8+1,none⟩) (.inl rfl) _) s);obtain ⟨Y,a7,aJ,aK,B,Z,a0,a2,bn⟩:=hqq9 (show TS _ k o r _ u w x from ⟨b0,_,aW,bg,am⟩) ax ak al ah af ag ai P;obtain ⟨K,a1,a3,L,a4,a5,aL,aM,aN⟩:=hqq9 C O D ab ac ad ay az aA;clear ab ac ad ay az aA f t v af ag ai P am ax ak al ah C O D s;go_enter func272,ntmps272;go_wp2_with fail
 go_region
 obtain ⟨aV,ae⟩:=eqx (((i.setCell ⟨n,a*8,none⟩ (.int .i64 (m:Int))).setCell ⟨n,d*8+1,none⟩ (.int .i64 (a:Int))).drew);have N:=Y.out.below (bR.drew);have R:=a7.out.trans (LK.below (F:=k) (bl:= []) (bR.drew));have Q:=a8.out.trans (KT.below (gt:=o) (bR.drew));rw [ae] at N R Q⊢;obtain ⟨aP,aH,aS⟩:=hqq3 Q N R;clear a8 Q N R ae aa bj aD aE aF aZ b6 b5 b4 Y a7;go_wp2_with fail;obtain ⟨bs,b1,bt,bu,bG,W⟩:=a0.out.cel;obtain ⟨bv,aa,bw,bx,bH,X⟩:=a2.out.cel;obtain ⟨bo,bp,bq,br,bF,U⟩:=Z.out.cel;have I:=B.out _ _ (a4.out _ b.num_mem) W;have J:=B.out _ _ (a5.out _ c.num_mem) X;have H:=B.out _ _ (L.out _ e.num_mem) U;rw [a1.out] at I;rw [a3.out] at J;rw [K.out] at H;obtain ⟨bI,bJ⟩:=aL.out;obtain ⟨bK,bL⟩:=aM.out;obtain ⟨bM,bN⟩:=aN.out;have bC:=e.on_le;have bD:=b.on_le;have bE:=c.on_le;refine (fT k o r a m M b.ht c.ht b.len c.len b.on c.on _ u w x aV aH.out aJ.out I J oM oM oM oM oM oM).mono ?_;rintro q bi ⟨rfl,bk,aB,an,G,ar,av⟩;have V:=G _ _ (fun q=>L.out _ e.num_mem (by rw [K.out,q];simp)) H;have aq:=G _ _ (fun q=>E q.symm) aK.out;obtain ⟨aT,a6,aU,aQ,aR,aG,aO⟩:=hqq7 aB an G ar av V aq;clear W X U I J H aB an G ar av V aq;go_wp2_with fail;refine (fT k o r d a9 a e.ht (max b.ht c.ht+1) e.len (b.len+c.len) e.on (b.on+c.on) _ u w x bi aT.out aO.out aG.out (show At8 bk a (oB m M (max b.ht c.ht+1) (b.len+c.len) (b.on+c.on) b.len b.on none) from a6.out) oM oM oM oM oM oM).mono ?_;rintro q T ⟨rfl,A,aC,ao,S,au,aw⟩;have y:ButL [a,d] g A:=B.out.trans ((aU.out.l (by simp)).trans (S.l (by simp)));have z:LK k [] i T:=aS.out.trans (aQ.out.trans au);have ap:=S _ _ E a6.out;have aj:(LT.nd d e (.nd a b c)).In T A:=by refine ⟨?_,Z.out.but y z L.out (by simp),?_,a0.out.but y z a4.out (by simp),a2.out.but y z a5.out (by simp)⟩;have aX:=LT.len_nd a b c;have aY:=LT.on_nd a b c;show At8 A d (ndL (e.num:Int) (a:Int) ((max e.ht (max b.ht c.ht+1)+1:Nat):Int) ((e.len+(LT.nd a b c).len:Nat):Int) ((e.on+(LT.nd a b c).on:Nat):Int) (e.len:Int) (e.on:Int));rw [aX,aY,K.out];exact ao;show At8 A a (ndL (b.num:Int) (c.num:Int) ((max b.ht c.ht+1:Nat):Int) ((b.len+c.len:Nat):Int) ((b.on+c.on:Nat):Int) (b.len:Int) (b.on:Int));rw [a1.out,a3.out];exact ap
 have aI:=lhd (show TurnP k o r a d g u w x (.nd d e (.nd a b c)) i T from ⟨A,aC,aj,y,z,aP.out.trans (aR.out.trans aw)⟩);clear aw aC ao S au y z ap aj;go_wp2_with fail;go_ret;exact ⟨rfl,aI.out⟩
def oE (k:Nat->Prop) (o r a d:Nat) (g:List Value) (u:List Nat) (w x:Int) (b c e:LT) (i:World) (f:TS i k o r g u w x) (t:Nd g a b.num d) (v:Nd g d c.num e.num) (af:b.In i g) (ag:c.In i g) (ai:e.In i g)
 (P:(a::d::(b.nums++(c.nums++e.nums))).Nodup) (ay:b.Sm) (az:c.Sm) (aA:e.Sm):
 Calls prog 271 #[o,(a:Int)] i fun q bh=>q=.returned (.int .i64 (d:Int))/\TurnP k o r a d g u w x (.nd d (.nd a b c) e) i bh:=by
 obtain ⟨b2,bc,be,b8,ba,t⟩:=t;obtain ⟨b3,bd,bf,b9,bb,v⟩:=v;obtain ⟨b0,bm,aW,bg,f⟩:=f;obtain ⟨n,bz,rfl,s⟩:=f.rd.ex (by have:=t.lt f.rd.len;omega);obtain ⟨E,ab,ac,ad⟩:=aFA P;have a9:=f.rd.c1;have b5:=f.rd.blk.lt;have b4:=s.lt;have b6:o≠n:=Bk.ne f.rd.blk s dC;have bA:(a:Int) < (r:Int):=by have:=t.lt f.rd.len;omega
 have bB:(d:Int) < (r:Int):=by have:=v.lt f.rd.len;omega
 obtain ⟨aD,bj,_⟩:=f.rd.at t;obtain ⟨aE,aF,_⟩:=f.rd.at v;have aZ:=fun b7=>s.frozen b7;obtain ⟨M,C⟩:=eqx b.num;obtain ⟨m,O⟩:=eqx c.num;obtain ⟨aa,D⟩:=eqx e.num;have am:=(f.put (a*8+1) (.int .i64 (m:Int))).put (d*8) (.int .i64 (a:Int));have ax:LK k [] i ((i.setCell ⟨n,a*8+1,none⟩ (.int .i64 (m:Int))).setCell ⟨n,d*8,none⟩ (.int .i64 (a:Int))):=(LK.set s dC (OwnF.at f.own) _).trans (LK.set (s.set (a*8+1) _) dC (OwnF.at f.own) _);have ak:At8 ((g.set (a*8+1) (.int .i64 (m:Int))).set (d*8) (.int .i64 (a:Int))) a (ndL M m b2 bc be b8 ba):=by rw [<-C];exact (t.set (j:=1) oM (.int .i64 (m:Int))).set_ne E (j:=0) oM _
 have al:At8 ((g.set (a*8+1) (.int .i64 (m:Int))).set (d*8) (.int .i64 (a:Int))) d (ndL a aa b3 bd bf b9 bb):=by rw [<-D];exact (v.set_ne (j:=1) (fun q=>E q.symm) oM (.int .i64 (m:Int))).set (j:=0) oM (.int .i64 (a:Int))
 have ah:ButL [a,d] g ((g.set (a*8+1) (.int .i64 (m:Int))).set (d*8) (.int .i64 (a:Int))):=((But8.set a g (j:=1) oM _).l (by simp)).trans ((But8.set d _ (j:=0) oM _).l (by simp));rw [O] at aE;rw [D] at aF;rw [C] at aD;have a8:=lhd (show KT o i ((i.setCell ⟨n,a*8+1,none⟩ (.int .i64 (m:Int))).setCell ⟨n,d*8,none⟩ (.int .i64 (a:Int))) from KT.keep (Keep.setCell (F:=fun c=>c=n) (Keep.setCell (F:=fun c=>c=n) (Keep.refl _ _) (p:=⟨n,a*8+1,none⟩) (.inl rfl) _) (p:=⟨n,d*8,none⟩) (.inl rfl) _) s);obtain ⟨Y,a7,aJ,aK,B,Z,a1,a3,bn⟩:=hqq9 (show TS _ k o r _ u w x from ⟨b0,_,aW,bg,am⟩) ax ak al ah af ag ai P;obtain ⟨a0,a2,K,a4,a5,L,aL,aM,aN⟩:=hqq9 C O D ab ac ad ay az aA;clear ab ac ad ay az aA f t v af ag ai P am ax ak al ah C O D s;go_enter func271,ntmps271;go_wp2_with fail
 go_region
 obtain ⟨aV,ae⟩:=eqx (((i.setCell ⟨n,a*8+1,none⟩ (.int .i64 (m:Int))).setCell ⟨n,d*8,none⟩ (.int .i64 (a:Int))).drew);have N:=Y.out.below (bR.drew);have R:=a7.out.trans (LK.below (F:=k) (bl:= []) (bR.drew));have Q:=a8.out.trans (KT.below (gt:=o) (bR.drew));rw [ae] at N R Q⊢;obtain ⟨aP,aH,aS⟩:=hqq3 Q N R;clear a8 Q N R ae a9 aD bj aE aF aZ b6 b5 b4 Y a7;go_wp2_with fail;obtain ⟨bs,b1,bt,bu,bG,W⟩:=a1.out.cel;obtain ⟨bv,a9,bw,bx,bH,X⟩:=a3.out.cel;obtain ⟨bo,bp,bq,br,bF,U⟩:=Z.out.cel;have I:=B.out _ _ (a5.out _ c.num_mem) W;have J:=B.out _ _ (L.out _ e.num_mem) X;have H:=B.out _ _ (a4.out _ b.num_mem) U;rw [a2.out] at I;rw [K.out] at J;rw [a0.out] at H;obtain ⟨bI,bJ⟩:=aL.out;obtain ⟨bK,bL⟩:=aM.out;obtain ⟨bM,bN⟩:=aN.out;have bC:=b.on_le;have bD:=c.on_le;have bE:=e.on_le;refine (fT k o r a M m b.ht c.ht b.len c.len b.on c.on _ u w x aV aH.out aJ.out H I oM oM oM oM oM oM).mono ?_;rintro q bi ⟨rfl,bk,aB,an,G,ar,av⟩;have V:=G _ _ (fun q=>L.out _ e.num_mem (by rw [K.out,q];simp)) J;have aq:=G _ _ (fun q=>E q.symm) aK.out;obtain ⟨aT,a6,aU,aQ,aR,aG,aO⟩:=hqq7 aB an G ar av V aq;clear W X U I J H aB an G ar av V aq;go_wp2_with fail;refine (fT k o r d a aa (max b.ht c.ht+1) e.ht (b.len+c.len) e.len (b.on+c.on) e.on _ u w x bi aT.out aO.out (show At8 bk a (oB M m (max b.ht c.ht+1) (b.len+c.len) (b.on+c.on) b.len b.on none) from a6.out) aG.out oM oM oM oM oM oM).mono ?_;rintro q T ⟨rfl,A,aC,ao,S,au,aw⟩;have y:ButL [a,d] g A:=B.out.trans ((aU.out.l (by simp)).trans (S.l (by simp)));have z:LK k [] i T:=aS.out.trans (aQ.out.trans au);have ap:=S _ _ E a6.out;have aj:(LT.nd d (.nd a b c) e).In T A:=by refine ⟨?_,⟨?_,Z.out.but y z a4.out (by simp),a1.out.but y z a5.out (by simp)⟩,a3.out.but y z L.out (by simp)⟩;have aX:=LT.len_nd a b c;have aY:=LT.on_nd a b c;show At8 A d (ndL (a:Int) (e.num:Int) ((max (max b.ht c.ht+1) e.ht+1:Nat):Int) (((LT.nd a b c).len+e.len:Nat):Int) (((LT.nd a b c).on+e.on:Nat):Int) ((LT.nd a b c).len:Int) ((LT.nd a b c).on:Int));rw [aX,aY,K.out];exact ao;show At8 A a (ndL (b.num:Int) (c.num:Int) ((max b.ht c.ht+1:Nat):Int) ((b.len+c.len:Nat):Int) ((b.on+c.on:Nat):Int) (b.len:Int) (b.on:Int));rw [a0.out,a2.out];exact ap
 have aI:=lhd (show TurnP k o r a d g u w x (.nd d (.nd a b c) e) i T from ⟨A,aC,aj,y,z,aP.out.trans (aR.out.trans aw)⟩);clear aw aC ao S au y z ap aj;go_wp2_with fail;go_ret;exact ⟨rfl,aI.out⟩
def aDN (f:Nat->Prop) (l m i:Nat) (q:List Value) (k:List Nat) (n o:Int) (b c:LT) (p:World) (j:Ending) (d:World):Prop:=
 ∃(a:LT) (e:List Value) (g:Nat),j=.returned (.int .i64 ((a.num:Nat):Int))/\TS d f l m e k n (wrap64 (o+(g:Int)))/\g<=4/\a.In d e/\a.er=Tr.bal b.er c.er/\a.nums.Perm (i::(b.nums++c.nums))/\a.blks.Perm (b.blks++c.blks)/\ButL (i::(b.nums++c.nums)) q e/\LK f [] p d
def eC (c:Int) (a b:Int):wrap64 (wrap64 (c+a)+b)=wrap64 (c+(a+b)):=by
 unfold wrap64;omega
def LT.Sm.l {f:Nat} {a b:LT} (c:(LT.nd f a b).Sm):a.Sm:=by
 obtain ⟨d,e⟩:=c;rw [LT.len_nd] at e;simp only [LT.ht,LT.er,Tr.ht] at d;exact ⟨by simp only [LT.ht];omega,by omega⟩
def LT.Sm.r {f:Nat} {b a:LT} (c:(LT.nd f b a).Sm):a.Sm:=by
 obtain ⟨d,e⟩:=c;rw [LT.len_nd] at e;simp only [LT.ht,LT.er,Tr.ht] at d;exact ⟨by simp only [LT.ht];omega,by omega⟩
def ButL.mono {b l':List Nat} {c d:List Value} (g:ButL b c d) (j:∀a,a∈b->a∈l'):ButL l' c d:=fun a f i e=>g a f (fun k=>i (j a k)) e
def At8.nd {f g:List Value} {e:List Nat} {b c d:Nat} (a:Nd f b c d) (i:ButL e f g) (k:b∉e):Nd g b c d:=by
 obtain ⟨j,n,o,l,m,a⟩:=a;exact ⟨j,n,o,l,m,i _ _ k a⟩
def aFg {c d:Nat} {e a b:LT} (f:(c::(e.nums++(LT.nd d a b).nums)).Nodup):(c::d::(e.nums++(a.nums++b.nums))).Nodup:=by
 refine (List.Perm.nodup_iff ?_).1 f;rw [List.perm_iff_count];intro g;simp only [LT.nums,List.count_cons,zCc];omega
def aFc (c d:Nat) (e a b:LT):(LT.nd d (.nd c e a) b).nums.Perm (c::(e.nums++(LT.nd d a b).nums)):=by
 rw [List.perm_iff_count];intro f;simp only [LT.nums,List.count_cons,zCc];omega
def aFk (e c:Nat) (d a b:LT):(LT.nd c (.nd e d a) b).blks.Perm (d.blks++(LT.nd c a b).blks):=by
 simp only [LT.blks,zCl];exact .refl _
def aFf {b d c:Nat} {k g i f:LT} (j:(b::(k.nums++(LT.nd d (.nd c g i) f).nums)).Nodup):
 (d::c::(g.nums++(i.nums++f.nums))).Nodup/\b∉ [d,c]/\(∀e,e∈(LT.nd c g (.nd d i f)).nums->e≠b)/\(∀e,e∈k.nums->e∉ [d,c])/\(b::c::(k.nums++(g.nums++(LT.nd d i f).nums))).Nodup:=by
 have q:(b::(k.nums++(LT.nd d (.nd c g i) f).nums)).Perm (d::c::(g.nums++(i.nums++f.nums))++(b::k.nums)):=by rw [List.perm_iff_count];intro s;simp only [LT.nums,List.count_cons,zCc];omega
 have r:(b::(k.nums++(LT.nd d (.nd c g i) f).nums)).Perm (b::c::(k.nums++(g.nums++(LT.nd d i f).nums))):=by rw [List.perm_iff_count];intro s;simp only [LT.nums,List.count_cons,zCc];omega
 have n:=(q.nodup_iff).1 j;have m:=(r.nodup_iff).1 j;rw [List.nodup_append] at n;obtain ⟨p,t,o⟩:=n;refine ⟨p,fun a=>o b (by simp only [List.mem_cons,List.not_mem_nil,or_false] at a;rcases a with a | a <;> simp [a]) b (by simp) rfl,fun e l a=>?_,fun e l a=>o e (by simp only [List.mem_cons,List.not_mem_nil,or_false] at a;rcases a with a | a <;> simp [a]) e (by simp [l]) rfl,m⟩;subst a;rw [List.nodup_cons] at m;refine m.1 ?_;simp only [LT.nums,List.mem_cons,zCm] at l⊢;rcases l with j | j | j | j | j <;> simp [j]
def aFb (d f e:Nat) (g b c a:LT):(LT.nd e (.nd d g b) (.nd f c a)).nums.Perm (d::(g.nums++(LT.nd f (.nd e b c) a).nums)):=by
 rw [List.perm_iff_count];intro i;simp only [LT.nums,List.count_cons,zCc];omega
def aFj (g e d:Nat) (f b c a:LT):(LT.nd d (.nd g f b) (.nd e c a)).blks.Perm (f.blks++(LT.nd e (.nd d b c) a).blks):=by
 simp only [LT.blks,zCl];exact .refl _
def aFa {c e:Nat} {d a b:LT} (f:(LT.nd c (.nd e d a) b).Sm):(LT.nd c a b).Sm:=by
 obtain ⟨g,l⟩:=f;have i:=LT.len_nd c (.nd e d a) b;have j:=LT.len_nd e d a;have k:=LT.len_nd c a b;simp only [LT.ht,LT.er,Tr.ht] at g;refine ⟨?_,by omega⟩;simp only [LT.ht,LT.er,Tr.ht];omega
def aFh {b d c:Nat} {f b1 b2 i:LT} (g:(b::((LT.nd d f (.nd c b1 b2)).nums++i.nums)).Nodup):
 (d::c::(f.nums++(b1.nums++b2.nums))).Nodup/\b∉ [d,c]/\(∀e,e∈(LT.nd c (.nd d f b1) b2).nums->e≠b)/\(∀e,e∈i.nums->e∉ [d,c])/\(b::c::((LT.nd d f b1).nums++(b2.nums++i.nums))).Nodup:=by
 have o:(b::((LT.nd d f (.nd c b1 b2)).nums++i.nums)).Perm (d::c::(f.nums++(b1.nums++b2.nums))++(b::i.nums)):=by rw [List.perm_iff_count];intro q;simp only [LT.nums,List.count_cons,zCc];omega
 have p:(b::((LT.nd d f (.nd c b1 b2)).nums++i.nums)).Perm (b::c::((LT.nd d f b1).nums++(b2.nums++i.nums))):=by rw [List.perm_iff_count];intro q;simp only [LT.nums,List.count_cons,zCc];omega
 have l:=(o.nodup_iff).1 g;have k:=(p.nodup_iff).1 g;rw [List.nodup_append] at l;obtain ⟨n,r,m⟩:=l;refine ⟨n,fun a=>m b (by simp only [List.mem_cons,List.not_mem_nil,or_false] at a;rcases a with a | a <;> simp [a]) b (by simp) rfl,fun e j a=>?_,fun e j a=>m e (by simp only [List.mem_cons,List.not_mem_nil,or_false] at a;rcases a with a | a <;> simp [a]) e (by simp [j]) rfl,k⟩;subst a;rw [List.nodup_cons] at k;refine k.1 ?_;simp only [LT.nums,List.mem_cons,zCm] at j⊢;rcases j with g |(g | g | g)| g <;> simp [g]
def aFd (b d c:Nat) (a b1 b2 e:LT):(LT.nd c (.nd d a b1) (.nd b b2 e)).nums.Perm (b::((LT.nd d a (.nd c b1 b2)).nums++e.nums)):=by
 rw [List.perm_iff_count];intro f;simp only [LT.nums,List.count_cons,zCc];omega
def aFl (e c b:Nat) (a b1 b2 d:LT):(LT.nd b (.nd c a b1) (.nd e b2 d)).blks.Perm ((LT.nd c a (.nd b b1 b2)).blks++d.blks):=by
 simp only [LT.blks,zCl];exact .refl _
def aFE {b c:Nat} {a b1 b2:LT} (d:(LT.nd b a (.nd c b1 b2)).Sm):(LT.nd b a b1).Sm:=by
 obtain ⟨e,j⟩:=d;have f:=LT.len_nd b a (.nd c b1 b2);have g:=LT.len_nd c b1 b2;have i:=LT.len_nd b a b1;simp only [LT.ht,LT.er,Tr.ht] at e;refine ⟨?_,by omega⟩;simp only [LT.ht,LT.er,Tr.ht];omega
def aFi {c d:Nat} {a b e:LT} (g:(c::((LT.nd d a b).nums++e.nums)).Nodup):(c::d::(a.nums++(b.nums++e.nums))).Nodup:=by
 have f:c::((LT.nd d a b).nums++e.nums)=c::d::(a.nums++(b.nums++e.nums)):=by simp [LT.nums]
 rwa [f] at g
def aFe (c d:Nat) (a b e:LT):(LT.nd d a (.nd c b e)).nums.Perm (c::((LT.nd d a b).nums++e.nums)):=by
 rw [List.perm_iff_count];intro f;simp only [LT.nums,List.count_cons,zCc];omega
def aFm (e c:Nat) (a b d:LT):(LT.nd c a (.nd e b d)).blks.Perm ((LT.nd c a b).blks++d.blks):=by
 simp only [LT.blks,zCl];exact .refl _
def pO (g:Nat->Prop) (c m d:Nat) (ab:List Value) (r:List Nat) (p D:Int) (t u:LT) (aa:World) (z:TS aa g c m ab r p D) (bz:Nd ab d t.num u.num) (cp:t.In aa ab) (cq:u.In aa ab) (aU:(d::(t.nums++u.nums)).Nodup) (e1:t.Sm) (e2:u.Sm):
 Calls prog 236 #[c,(d:Int)] aa (aDN g c m d ab r p D t u aa):=by
 obtain ⟨eY,ff,fg,fd,fe,bz⟩:=bz;obtain ⟨Q,dn⟩:=eqx t.ht;obtain ⟨R,dq⟩:=eqx u.ht;obtain ⟨ds,bA⟩:=eqx t.num;obtain ⟨dt,dr⟩:=eqx u.num;have dk:∀I,I∈t.nums->I≠d:=fun I V y=>by rw [List.nodup_cons] at aU;exact aU.1 (by rw [<-y];simp [V])
 have dl:∀I,I∈u.nums->I≠d:=fun I V y=>by rw [List.nodup_cons] at aU;exact aU.1 (by rw [<-y];simp [V])
 obtain ⟨c6,c7,c8,c9,cu,S⟩:=cp.cel;obtain ⟨ca,b1,cb,cc,cv,T⟩:=cq.cel;have dR:=t.on_le;have dS:=u.on_le;obtain ⟨du,dv⟩:=e1;obtain ⟨dw,dx⟩:=e2;have dj:=fT g c m d t.num u.num t.ht u.ht t.len u.len t.on u.on ab r p D aa z bz S T oM oM oM oM oM oM;obtain ⟨cI,cS,aZ,am,cG,cH,bw,aw,ax⟩:=hqq9 cp cq S T dk dl aU dn dq;obtain ⟨c4,c5,d0,an,ao⟩:=hqq5 bA dr dj (show t.Sm from ⟨du,dv⟩) (show u.Sm from ⟨dw,dx⟩);have e6:Q<=100000:=oM;have e8:R<=100000:=oM;clear cp cq S T dk dl aU dn dq bA dr dj z bz dR dS du dv dw dx;go_enter func236,ntmps236;go_wp2_with fail;refine d0.out.mono ?_;rintro y w1 ⟨rfl,A,e3,bi,bE,bB,_⟩;clear d0;have dm:t.In w1 A:=cI.out.but (bE.l (List.mem_singleton.2 rfl)) bB (fun I V y=>cG.out I V (List.mem_singleton.1 y)) (by simp);have dp:u.In w1 A:=cS.out.but (bE.l (List.mem_singleton.2 rfl)) bB (fun I V y=>cH.out I V (List.mem_singleton.1 y)) (by simp);obtain ⟨cj,cF,ag,cA,H⟩:=e3;obtain ⟨s,d1,rfl,ap⟩:=H.rd.ex (by have:=bi.lt H.rd.len;omega);have dE:=H.rd.c1;have dO:=H.rd.blk.lt;have dL:=ap.lt;have fc:(d:Int) < (m:Int):=by have:=bi.lt H.rd.len;omega
 obtain ⟨dz,dA,_⟩:=H.rd.at bi;rw [c4.out] at dz;rw [c5.out] at dA;obtain ⟨cX,b0,b6,cO,cJ,cT⟩:=hqq6 (show TS w1 g c m A r p D from ⟨cj,_,ag,cA,H⟩) bi bE bB dm dp;clear bi bE bB dm dp H ap cI cS aZ am;go_wp2_with fail;go_quiet (fail);have di:=cX.out.below ((below_drewN (Below.refl w1.heap.size w1) nq));have dg:=cO.out.trans (LK.below (F:=g) (bl:= []) (below_drewN (Below.refl w1.heap.size w1) nq));have df:=cJ.out.below (below_drewN (Below.refl w1.heap.size w1) nq);have dh:=cT.out.below (below_drewN (Below.refl w1.heap.size w1) nq);clear dE dz dA dO dL cX cO cJ cT;generalize w1.drewN nq=w2 at*
 obtain ⟨cY,cP,bF,bN⟩:=hqq4 di dg df dh;clear di dg df dh;go_wp2_with fail;obtain ⟨c6,c7,c8,c9,cu,S⟩:=bF.out.cel;obtain ⟨ca,b1,cb,cc,cv,T⟩:=bN.out.cel;rw [c4.out,aw.out] at S;rw [c5.out,ax.out] at T;have am:=lhd T;refine (iT g c m ds Q A r p D w2 cY.out S).mono ?_;rintro y e5 ⟨rfl,dy,bC,_⟩;obtain ⟨cZ,cQ,cL,cU⟩:=hqq4 dy (cP.out.trans bC) (bF.out.but (ButL.refl [] _) bC (by simp) (by simp)) (bN.out.but (ButL.refl [] _) bC (by simp) (by simp));clear dy bC S T;go_wp2_with fail;refine (iT g c m dt R A r p _ e5 cZ.out am.out).mono ?_;rintro y a2 ⟨rfl,cy,bD,_⟩;rw [eC,show (1:Int)+1=2 from rfl] at cy;obtain ⟨b4,bK,bG,bO⟩:=hqq4 cy (cQ.out.trans bD) (cL.out.but (ButL.refl [] _) bD (by simp) (by simp)) (cU.out.but (ButL.refl [] _) bD (by simp) (by simp));clear cy bD am cL cU bF bN cY cZ cP cQ;have fb:wrap64 ((Q:Int) -(R:Int))=(Q:Int) - R:=by unfold wrap64;omega
 by_cases eZ:R+1 < Q
 · have dI:decide ((Q:Int) - R > 1)=true:=zBz oM;obtain ⟨v,o,n,rfl⟩:∃v o n,t=LT.nd v o n:=by
    cases t with
    | lf d U n=>
      have y:0=Q:=aw.out;omega
    | nd v o n=>exact ⟨v,o,n,rfl⟩
   obtain rfl:v=ds:=c4.out;obtain ⟨ae,aI⟩:=eqx o.num;obtain ⟨af,aK⟩:=eqx n.num;obtain ⟨K,aG⟩:=eqx o.ht;obtain ⟨L,aJ⟩:=eqx n.ht;obtain ⟨ad,aL,aM⟩:=bG.out;obtain ⟨c6,c7,c8,c9,cu,S⟩:=aL.cel;obtain ⟨ca,x,cb,cc,cv,T⟩:=aM.cel;rw [aI,aG] at S;rw [aK,aJ] at T;obtain ⟨cj,cF,ag,cA,H⟩:=b4.out;obtain ⟨s,d1,rfl,ap⟩:=H.rd.ex (by have:=ad.lt H.rd.len;omega);have bA:(v:Int) < (m:Int):=(by have:=ad.lt H.rd.len;omega);obtain ⟨bV,aZ,am,au,bu,bv,aR,aS,c0⟩:=hqq9 H S T (show At8 A v (ndL o.num n.num _ _ _ _ _) from ad) aI aK aG aJ aL;have c1:=lhd aM;have dP:=H.rd.blk.lt;have dM:=ap.lt;have de:∀e,VisK (fun n=>n=c) a2 e->e.cell? ⟨c,1,none⟩=some (.slice (some s) m ag)/\e.cell? ⟨s,v*8,none⟩=some (.int .i64 (ae:Int))/\e.cell? ⟨s,v*8+1,none⟩=some (.int .i64 (af:Int)):=fun e z=>by obtain ⟨P,bq⟩:=bV.out.rd.vis z.1;obtain ⟨al,a1,_⟩:=bq.at au.out;rw [bu.out] at al;rw [bv.out] at a1;exact ⟨bq.c1,al,a1⟩
   have bt:=lhd de;clear aL aM S T ad aI aK aG aJ H ap de;go_wp2_with fail;refine wp_region_any kR ?_;refine kM 19 [37,38,39,40,41,42,43,44,45,46,47,48,49,50,51,52,53,54,55] (VisK (fun ay=>ay=c) a2) (VisK (fun ay=>ay=c)) 9 (fun e=>TS e g c m A r p (wrap64 (D+2))/\LK g [] a2 e) (fun P e=>P=.int .i64 (K:Int)/\TS e g c m A r p (wrap64 (D+3))/\LK g [] a2 e) [is c,is c,is c,is (.pointer (some ⟨c,1,none⟩)),is (.slice (some s) m ag),is (v:Int),is (.pointer (some ⟨s,v*8,none⟩)),is (.pointer (some ⟨s,v*8,none⟩)),is (ae:Int),cR,is c,is c,is c,is (.pointer (some ⟨c,1,none⟩)),is (.slice (some s) m ag),is (v:Int),is (.pointer (some ⟨s,v*8,none⟩)),is (.pointer (some ⟨s,v*8+1,none⟩)),is (af:Int)] _ _ rfl dC kR kR (VisK.of_below (bR.drew)) (⟨b4.out.below (bR.drew),LK.below (bR.drew)⟩) (fun _ _ z d=>z.trans (d.elim (fun U=>VisK.of_below U) id)) (fun _ _ z d=>⟨z.1.below d,z.2.trans (LK.below d)⟩) (fun _ _ _ ⟨aA,aB,cm⟩ d=>⟨aA,aB.below d,cm.trans (LK.below d)⟩) tA2 ?_ ?_
   · refine bM ?_;refine sC3 (fun k _ _ _ _ _ q _ _ _ _ a=>?_) ?_
     · have a3:k (.tmp 0)=.pointer (some c):=q 0 kR;go_simp;exact a _ _ (aD bR rfl) rfl
     refine sC3 (fun k _ _ _ _ _ q _ _ _ _ a=>?_) ?_
     · have a3:k (.tmp 0)=.pointer (some c):=q 0 kR;go_simp;exact a _ _ (aD bR rfl) rfl
     refine sC3 (fun _ _ _ _ _ _ _ b _ _ _ a=>?_) ?_
     · have ed:_=_:=b 1 38 kR rfl;go_simp;exact a _ _ (aD bR rfl) rfl
     refine sC3 (fun _ _ _ _ _ _ _ b _ _ _ a=>?_) ?_
     · have ee:_=_:=b 2 39 kR rfl;go_simp;exact a _ _ (aD bR rfl) rfl
     refine sC3 (fun _ _ M _ _ _ _ b _ _ _ a=>?_) ?_
     · have ef:_=_:=b 3 40 kR rfl;obtain ⟨a1,aP,aQ⟩:=bt.out _ M;go_simp;exact a _ _ (aD bR rfl) rfl
     refine sC3 (fun k _ _ _ _ _ q _ _ _ _ a=>?_) ?_
     · have d6:k (.tmp 5)=.int .i64 (v:Int):=q 5 kR;go_simp;exact a _ _ (aD bR rfl) rfl
     refine sC3 (fun _ _ _ _ _ _ _ b _ _ _ a=>?_) ?_
     · have eg:_=_:=b 4 41 kR rfl;have eh:_=_:=b 5 42 kR rfl;go_simp;exact a _ _ (aD bR rfl) rfl
     refine sC3 (fun _ _ _ _ _ _ _ b _ _ _ a=>?_) ?_
     · have ei:_=_:=b 6 43 kR rfl;go_simp;exact a _ _ (aD bR rfl) rfl
     refine sC3 (fun _ _ M _ _ _ _ b _ _ _ a=>?_) ?_
     · have ej:_=_:=b 7 44 kR rfl;obtain ⟨a1,aP,aQ⟩:=bt.out _ M;go_simp;exact a _ _ (aD bR rfl) rfl
     refine sC3 (fun _ e _ aC _ _ _ b _ _ _ a=>?_) ?_
     · have N:(fun e=>TS e g c m A r p (wrap64 (D+2))/\LK g [] a2 e) e:=aC rfl;have ec:_=_:=b 0 37 kR rfl;have ek:_=_:=b 8 45 kR rfl;go_simp;refine (iT g c m ae K A r p _ e N.1 aZ.out).mono ?_;rintro y a0 ⟨rfl,a8,J,cC⟩;rw [eC,show (2:Int)+1=3 from rfl] at a8;exact a _ _ (mK cC) ⟨rfl,a8,N.2.trans J⟩
     refine sC3 (fun k _ _ _ _ _ q _ _ _ _ a=>?_) ?_
     · have a3:k (.tmp 0)=.pointer (some c):=q 0 kR;go_simp;exact a _ _ (aD bR rfl) rfl
     refine sC3 (fun k _ _ _ _ _ q _ _ _ _ a=>?_) ?_
     · have a3:k (.tmp 0)=.pointer (some c):=q 0 kR;go_simp;exact a _ _ (aD bR rfl) rfl
     refine sC3 (fun _ _ _ _ _ _ _ b _ _ _ a=>?_) ?_
     · have el:_=_:=b 11 48 kR rfl;go_simp;exact a _ _ (aD bR rfl) rfl
     refine sC3 (fun _ _ _ _ _ _ _ b _ _ _ a=>?_) ?_
     · have em:_=_:=b 12 49 kR rfl;go_simp;exact a _ _ (aD bR rfl) rfl
     refine sC3 (fun _ _ M _ _ _ _ b _ _ _ a=>?_) ?_
     · have en:_=_:=b 13 50 kR rfl;obtain ⟨a1,aP,aQ⟩:=bt.out _ M;go_simp;exact a _ _ (aD bR rfl) rfl
     refine sC3 (fun k _ _ _ _ _ q _ _ _ _ a=>?_) ?_
     · have d6:k (.tmp 5)=.int .i64 (v:Int):=q 5 kR;go_simp;exact a _ _ (aD bR rfl) rfl
     refine sC3 (fun _ _ _ _ _ _ _ b _ _ _ a=>?_) ?_
     · have eo:_=_:=b 14 51 kR rfl;have ep:_=_:=b 15 52 kR rfl;go_simp;exact a _ _ (aD bR rfl) rfl
     refine sC3 (fun _ _ _ _ _ _ _ b _ _ _ a=>?_) ?_
     · have eq:_=_:=b 16 53 kR rfl;go_simp;exact a _ _ (aD bR rfl) rfl
     refine sC3 (fun _ _ M _ _ _ _ b _ _ _ a=>?_) ?_
     · have es:_=_:=b 17 54 kR rfl;obtain ⟨a1,aP,aQ⟩:=bt.out _ M;go_simp;exact a _ _ (aD bR rfl) rfl
     exact aH
   · intro k O B ah b;have dY:(fun P e=>P=.int .i64 (K:Int)/\TS e g c m A r p (wrap64 (D+3))/\LK g [] a2 e) (k (.tmp 46)) O:=b 9 46 dC rfl;have d5:k (.tmp 47)=.pointer (some c):=b 10 47 dC rfl;have d7:k (.tmp 55)=.int .i64 (af:Int):=b 18 55 dC rfl;simp only [zqq];clear b;obtain ⟨d4,bo,a6⟩:=dY;rw [d4,d5,d7];obtain ⟨b5,b2,aV,aX,cV⟩:=hqq5 bo (bK.out.trans a6) (c0.out.but (ButL.refl [] _) a6 (by simp) (by simp)) (c1.out.but (ButL.refl [] _) a6 (by simp) (by simp)) (bO.out.but (ButL.refl [] _) a6 (by simp) (by simp));clear bo a6 d4 d5 d7 ah;change wpAny prog Region.Mode.any _ _ (2+B) (bS 19 21) _ O;rw [show 2+B=(B+1)+1 by omega];refine bH (f:=B+1) (i:=19) kR ?_;refine bU rfl rfl ?_;generalize a:wpAny prog _ _ _ (B+1) _=K5;go_simp;refine (iT g c m af L A r p _ O b5.out am.out).mono ?_;rintro y X ⟨rfl,aO,a7,_⟩;rw [eC,show (3:Int)+1=4 from rfl] at aO;obtain ⟨av,b3,aW,aY,cW⟩:=hqq5 aO (b2.out.trans a7) (aV.out.but (ButL.refl [] _) a7 (by simp) (by simp)) (aX.out.but (ButL.refl [] _) a7 (by simp) (by simp)) (cV.out.but (ButL.refl [] _) a7 (by simp) (by simp));clear aO a7 aV aX cV b2 b5;subst a;refine bH (f:=B) (i:=20) kR ?_;refine bU rfl rfl ?_;generalize a:wpAny prog _ _ _ B _=K5;go_simp;subst a;refine bW kR ?_;by_cases ba:K < L
     · have ch:decide ((K:Int) < (L:Int))=true:=zBz oM;have ci:decide (K < L)=true:=zBz ba;obtain ⟨G,x,C,rfl⟩:∃G x C,n=LT.nd G x C:=by
        cases n with
        | lf I U n=>
          have y:0=L:=aS.out;omega
        | nd G x C=>exact ⟨G,x,C,rfl⟩
       obtain rfl:G=af:=bv.out;obtain ⟨b7,bg,bh⟩:=aY.out;obtain ⟨bc,bd⟩:=aFh bw.out;obtain ⟨cl,dD,az,e4,ai⟩:=av.out;obtain ⟨s,dH,rfl,bb⟩:=ai.rd.ex oM;obtain ⟨bX,bJ,c2,c3,bZ,ac⟩:=hqq6 ai b7 bg bh bc bd;have dN:=bb.lt;have dQ:=ai.rd.blk.lt;clear bg bh b7 ai bb bc bd;go_wp2_with fail;refine wp_region_any kR ?_;refine kM 10 [58,59,60,61,62,63,64,65,66,67] (fun e=>Bk e c 205 #[cl,.slice (some s) m az,.int .i64 p,.int .i64 (wrap64 (D+4))]) (KT c) 7 (fun e=>TS e g c m A r p (wrap64 (D+4))/\LK g [] X e/\KT c X e) (fun P e=>P=.int .i64 (G:Int)/\TurnP g c m v G A r p (wrap64 (D+4)) (.nd G (.nd v o x) C) X e) [is c,is c,is (.pointer (some ⟨c,1,none⟩)),is (.slice (some s) m az),is (d:Int),is c,is (v:Int),cR,is (.pointer (some ⟨s,d*8,none⟩)),is (.pointer (some ⟨s,d*8,none⟩))] _ _ rfl dC kR kR (bX.out.rd.blk.drew) (⟨av.out.below (bR.drew),LK.below (bR.drew),KT.below (bR.drew)⟩) (fun _ _ z d=>d.elim (fun U=>z.below U z.lt) (fun U=>U _ z)) (fun _ _ z d=>⟨z.1.below d,z.2.1.trans (LK.below d),z.2.2.trans (KT.below d)⟩) (fun _ _ _ ⟨aA,aB⟩ d=>⟨aA,aB.below d⟩) tA2 ?_ ?_
       · refine bM ?_;refine sC3 (fun k _ _ _ _ _ q _ _ _ _ a=>?_) ?_
         · have a3:k (.tmp 0)=.pointer (some c):=q 0 kR;go_simp;exact a _ _ (aD bR rfl) rfl
         refine sC3 (fun _ _ _ _ _ _ _ b _ _ _ a=>?_) ?_
         · have et:_=_:=b 0 58 kR rfl;go_simp;exact a _ _ (aD bR rfl) rfl
         refine sC3 (fun _ _ _ _ _ _ _ b _ _ _ a=>?_) ?_
         · have eu:_=_:=b 1 59 kR rfl;go_simp;exact a _ _ (aD bR rfl) rfl
         refine sC3 (fun _ e M _ _ _ _ b _ _ _ a=>?_) ?_
         · have ev:_=_:=b 2 60 kR rfl;have dF:e.cell? ⟨c,1,none⟩=some (.slice (some s) m az):=(M.cell 1).trans rfl;go_simp;exact a _ _ (aD bR rfl) rfl
         refine sC3 (fun k _ _ _ _ _ q _ _ _ _ a=>?_) ?_
         · have aT:k (.tmp 1)=.int .i64 (d:Int):=q 1 kR;go_simp;exact a _ _ (aD bR rfl) rfl
         refine sC3 (fun k _ _ _ _ _ q _ _ _ _ a=>?_) ?_
         · have a3:k (.tmp 0)=.pointer (some c):=q 0 kR;go_simp;exact a _ _ (aD bR rfl) rfl
         refine sC3 (fun k _ _ _ _ _ q _ _ _ _ a=>?_) ?_
         · have d6:k (.tmp 5)=.int .i64 (v:Int):=q 5 kR;go_simp;exact a _ _ (aD bR rfl) rfl
         refine sC3 (fun _ e _ aC _ _ _ b _ _ _ a=>?_) ?_
         · have N:(fun e=>TS e g c m A r p (wrap64 (D+4))/\LK g [] X e/\KT c X e) e:=aC rfl;have ez:_=_:=b 5 63 kR rfl;have eA:_=_:=b 6 64 kR rfl;go_simp;refine (oE g c m v G A r p _ o x C e N.1 ⟨_,_,_,_,_,au.out⟩ ⟨_,_,_,_,_,bJ.out⟩ (aW.out.but (ButL.refl [] _) N.2.1 (by simp) (by simp)) (c2.out.but (ButL.refl [] _) N.2.1 (by simp) (by simp)) (c3.out.but (ButL.refl [] _) N.2.1 (by simp) (by simp)) bZ.out an.out.l an.out.r.l an.out.r.r).mono ?_;rintro y a0 ⟨rfl,b9⟩;have ct:KT c e a0:=(by obtain ⟨_,_,_,_,_,cr⟩:=b9;exact cr);exact a _ _ (mK ct) ⟨rfl,b9.from N.2.1 N.2.2⟩
         refine sC3 (fun _ _ _ _ _ _ _ b _ _ _ a=>?_) ?_
         · have ew:_=_:=b 3 61 kR rfl;have ey:_=_:=b 4 62 kR rfl;go_simp;exact a _ _ (aD bR rfl) rfl
         refine sC3 (fun _ _ _ _ _ _ _ b _ _ _ a=>?_) ?_
         · have eB:_=_:=b 8 66 kR rfl;go_simp;exact a _ _ (aD bR rfl) rfl
         exact aH
       · intro k O B ah b;have dZ:(fun P e=>P=.int .i64 (G:Int)/\TurnP g c m v G A r p (wrap64 (D+4)) (.nd G (.nd v o x) C) X e) (k (.tmp 65)) O:=b 7 65 dC rfl;have d9:k (.tmp 67)=.pointer (some ⟨s,d*8,none⟩):=b 9 67 dC rfl;simp only [zqq];clear b;obtain ⟨d8,cn⟩:=dZ;rw [d8,d9];obtain ⟨a9,cz,be,ak,aN,cs⟩:=cn;obtain ⟨ck,dB,cd,cB,Z⟩:=cz;have Y:=Z.rd.c1.symm.trans ((ah.cell 1).trans rfl);injection Y with Y;injection Y with Y _ e7;subst Y e7;obtain ⟨dG,aj⟩:=cK Z.rd.row;have a4:Nd a9 d v u.num:=⟨_,_,_,_,_,ak _ _ ac.out.1 b0.out⟩;obtain ⟨dK,dV,dW,dT,dU,a4⟩:=a4;obtain ⟨al,_⟩:=Z.rd.at a4;have cg:=aj.frozen (d*8);have co:=aj.lt;obtain ⟨b8,aE⟩:=eqx (O.setCell ⟨s,d*8,none⟩ (.int .i64 (G:Int)));have aF:=Z.put (d*8) (.int .i64 (G:Int));have J:LK g [] O (O.setCell ⟨s,d*8,none⟩ (.int .i64 (G:Int))):=LK.set aj dC (OwnF.at Z.own) _;have W:ButL [d] a9 (a9.set (d*8) (.int .i64 (G:Int))):=(But8.set d a9 (j:=0) oM _).l (by simp);have bj:Nd (a9.set (d*8) (.int .i64 (G:Int))) d G u.num:=⟨_,_,_,_,_,a4.set (j:=0) oM (.int .i64 (G:Int))⟩;rw [aE] at aF J;have a5:=be.but W J (fun I V y=>ac.out.2.1 I V (List.mem_singleton.1 y)) (by simp);have bm:=(cW.out.but ak aN ac.out.2.2.1 (by simp)).but W J (fun I V y=>cH.out I V (List.mem_singleton.1 y)) (by simp);obtain ⟨bY,bL⟩:=hqq2 (show TS b8 g c m _ r p _ from ⟨ck,_,cd,cB,aF⟩) (aN.trans J);have bQ:=lhd ((b6.out.l (l:=d::((LT.nd v o (.nd G x C)).nums++u.nums)) (by simp)).trans ((ak.mono (by simp [LT.nums])).trans (W.mono (by simp))));obtain ⟨bI,ar,bP,bT⟩:=hqq4 bj a5 bm aE;clear Z aj a4 aF J W bj a5 bm aE be ak aN cs ah d8 d9;change wpAny prog Region.Mode.any _ _ (1+B) (bS 10 11) _ O;rw [zCp 1 B];refine bH (f:=B) (i:=10) kR ?_;refine bU rfl rfl ?_;generalize a:wpAny prog _ _ _ B _=K5;go_simp;subst a;refine bW kR ?_;rw [bT.out];clear al cg co;go_wp2_with fail;have bn:=an.out;refine (oD g c m d G _ r p _ (.nd v o x) C u b8 bY.out bI.out ar.out.nd ar.out.2.1 ar.out.2.2 bP.out ac.out.2.2.2 (aFE bn) bn.r.r ao.out).mono ?_;rintro y a0 ⟨rfl,cE,bp,bf,br,bk,_⟩
         have aq:=lhd (show aDN g c m d ab r p D (LT.nd v o (.nd G x C)) u aa (.returned (.int .i64 ((G:Nat):Int))) a0 from ⟨.nd G (.nd v o x) (.nd d C u),cE,4,rfl,bp,by omega,bf,by
           show Tr.nd (Tr.nd o.er x.er) (Tr.nd C.er u.er)=Tr.bal (Tr.nd o.er (Tr.nd x.er C.er)) u.er;have aT:(Tr.nd o.er (Tr.nd x.er C.er)).ht=Q:=aw.out;have bx:u.er.ht=R:=ax.out;have ce:o.er.ht=K:=aR.out;have cf:(Tr.nd x.er C.er).ht=L:=aS.out;unfold Tr.bal;rw [zBx oM];simp only [Tr.balL];rw [zBx oM];rfl,aFd ..,aFl ..,bQ.out.trans (br.mono (by simp [LT.nums])),(b3.out.trans bL.out).trans bk⟩)
         clear bp bf br bk;go_wp2_with fail;go_ret;exact aq.out
     · have ch:decide ((K:Int) < (L:Int))=false:=zBy oM;have ci:decide (K < L)=false:=zBy ba;go_wp2_with fail;obtain ⟨cw,cx⟩:=And.intro an.out.l an.out.r;refine (oD g c m d v A r p _ o n u X av.out ⟨_,_,_,_,_,b0.out⟩ ⟨_,_,_,_,_,au.out⟩ aW.out aY.out cW.out (aFi bw.out) cw cx ao.out).mono ?_;rintro y a0 ⟨rfl,cD,a8,a5,W,J,_⟩
       have aq:=lhd (show aDN g c m d ab r p D (LT.nd v o n) u aa (.returned (.int .i64 ((v:Nat):Int))) a0 from ⟨.nd v o (.nd d n u),cD,4,rfl,a8,by omega,a5,by
        show Tr.nd o.er (Tr.nd n.er u.er)=Tr.bal (Tr.nd o.er n.er) u.er;have aT:(Tr.nd o.er n.er).ht=Q:=aw.out;have bx:u.er.ht=R:=ax.out;have ce:o.er.ht=K:=aR.out;have cf:n.er.ht=L:=aS.out;unfold Tr.bal;rw [zBx oM];simp only [Tr.balL];rw [zBw oM];rfl,aFe ..,aFm ..,(b6.out.l (by simp)).trans (W.mono (by simp [LT.nums])),b3.out.trans J⟩)
       clear a8 a5 W J;go_wp2_with fail;go_ret;exact aq.out
 · have dI:decide ((Q:Int) - R > 1)=false:=zBy oM;by_cases fa:Q+1 < R
   · have dJ:decide ((Q:Int) - R < -1)=true:=zBz oM
     obtain ⟨w,o,n,rfl⟩:∃w o n,u=LT.nd w o n:=by
        cases u with
        | lf d U n=>
          have y:0=R:=ax.out;omega
        | nd w o n=>exact ⟨w,o,n,rfl⟩
     obtain rfl:w=dt:=c5.out;obtain ⟨ae,aI⟩:=eqx o.num;obtain ⟨af,aK⟩:=eqx n.num;obtain ⟨K,aG⟩:=eqx o.ht;obtain ⟨L,aJ⟩:=eqx n.ht;obtain ⟨ad,aL,aM⟩:=bO.out;obtain ⟨c6,c7,c8,c9,cu,S⟩:=aL.cel;obtain ⟨ca,x,cb,cc,cv,T⟩:=aM.cel;rw [aI,aG] at S;rw [aK,aJ] at T;obtain ⟨cj,cF,ag,cA,H⟩:=b4.out;obtain ⟨s,d1,rfl,ap⟩:=H.rd.ex (by have:=ad.lt H.rd.len;omega);have bA:(w:Int) < (m:Int):=(by have:=ad.lt H.rd.len;omega);obtain ⟨bV,aZ,am,au,bu,bv,aR,aS,c0⟩:=hqq9 H S T (show At8 A w (ndL o.num n.num _ _ _ _ _) from ad) aI aK aG aJ aL;have c1:=lhd aM;have dP:=H.rd.blk.lt;have dM:=ap.lt;have dd:∀e,VisK (fun n=>n=c) a2 e->e.cell? ⟨c,1,none⟩=some (.slice (some s) m ag)/\e.cell? ⟨s,w*8,none⟩=some (.int .i64 (ae:Int))/\e.cell? ⟨s,w*8+1,none⟩=some (.int .i64 (af:Int)):=fun e z=>by obtain ⟨P,bq⟩:=bV.out.rd.vis z.1;obtain ⟨al,a1,_⟩:=bq.at au.out;rw [bu.out] at al;rw [bv.out] at a1;exact ⟨bq.c1,al,a1⟩
     have bs:=lhd dd;clear aL aM S T ad aI aK aG aJ H ap dd;go_wp2_with fail;refine wp_region_any kR ?_;refine kM 19 [74,75,76,77,78,79,80,81,82,83,84,85,86,87,88,89,90,91,92] (VisK (fun ay=>ay=c) a2) (VisK (fun ay=>ay=c)) 9 (fun e=>TS e g c m A r p (wrap64 (D+2))/\LK g [] a2 e) (fun P e=>P=.int .i64 (L:Int)/\TS e g c m A r p (wrap64 (D+3))/\LK g [] a2 e) [is c,is c,is c,is (.pointer (some ⟨c,1,none⟩)),is (.slice (some s) m ag),is (w:Int),is (.pointer (some ⟨s,w*8,none⟩)),is (.pointer (some ⟨s,w*8+1,none⟩)),is (af:Int),cR,is c,is c,is c,is (.pointer (some ⟨c,1,none⟩)),is (.slice (some s) m ag),is (w:Int),is (.pointer (some ⟨s,w*8,none⟩)),is (.pointer (some ⟨s,w*8,none⟩)),is (ae:Int)] _ _ rfl dC kR kR (VisK.of_below (bR.drew)) (⟨b4.out.below (bR.drew),LK.below (bR.drew)⟩) (fun _ _ z d=>z.trans (d.elim (fun U=>VisK.of_below U) id)) (fun _ _ z d=>⟨z.1.below d,z.2.trans (LK.below d)⟩) (fun _ _ _ ⟨aA,aB,cm⟩ d=>⟨aA,aB.below d,cm.trans (LK.below d)⟩) tA2 ?_ ?_
     · refine bM ?_;refine sC3 (fun k _ _ _ _ _ q _ _ _ _ a=>?_) ?_
       · have a3:k (.tmp 0)=.pointer (some c):=q 0 kR;go_simp;exact a _ _ (aD bR rfl) rfl
       refine sC3 (fun k _ _ _ _ _ q _ _ _ _ a=>?_) ?_
       · have a3:k (.tmp 0)=.pointer (some c):=q 0 kR;go_simp;exact a _ _ (aD bR rfl) rfl
       refine sC3 (fun _ _ _ _ _ _ _ b _ _ _ a=>?_) ?_
       · have eE:_=_:=b 1 75 kR rfl;go_simp;exact a _ _ (aD bR rfl) rfl
       refine sC3 (fun _ _ _ _ _ _ _ b _ _ _ a=>?_) ?_
       · have eF:_=_:=b 2 76 kR rfl;go_simp;exact a _ _ (aD bR rfl) rfl
       refine sC3 (fun _ _ M _ _ _ _ b _ _ _ a=>?_) ?_
       · have eG:_=_:=b 3 77 kR rfl;obtain ⟨a1,aP,aQ⟩:=bs.out _ M;go_simp;exact a _ _ (aD bR rfl) rfl
       refine sC3 (fun k _ _ _ _ _ q _ _ _ _ a=>?_) ?_
       · have Y:k (.tmp 6)=.int .i64 (w:Int):=q 6 kR;go_simp;exact a _ _ (aD bR rfl) rfl
       refine sC3 (fun _ _ _ _ _ _ _ b _ _ _ a=>?_) ?_
       · have eH:_=_:=b 4 78 kR rfl;have eI:_=_:=b 5 79 kR rfl;go_simp;exact a _ _ (aD bR rfl) rfl
       refine sC3 (fun _ _ _ _ _ _ _ b _ _ _ a=>?_) ?_
       · have eJ:_=_:=b 6 80 kR rfl;go_simp;exact a _ _ (aD bR rfl) rfl
       refine sC3 (fun _ _ M _ _ _ _ b _ _ _ a=>?_) ?_
       · have eK:_=_:=b 7 81 kR rfl;obtain ⟨a1,aP,aQ⟩:=bs.out _ M;go_simp;exact a _ _ (aD bR rfl) rfl
       refine sC3 (fun _ e _ aC _ _ _ b _ _ _ a=>?_) ?_
       · have N:(fun e=>TS e g c m A r p (wrap64 (D+2))/\LK g [] a2 e) e:=aC rfl;have eD:_=_:=b 0 74 kR rfl;have eL:_=_:=b 8 82 kR rfl;go_simp;refine (iT g c m af L A r p _ e N.1 am.out).mono ?_;rintro y a0 ⟨rfl,a8,J,cC⟩;rw [eC,show (2:Int)+1=3 from rfl] at a8;exact a _ _ (mK cC) ⟨rfl,a8,N.2.trans J⟩
       refine sC3 (fun k _ _ _ _ _ q _ _ _ _ a=>?_) ?_
       · have a3:k (.tmp 0)=.pointer (some c):=q 0 kR;go_simp;exact a _ _ (aD bR rfl) rfl
       refine sC3 (fun k _ _ _ _ _ q _ _ _ _ a=>?_) ?_
       · have a3:k (.tmp 0)=.pointer (some c):=q 0 kR;go_simp;exact a _ _ (aD bR rfl) rfl
       refine sC3 (fun _ _ _ _ _ _ _ b _ _ _ a=>?_) ?_
       · have eM:_=_:=b 11 85 kR rfl;go_simp;exact a _ _ (aD bR rfl) rfl
       refine sC3 (fun _ _ _ _ _ _ _ b _ _ _ a=>?_) ?_
       · have eN:_=_:=b 12 86 kR rfl;go_simp;exact a _ _ (aD bR rfl) rfl
       refine sC3 (fun _ _ M _ _ _ _ b _ _ _ a=>?_) ?_
       · have eO:_=_:=b 13 87 kR rfl;obtain ⟨a1,aP,aQ⟩:=bs.out _ M;go_simp;exact a _ _ (aD bR rfl) rfl
       refine sC3 (fun k _ _ _ _ _ q _ _ _ _ a=>?_) ?_
       · have Y:k (.tmp 6)=.int .i64 (w:Int):=q 6 kR;go_simp;exact a _ _ (aD bR rfl) rfl
       refine sC3 (fun _ _ _ _ _ _ _ b _ _ _ a=>?_) ?_
       · have eP:_=_:=b 14 88 kR rfl;have eQ:_=_:=b 15 89 kR rfl;go_simp;exact a _ _ (aD bR rfl) rfl
       refine sC3 (fun _ _ _ _ _ _ _ b _ _ _ a=>?_) ?_
       · have eR:_=_:=b 16 90 kR rfl;go_simp;exact a _ _ (aD bR rfl) rfl
       refine sC3 (fun _ _ M _ _ _ _ b _ _ _ a=>?_) ?_
       · have eS:_=_:=b 17 91 kR rfl;obtain ⟨a1,aP,aQ⟩:=bs.out _ M;go_simp;exact a _ _ (aD bR rfl) rfl
       exact aH
     · intro k O B ah b;have e0:(fun P e=>P=.int .i64 (L:Int)/\TS e g c m A r p (wrap64 (D+3))/\LK g [] a2 e) (k (.tmp 83)) O:=b 9 83 dC rfl;have db:k (.tmp 84)=.pointer (some c):=b 10 84 dC rfl;have dc:k (.tmp 92)=.int .i64 (ae:Int):=b 18 92 dC rfl;simp only [zqq];clear b;obtain ⟨da,bo,a6⟩:=e0;rw [da,db,dc];obtain ⟨b5,b2,aV,aX,cM⟩:=hqq5 bo (bK.out.trans a6) (c0.out.but (ButL.refl [] _) a6 (by simp) (by simp)) (c1.out.but (ButL.refl [] _) a6 (by simp) (by simp)) (bG.out.but (ButL.refl [] _) a6 (by simp) (by simp));clear bo a6 da db dc ah;change wpAny prog Region.Mode.any _ _ (2+B) (bS 19 21) _ O;rw [show 2+B=(B+1)+1 by omega];refine bH (f:=B+1) (i:=19) kR ?_;refine bU rfl rfl ?_;generalize a:wpAny prog _ _ _ (B+1) _=K5;go_simp;refine (iT g c m ae K A r p _ O b5.out aZ.out).mono ?_;rintro y X ⟨rfl,aO,a7,_⟩;rw [eC,show (3:Int)+1=4 from rfl] at aO;obtain ⟨av,b3,aW,aY,cN⟩:=hqq5 aO (b2.out.trans a7) (aV.out.but (ButL.refl [] _) a7 (by simp) (by simp)) (aX.out.but (ButL.refl [] _) a7 (by simp) (by simp)) (cM.out.but (ButL.refl [] _) a7 (by simp) (by simp));clear aO a7 aV aX cM b2 b5;subst a;refine bH (f:=B) (i:=20) kR ?_;refine bU rfl rfl ?_;generalize a:wpAny prog _ _ _ B _=K5;go_simp;subst a;refine bW kR ?_;by_cases ba:L < K
       · have ch:decide ((L:Int) < (K:Int))=true:=zBz oM;have ci:decide (L < K)=true:=zBz ba;obtain ⟨E,x,C,rfl⟩:∃E x C,o=LT.nd E x C:=by
          cases o with
          | lf I U n=>
            have y:0=K:=aR.out;omega
          | nd E x C=>exact ⟨E,x,C,rfl⟩
         obtain rfl:E=ae:=bu.out;obtain ⟨b7,bg,bh⟩:=aW.out;obtain ⟨bc,bd⟩:=aFf bw.out;obtain ⟨cl,dD,az,e4,ai⟩:=av.out;obtain ⟨s,dH,rfl,bb⟩:=ai.rd.ex oM;obtain ⟨bX,bJ,c2,c3,bZ,ac⟩:=hqq6 ai b7 bg bh bc bd;have dN:=bb.lt;have dQ:=ai.rd.blk.lt;clear bg bh b7 ai bb bc bd;go_wp2_with fail;refine wp_region_any kR ?_;refine kM 10 [95,96,97,98,99,100,101,102,103,104] (fun e=>Bk e c 205 #[cl,.slice (some s) m az,.int .i64 p,.int .i64 (wrap64 (D+4))]) (KT c) 7 (fun e=>TS e g c m A r p (wrap64 (D+4))/\LK g [] X e/\KT c X e) (fun P e=>P=.int .i64 (E:Int)/\TurnP g c m w E A r p (wrap64 (D+4)) (.nd E x (.nd w C n)) X e) [is c,is c,is (.pointer (some ⟨c,1,none⟩)),is (.slice (some s) m az),is (d:Int),is c,is (w:Int),cR,is (.pointer (some ⟨s,d*8,none⟩)),is (.pointer (some ⟨s,d*8+1,none⟩))] _ _ rfl dC kR kR (bX.out.rd.blk.drew) (⟨av.out.below (bR.drew),LK.below (bR.drew),KT.below (bR.drew)⟩) (fun _ _ z d=>d.elim (fun U=>z.below U z.lt) (fun U=>U _ z)) (fun _ _ z d=>⟨z.1.below d,z.2.1.trans (LK.below d),z.2.2.trans (KT.below d)⟩) (fun _ _ _ ⟨aA,aB⟩ d=>⟨aA,aB.below d⟩) tA2 ?_ ?_
         · refine bM ?_;refine sC3 (fun k _ _ _ _ _ q _ _ _ _ a=>?_) ?_
           · have a3:k (.tmp 0)=.pointer (some c):=q 0 kR;go_simp;exact a _ _ (aD bR rfl) rfl
           refine sC3 (fun _ _ _ _ _ _ _ b _ _ _ a=>?_) ?_
           · have eT:_=_:=b 0 95 kR rfl;go_simp;exact a _ _ (aD bR rfl) rfl
           refine sC3 (fun _ _ _ _ _ _ _ b _ _ _ a=>?_) ?_
           · have eU:_=_:=b 1 96 kR rfl;go_simp;exact a _ _ (aD bR rfl) rfl
           refine sC3 (fun _ e M _ _ _ _ b _ _ _ a=>?_) ?_
           · have eV:_=_:=b 2 97 kR rfl;have dF:e.cell? ⟨c,1,none⟩=some (.slice (some s) m az):=(M.cell 1).trans rfl;go_simp;exact a _ _ (aD bR rfl) rfl
           refine sC3 (fun k _ _ _ _ _ q _ _ _ _ a=>?_) ?_
           · have aT:k (.tmp 1)=.int .i64 (d:Int):=q 1 kR;go_simp;exact a _ _ (aD bR rfl) rfl
           refine sC3 (fun k _ _ _ _ _ q _ _ _ _ a=>?_) ?_
           · have a3:k (.tmp 0)=.pointer (some c):=q 0 kR;go_simp;exact a _ _ (aD bR rfl) rfl
           refine sC3 (fun k _ _ _ _ _ q _ _ _ _ a=>?_) ?_
           · have Y:k (.tmp 6)=.int .i64 (w:Int):=q 6 kR;go_simp;exact a _ _ (aD bR rfl) rfl
           refine sC3 (fun _ e _ aC _ _ _ b _ _ _ a=>?_) ?_
           · have N:(fun e=>TS e g c m A r p (wrap64 (D+4))/\LK g [] X e/\KT c X e) e:=aC rfl;have e9:_=_:=b 5 100 kR rfl;have ea:_=_:=b 6 101 kR rfl;go_simp;refine (oD g c m w E A r p _ x C n e N.1 ⟨_,_,_,_,_,au.out⟩ ⟨_,_,_,_,_,bJ.out⟩ (c2.out.but (ButL.refl [] _) N.2.1 (by simp) (by simp)) (c3.out.but (ButL.refl [] _) N.2.1 (by simp) (by simp)) (aY.out.but (ButL.refl [] _) N.2.1 (by simp) (by simp)) bZ.out ao.out.l.l ao.out.l.r ao.out.r).mono ?_;rintro y a0 ⟨rfl,b9⟩;have ct:KT c e a0:=(by obtain ⟨_,_,_,_,_,cr⟩:=b9;exact cr);exact a _ _ (mK ct) ⟨rfl,b9.from N.2.1 N.2.2⟩
           refine sC3 (fun _ _ _ _ _ _ _ b _ _ _ a=>?_) ?_
           · have eW:_=_:=b 3 98 kR rfl;have eX:_=_:=b 4 99 kR rfl;go_simp;exact a _ _ (aD bR rfl) rfl
           refine sC3 (fun _ _ _ _ _ _ _ b _ _ _ a=>?_) ?_
           · have eb:_=_:=b 8 103 kR rfl;go_simp;exact a _ _ (aD bR rfl) rfl
           exact aH
         · intro k O B ah b;have dX:(fun P e=>P=.int .i64 (E:Int)/\TurnP g c m w E A r p (wrap64 (D+4)) (.nd E x (.nd w C n)) X e) (k (.tmp 102)) O:=b 7 102 dC rfl;have d3:k (.tmp 104)=.pointer (some ⟨s,d*8+1,none⟩):=b 9 104 dC rfl;simp only [zqq];clear b;obtain ⟨d2,cn⟩:=dX;rw [d2,d3];obtain ⟨a9,cz,be,ak,aN,cs⟩:=cn;obtain ⟨ck,dB,cd,cB,Z⟩:=cz;have Y:=Z.rd.c1.symm.trans ((ah.cell 1).trans rfl);injection Y with Y;injection Y with Y _ e7;subst Y e7;obtain ⟨dG,aj⟩:=cK Z.rd.row;have a4:Nd a9 d t.num w:=⟨_,_,_,_,_,ak _ _ ac.out.1 b0.out⟩;obtain ⟨dK,dV,dW,dT,dU,a4⟩:=a4;obtain ⟨_,al,_⟩:=Z.rd.at a4;have cg:=aj.frozen (d*8+1);have co:=aj.lt;obtain ⟨b8,aE⟩:=eqx (O.setCell ⟨s,d*8+1,none⟩ (.int .i64 (E:Int)));have aF:=Z.put (d*8+1) (.int .i64 (E:Int));have J:LK g [] O (O.setCell ⟨s,d*8+1,none⟩ (.int .i64 (E:Int))):=LK.set aj dC (OwnF.at Z.own) _;have W:ButL [d] a9 (a9.set (d*8+1) (.int .i64 (E:Int))):=(But8.set d a9 (j:=1) oM _).l (by simp);have bj:Nd (a9.set (d*8+1) (.int .i64 (E:Int))) d t.num E:=⟨_,_,_,_,_,a4.set (j:=1) oM (.int .i64 (E:Int))⟩;rw [aE] at aF J;have a5:=be.but W J (fun I V y=>ac.out.2.1 I V (List.mem_singleton.1 y)) (by simp);have bm:=(cN.out.but ak aN ac.out.2.2.1 (by simp)).but W J (fun I V y=>cG.out I V (List.mem_singleton.1 y)) (by simp);obtain ⟨bY,bL⟩:=hqq2 (show TS b8 g c m _ r p _ from ⟨ck,_,cd,cB,aF⟩) (aN.trans J);have bQ:=lhd ((b6.out.l (l:=d::(t.nums++(LT.nd w (.nd E x C) n).nums)) (by simp)).trans ((ak.mono (by simp [LT.nums])).trans (W.mono (by simp))));obtain ⟨bI,ar,bP,bT⟩:=hqq4 bj a5 bm aE;clear Z aj a4 aF J W bj a5 bm aE be ak aN cs ah d2 d3;change wpAny prog Region.Mode.any _ _ (1+B) (bS 10 11) _ O;rw [zCp 1 B];refine bH (f:=B) (i:=10) kR ?_;refine bU rfl rfl ?_;generalize a:wpAny prog _ _ _ B _=K5;go_simp;subst a;refine bW kR ?_;rw [bT.out];clear al cg co;go_wp2_with fail;have bn:=ao.out;refine (oE g c m d E _ r p _ t x (.nd w C n) b8 bY.out bI.out ar.out.nd bP.out ar.out.2.1 ar.out.2.2 ac.out.2.2.2 an.out bn.l.l (aFa bn)).mono ?_;rintro y a0 ⟨rfl,cE,bp,bf,br,bk,_⟩
           have aq:=lhd (show aDN g c m d ab r p D t (LT.nd w (.nd E x C) n) aa (.returned (.int .i64 ((E:Nat):Int))) a0 from ⟨.nd E (.nd d t x) (.nd w C n),cE,4,rfl,bp,by omega,bf,by
             show Tr.nd (Tr.nd t.er x.er) (Tr.nd C.er n.er)=Tr.bal t.er (Tr.nd (Tr.nd x.er C.er) n.er);have aT:t.er.ht=Q:=aw.out;have bx:(Tr.nd (Tr.nd x.er C.er) n.er).ht=R:=ax.out;have ce:(Tr.nd x.er C.er).ht=K:=aR.out;have cf:n.er.ht=L:=aS.out;unfold Tr.bal;rw [zBw oM,zBx oM];simp only [Tr.balR];rw [zBx oM];rfl,aFb ..,aFj ..,bQ.out.trans (br.mono (by simp [LT.nums])),(b3.out.trans bL.out).trans bk⟩)
           clear bp bf br bk;go_wp2_with fail;go_ret;exact aq.out
       · have ch:decide ((L:Int) < (K:Int))=false:=zBy oM;have ci:decide (L < K)=false:=zBy ba;go_wp2_with fail;obtain ⟨cw,cx⟩:=And.intro ao.out.l ao.out.r;refine (oE g c m d w A r p _ t o n X av.out ⟨_,_,_,_,_,b0.out⟩ ⟨_,_,_,_,_,au.out⟩ cN.out aW.out aY.out (aFg bw.out) an.out cw cx).mono ?_;rintro y a0 ⟨rfl,cD,a8,a5,W,J,_⟩
         have aq:=lhd (show aDN g c m d ab r p D t (LT.nd w o n) aa (.returned (.int .i64 ((w:Nat):Int))) a0 from ⟨.nd w (.nd d t o) n,cD,4,rfl,a8,by omega,a5,by
          show Tr.nd (Tr.nd t.er o.er) n.er=Tr.bal t.er (Tr.nd o.er n.er);have aT:t.er.ht=Q:=aw.out;have bx:(Tr.nd o.er n.er).ht=R:=ax.out;have ce:o.er.ht=K:=aR.out;have cf:n.er.ht=L:=aS.out;unfold Tr.bal;rw [zBw oM,zBx oM];simp only [Tr.balR];rw [zBw oM];rfl,aFc ..,aFk ..,(b6.out.l (by simp)).trans (W.mono (by simp [LT.nums])),b3.out.trans J⟩)
         clear a8 a5 W J;go_wp2_with fail;go_ret;exact aq.out
   · have dJ:decide ((Q:Int) - R < -1)=false:=zBy oM;go_wp2_with fail;go_ret;refine ⟨.nd d t u,A,2,rfl,b4.out,by omega,⟨?_,bG.out,bO.out⟩,?_,.refl _,.refl _,b6.out.l (by simp),bK.out⟩;exact b0.out
     · show Tr.nd t.er u.er=Tr.bal t.er u.er;have aT:t.er.ht=Q:=aw.out;have bx:u.er.ht=R:=ax.out;rw [Tr.bal_same _ _ oM oM]
end Go.Proofs.YtnmapianpjamnaaGreatDoor
