/- Lemmas of the walk. Conditions: each its own. -/
import Derived.Test.YtnmapianpjamnaaGreatDoorPk8
import Derived.Test.YtnmapianpjamnaaGreatDoorPk9
import Derived.Test.YtnmapianpjamnaaGreatDoorProg
set_option linter.all false
set_option maxRecDepth 100000
set_option maxHeartbeats 4000000
open Go.Proofs.Tryz
namespace Go.Proofs.YtnmapianpjamnaaGreatDoor
section
open Go.RowKit
def aCC (F:Nat->Prop) (gt k:Nat) (f:List Nat) (n:List Value) (l m:Int) (i:Nat) (g:Tr) (w:World) (j:Ending) (w':World):Prop:=
 ∃(b:LT) (c:Nat) (d:List Value),j=.returned (.int .i64 ((b.num:Nat):Int))/\TS w' F gt c d [] l m/\b.er=g/\b.In w' d/\(b.nums++f).Perm (List.range c)/\c+1=k+2*i/\b.blks.Nodup/\(∀e,e∈b.blks->w.heap.size<=e)/\ButL [] n d/\LK F [] w w'
def yJ {b d e:Nat} {c:List Nat} (f:Got b [] d e c):d=b/\e=b+1/\c= []:=by
 rcases f with ⟨g,_,_⟩|⟨_,i,j,k⟩
 · simp at g
 exact ⟨by omega,by omega,by assumption⟩
def tZ (d:Nat):aBV d []:=⟨List.nodup_nil,fun e c=>by simp at c,fun b=>absurd rfl b⟩
def aBD (bs:List Bool) (b c d:Nat):(Tr.cut bs b c d).length<=bs.length:=by
 unfold Tr.cut;rw [zAw,zAj];exact zAk (Nat.sub_le _ _) (Nat.min_le_right _ _)
def aAl {F:Nat->Prop} {gt e b d:Nat} {f:List Nat} {g:List Value} {i j:Int} {c:List Bool} {w w':World} (m:f.Perm (List.range e)) (l:xT F gt e g [] i j (lA (c.length:Int) ((c.count true:Nat):Int) d) w b w') (n:Bk w' d 240 (gQ c)) (A:w.heap.size<=d) (q:g.length=e*8):
 aCC F gt e f g i j 1 (.lf c) w (.returned (.int .i64 ((b:Nat):Int))) w':=by
 obtain ⟨C,y,z,s,t,u,v,x⟩:=l;obtain ⟨rfl,rfl,rfl⟩:=yJ s;refine ⟨.lf b d c,b+1,y,rfl,t,rfl,⟨u,n⟩,?_,by omega,by simp [LT.blks],?_,?_,x⟩;show ([b]++f).Perm (List.range (b+1));rw [List.range_succ];exact (m.cons b).trans (List.perm_append_singleton b _).symm;intro D p;simp [LT.blks] at p;omega;intro r k B a;refine v r k ?_ a;have:=a.lt q;omega
def jE {w:World} {j:List Value}:∀ {f:LT},f.In w j->∀b,b∈f.blks->b < w.heap.size
 | .lf _ _ _,d,b,e=>by have c:b∈ [_]:=e;rw [List.mem_singleton] at c;subst c;exact d.2.lt
 | .nd _ g i,d,b,e=>by have c:b∈g.blks++i.blks:=e;rw [zCl] at c;exact c.elim (jE d.2.1 b) (jE d.2.2 b)
def aAk {F:Nat->Prop} {gt y z j g s t:Nat} {q:List Nat} {E n i:List Value} {A C:Int} {p r:Tr} {b e:LT} {w w1 m D:World} (M:b.er=p) (N:e.er=r) (T:b.In w1 n) (W:e.In m i) (V:(e.nums++(b.nums++q)).Perm (List.range j)) (a7:z+1=y+2*s) (a8:j+1=z+2*t)
 (J:b.blks.Nodup) (K:e.blks.Nodup) (O:∀d,d∈b.blks->w.heap.size<=d) (u:∀d,d∈e.blks->w1.heap.size<=d) (S:∀d,d∈b.blks->d < w1.heap.size) (a4:ButL [] E n) (B:ButL [] n i) (v:LK F [] w w1) (x:LK F [] w1 m) (Y:i.length=j*8)
 (c:xT F gt j i [] A C (ndL b.num e.num ((max b.ht e.ht+1:Nat):Int) ((b.len+e.len:Nat):Int) ((b.on+e.on:Nat):Int) b.len b.on) m g D):
 aCC F gt y q E A C (s+t) (.nd p r) w (.returned (.int .i64 ((g:Nat):Int))) D:=by
 obtain ⟨aa,H,a6,a0,a1,a2,a3,k⟩:=c;obtain ⟨rfl,rfl,rfl⟩:=yJ a0;have l:ButL [] i H:=by intro Z L a9 a;refine a3 Z L ?_ a;have:=a.lt Y;omega
 have U:=T.but B x (fun _ _ c=>by simp at c) (fun _ _ c=>by simp at c);have X:=v.keep.size;refine ⟨.nd g b e,g+1,H,rfl,a1,by rw [<-M,<-N];rfl,⟨a2,U.but l k (fun _ _ c=>by simp at c) (fun _ _ c=>by simp at c),W.but l k (fun _ _ c=>by simp at c) (fun _ _ c=>by simp at c)⟩,?_,by omega,?_,?_,(a4.trans B).trans l,(v.trans x).trans k⟩;rw [List.range_succ];refine List.Perm.trans ?_ ((V.cons g).trans (List.perm_append_singleton g _).symm);rw [List.perm_iff_count];intro ab;simp only [LT.nums,List.count_cons,zCb];omega;show (b.blks++e.blks).Nodup;rw [List.nodup_append];refine ⟨J,K,fun a P I Q a5=>?_⟩;have:=S a P;have:=u I Q;omega;intro d R;have f:d∈b.blks++e.blks:=R;rw [zCl] at f;rcases f with f | f;exact O d f;exact zAk X (u d f)
def aAB (F:Nat->Prop) (gt:Nat) (y z:Int) (A:Option Addr) (t I x g:Nat) (bs:List Bool) (aQ:t<=I) (aP:t<=2000) (ag:0 < g) (aL:g<=1000) (ae:bs.length=t) (aK:∀l,l < x->¬F l) (ai:∀b,b < g->(Tr.cut bs g b (b+1)).length<=128):
 ∀(p b c d:Nat) (m:List Value) (k:List Nat) (w:World),b < c->c - b<=p+1->c<=g->TS w F gt d m [] y z->(∀l,w.heap.size<=l->F l)->d+2*(c - b)<=10000->k.Perm (List.range d)->Rd w x 1 A t (bs.map Value.bool)->x<=w.heap.size->
 Calls prog 170 #[gt,.slice A t I,(b:Int),(c:Int),(g:Int)] w (aCC F gt d k m y z (c - b) (Tr.bld bs g p b c) w):=by
 have a0:∀(b c d:Nat) (m:List Value) (k:List Nat) (w:World),c=b+1->c<=g->TS w F gt d m [] y z->(∀l,w.heap.size<=l->F l)->d+2*(c - b)<=10000->k.Perm (List.range d)->Rd w x 1 A t (bs.map Value.bool)->x<=w.heap.size->
  Calls prog 170 #[gt,.slice A t I,(b:Int),(c:Int),(g:Int)] w (aCC F gt d k m y z (c - b) (.lf (Tr.cut bs g b c)) w):=by
  intro b c d m k w ht aj j r J u s q;have ah:(Tr.cut bs g b c).length<=128:=by rw [ht];exact ai b oM
  have af:=Tr.cut_len (bs:=bs) (f:=b) ag aj;rw [ae] at af;have aT:=j.len;refine (xI F gt d m [] y z A t I x g b c _ _ _ _ bs (Tr.cut bs g b c) w j r oM (tZ d) s q aQ aP ag aL ht aj rfl rfl rfl rfl (by rw [<-af];exact ah) (by rw [<-ae];rfl) ah).mono ?_;rintro S w' ⟨aV,U,rfl,K,D,aN⟩;have T:c - b=1:=oM;rw [T];exact aAl u K D aN aT
 intro p
 induction p with
 | zero=>
   intro b c d m k w V C W j r J u s q;exact a0 b c d m k w oM W j r J u s q
 | succ p Z=>
   intro b c d m k w V C W j r J u s q;unfold Tr.bld;split;exact a0 b c d m k w oM W j r J u s q
   · rename_i ba
     obtain ⟨v,Y⟩:=eqx ((b+c)/ 2);rw [Y];have aR:¬((c:Int) -(b:Int)=1):=oM;have bb:((c:Int) -(b:Int)==1)=false:=zCa.2 aR;have b9:((b:Int)+(c:Int))/ 2=(v:Int):=oM;obtain ⟨av,aA,n,a4,az,b3⟩:=hqq6 (Z b v d m k w oM oM oM j r oM u s q) Z Y r s j.len;have b4:d<=10000:=oM;clear Z a0 j r s u Y ai;go_enter func170,ntmps170;go_wp2_with fail;refine av.out.mono ?_;rintro S w1 ⟨e,aW,b0,rfl,Q,a5,a6,a7,a8,a9,E⟩;have aO:e.blks.Nodup/\(∀U,U∈e.blks->w.heap.size<=U):=⟨a9,E.1⟩;have X:=E.2.2.keep;have aw:=lhd (X.rd az.out q aK);have L:=X.size;obtain ⟨ax,b1,M,N,a2,O,am,ay⟩:=hqq8 (aA.out v c aW b0 (e.nums++k) w1 oM oM oM Q (fun l D=>a4.out l (zAk L D)) oM a7 aw.out (zAk q L)) Q a5 a6 a8 E a9 L;clear Q a5 a6 a7 E aO X L a8;go_wp2_with fail;refine ax.out.mono ?_;rintro S aZ ⟨i,ak,a1,rfl,b2,H,R,ac,aB,aC,B⟩;have al:=N.out.but B.2.1 B.2.2 (fun _ _ j=>by simp at j) (fun _ _ j=>by simp at j);obtain ⟨aD,aE,aF,aG,aX,ad⟩:=e.cel;obtain ⟨aH,T,aI,aJ,aY,er⟩:=i.cel;have aa:At8 a1 e.num (uJ aD aE e.ht e.len e.on aF aG aX):=ad ▸ al.at
     have ab:At8 a1 i.num (uJ aH T i.ht i.len i.on aI aJ aY):=er ▸ R.at
     have aS:=B.2.2.keep.size;have b5:e.len<=2000:=(by show e.er.bits.length<=2000;rw [M.out,Tr.bld_bits bs g p _ _ (by have:=n.out;omega) (by have:=n.out;omega)];exact zAk (aBD _ _ _ _) oM);have b6:i.len<=2000:=(by show i.er.bits.length<=2000;rw [H,Tr.bld_bits bs g p _ _ (by have:=n.out;omega) (by have:=n.out;omega)];exact zAk (aBD _ _ _ _) oM);have b7:e.ht<=100000:=(by have V:=Tr.ht_lv e.er;have C:=Tr.bld_lv bs g p b v (by have:=n.out;omega) (by have:=n.out;omega);rw [<-M.out] at C;show e.er.ht<=100000;omega);have b8:i.ht<=100000:=(by have V:=Tr.ht_lv i.er;have C:=Tr.bld_lv bs g p v c (by have:=n.out;omega) (by have:=n.out;omega);rw [<-H] at C;show i.er.ht<=100000;omega);have bc:=e.on_le;have bd:=i.on_le;have aU:=b2.len;obtain ⟨an,ao,ap,ar,au,P,aq⟩:=hqq7 aa ab b2 R ac B H;clear aa ab al b2 R ac B H ad er;go_wp2_with fail;refine (aBP F gt ak e.num i.num e.ht i.ht e.len i.len e.on i.on a1 [] y z aZ ap.out (fun l D=>a4.out l (zAk ay.out (zAk aS D))) (by have:=a2.out;omega) (tZ ak) (by simp) (by simp) an.out ao.out oM oM oM oM oM oM).mono ?_;rintro S be ⟨aV,rfl,K⟩;have aM:(v - b)+(c - v)=c - b:=(by have:=n.out;omega);have a3:=lhd (aAk M.out aq.out N.out ar.out au.out a2.out aB am.out aC O.out.1 P.out.1 (jE N.out) O.out.2.1 P.out.2.1 O.out.2.2 P.out.2.2 aU K);rw [aM] at a3;clear K;go_wp2_with fail;go_ret;exact a3.out
def TreeEo (w:World) (F:Nat->Prop) (gt:Nat) (o:Option Tr):Prop:=
 ∃(k:Nat) (i:Option Addr) (j c:Nat) (g:List Value) (l:List Bool) (d:List Nat) (e m:Int),TX w F gt k i j c g l d e m/\c<=200/\((o=none/\e=-1/\d.Perm (List.range c))∨∃b:LT,o=some b.er/\b.In w g/\e=(b.num:Int)/\b.er.Ok/\b.len<=1100/\(b.nums++d).Perm (List.range c)/\b.blks.Nodup/\∀f,f∈b.blks->F f)
def TreeE (w:World) (F:Nat->Prop) (gt:Nat) (bs:List Bool):Prop:=∃o,cR o=bs/\TreeEo w F gt o
def TreeB (w:World) (b gt:Nat) (bs:List Bool):Prop:=TreeE w (fun c=>b<=c) gt bs
section
variable {w w' : World} {F G : Nat -> Prop} {gt : Nat} {bs : List Bool} {o : Option Tr}
def TreeEo.at (j:TreeEo w F gt o):TreeO w gt o:=by
 obtain ⟨d,b,c,f,i,r,p,q,g,e,_,⟨rfl,rfl,_⟩|⟨n,rfl,m,rfl,k,l,_⟩⟩:=j;exact ⟨d,b,c,f,i,_,g,e.rd,.inl ⟨rfl,rfl⟩⟩;exact ⟨d,b,c,f,i,_,g,e.rd,.inr ⟨n,rfl,m,rfl,k,l⟩⟩
def TreeEo.vis (j:TreeEo w F gt o) (c:Vis w w'):TreeEo w' F gt o:=by
 obtain ⟨i,d,e,q,v,t,g,r,x,k,n,b⟩:=j;obtain ⟨u,l⟩:=k.vis c;refine ⟨i,d,e,q,v,t,g,r,u,l,n,?_⟩;rcases b with b |⟨s,f,p,m⟩;exact .inl b;exact .inr ⟨s,f,p.vis c,m⟩
def LT.In.blt:∀ {c:LT} {e:List Value},c.In w e->∀b,b∈c.blks->b < w.heap.size:=fun d=>jE d
def TreeEo.mono (n:TreeEo w F gt o) (g:∀b,b < w.heap.size->F b->G b):TreeEo w G gt o:=by
 obtain ⟨m,i,j,y,D,B,l,z,C,p,x,d⟩:=n;refine ⟨m,i,j,y,D,B,l,z,C,p.mono g,x,?_⟩;rcases d with d |⟨A,k,f,q,r,s,t,u,v⟩;exact .inl d;exact .inr ⟨A,k,f,q,r,s,t,u,fun c e=>g c (f.blt c e) (v c e)⟩
def TreeEo.keep (r:TreeEo w F gt o) (j:Keep G w w') (i:∀c b d,b∈ [205,228,220,240,4,3]->Bk w c b d->F c->¬G c):TreeEo w' F gt o:=by
 obtain ⟨q,k,l,C,I,E,n,D,H,s,A,e⟩:=r;refine ⟨q,k,l,C,I,E,n,D,H,s.keep j fun c b d ht=>i c b d (by simp at ht;rcases ht with rfl | rfl | rfl | rfl | rfl <;> decide),A,?_⟩;rcases e with e |⟨b,m,B,t,u,v,x,y,f⟩;exact .inl e;exact .inr ⟨b,m,B.keep (fun _ _ _ a=>a) (fun p z d g=>j.bk g (i _ _ _ dC g (f p z))),t,u,v,x,y,f⟩
def TreeEo.below (c:TreeEo w F gt o) (d:Below w.heap.size w w'):TreeEo w' F gt o:=c.keep (G:=fun _=>False) (Keep.of_below d) fun _ _ _ _ _ _ b=>b
def TreeE.at (b:TreeE w F gt bs):TreeAt w gt bs:=by
 obtain ⟨o,c,b⟩:=b;exact ⟨o,c,b.at⟩
def TreeE.le (b:TreeE w F gt bs):bs.length<=1100:=b.at.le
def TreeE.vis (b:TreeE w F gt bs) (d:Vis w w'):TreeE w' F gt bs:=by
 obtain ⟨o,c,b⟩:=b;exact ⟨o,c,b.vis d⟩
def TreeE.mono (c:TreeE w F gt bs) (e:∀b,b < w.heap.size->F b->G b):TreeE w G gt bs:=by
 obtain ⟨o,d,c⟩:=c;exact ⟨o,d,c.mono e⟩
def TreeE.keep (c:TreeE w F gt bs) (i:Keep G w w') (g:∀b d e,d∈ [205,228,220,240,4,3]->Bk w b d e->F b->¬G b):TreeE w' F gt bs:=by
 obtain ⟨o,f,c⟩:=c;exact ⟨o,f,c.keep i g⟩
def TreeE.below (c:TreeE w F gt bs) (d:Below w.heap.size w w'):TreeE w' F gt bs:=c.keep (G:=fun _=>False) (Keep.of_below d) fun _ _ _ _ _ _ b=>b
def TreeB.at {b:Nat} (c:TreeB w b gt bs):TreeAt w gt bs:=TreeE.at c
def TreeB.keep {c:Nat} (d:TreeB w c gt bs) (i:Keep F w w') (g:∀b,F b->b < c):TreeB w' c gt bs:=TreeE.keep d i fun b _ _ _ _ f e=>by
 have:=g b e;have j:c<=b:=f;omega
def TreeB.below {b:Nat} (c:TreeB w b gt bs) (d:Below w.heap.size w w'):TreeB w' b gt bs:=TreeE.below c d
def TreeB.mono {B B':Nat} (b:TreeB w B gt bs) (c:B'<=B):TreeB w B' gt bs:=TreeE.mono b fun e _ d=>zAk c d
def TreeB.own {b:Nat} (d:TreeB w b gt bs):TreeE w (fun c=>b<=c) gt bs:=d
end
def rW (gt:Nat) (bs:List Bool) (c:Nat) (b:Bool) (w:World) (d:TreeAt w gt bs) (f:c<=bs.length):
 Calls prog 195 #[gt,(c:Int),.bool b] w fun e w'=>e=.returned (.int .i64 (((bs.take c).count b:Nat):Int))/\VisK (fun b=>b=gt) w w':=by
 obtain ⟨o,rfl,d⟩:=d;exact xM gt o c b w d f
def uV (gt:Nat) (bs:List Bool) (b:Nat) (w:World) (c:TreeAt w gt bs) (f:b < bs.length):
 Calls prog 174 #[gt,(b:Int)] w fun e w'=>e=.returned (.tuple #[.bool (bs.getD b false),.int .i64 0])/\VisK (fun d=>d=gt) w w':=by
 obtain ⟨o,rfl,c⟩:=c;exact aAs gt o b w c f
def rC (w:World) (b:Nat) (c:TypeId) (d:Nat):w.ownsRow b c d (.slice none 0 0) 0 []:=World.ownsRow_nil _ _ _ _
def TreeAt.blk {w:World} {gt:Nat} {bs:List Bool} (c:TreeAt w gt bs):∃b,Bk w gt 205 b:=by
 obtain ⟨o,e,c⟩:=c;obtain ⟨b,d,_⟩:=c.blk;exact ⟨b,d⟩
def TreeE.fg {w:World} {F:Nat->Prop} {gt:Nat} {bs:List Bool} (b:TreeE w F gt bs):F gt:=by
 obtain ⟨_,_,_,_,_,_,_,_,_,_,_,b,_⟩:=b;exact b.fg
def TreeB.base {w:World} {b gt:Nat} {bs:List Bool} (c:TreeB w b gt bs):b<=gt:=TreeE.fg c
end
section
def aN (b:List Nat) (c:Nat):Int:=match b[c]? with
 | some d=>(d:Int)
 | none=>-1
def aCK {b:List Nat} {c:Nat} (d:c < b.length):aN b c=(b[c]:Int):=by
 unfold aN;rw [zAa d]
def lE {b:List Nat} {c d:Nat} (e:b[c]?=some d):aN b c=(d:Int):=by
 unfold aN;rw [e]
def iM {l:List Nat} {p:Nat} (b:l.length<=p):aN l p=-1:=by
 unfold aN;rw [zBg b]
def fA {l:List Nat} {p:Nat} (b:p < l.length):0<=aN l p:=by
 rw [aCK b];omega
section
variable (a : Nat -> Int)
def eqW (w c d:Nat):Prop:=∀b,b < w->a (c+b)=a (d+b)
def ltW (w d e:Nat):Prop:=∃b,b < w/\(∀c,c < b->a (d+c)=a (e+c))/\a (d+b) < a (e+b)
variable {a}
def eqW.symm {w b c:Nat} (d:eqW a w b c):eqW a w c b:=fun f e=>(d f e).symm
def eqW.trans {w c d e:Nat} (g:eqW a w c d) (i:eqW a w d e):eqW a w c e:=fun f b=>(g f b).trans (i f b)
def eqW.refl (w b:Nat):eqW a w b b:=fun _ _=>rfl
def kY (w d e:Nat):ltW a w d e∨eqW a w d e∨ltW a w e d:=by
 induction w with
 | zero=>exact .inr (.inl fun f j=>absurd j oM)
 | succ w k=>
   rcases k with ⟨i,b,c⟩| g |⟨i,b,c⟩;exact .inl ⟨i,by omega,c⟩;rcases Int.lt_trichotomy (a (d+w)) (a (e+w)) with b | b | b;exact .inl ⟨w,by omega,g,b⟩;refine .inr (.inl fun f j=>?_);rcases zBe f w with c | c;exact g f c;have:f=w:=oM;subst this;exact b;exact .inr (.inr ⟨w,by omega,g.symm,b⟩);exact .inr (.inr ⟨i,by omega,c⟩)
def ltW.not_eq {w b c:Nat} (d:ltW a w b c):¬eqW a w b c:=by
 obtain ⟨g,e,i,j⟩:=d;intro f;have:=f g e;omega
def ltW.trans {w j k l:Nat} (q:ltW a w j k) (r:ltW a w k l):ltW a w j l:=by
 obtain ⟨e,m,f,n⟩:=q;obtain ⟨i,s,g,p⟩:=r;rcases Nat.lt_trichotomy e i with d | d | d;exact ⟨e,m,fun b c=>(f b c).trans (g b oM),by rw [<-g e d];exact n⟩;subst d;exact ⟨e,m,fun b c=>(f b c).trans (g b c),Int.lt_trans n p⟩;exact ⟨i,s,fun b c=>(f b oM).trans (g b c),by rw [f i d];exact p⟩
def ltW.irrefl {w b:Nat} (c:ltW a w b b):False:=c.not_eq (eqW.refl _ _)
def ltW.asymm {w b c:Nat} (d:ltW a w b c) (e:ltW a w c b):False:=(d.trans e).irrefl
def ltW.eq_right {w c d e:Nat} (j:ltW a w c d) (b:eqW a w d e):ltW a w c e:=by
 obtain ⟨g,i,l,m⟩:=j;exact ⟨g,i,fun f k=>(l f k).trans (b f oM),by rw [<-b g i];exact m⟩
def ltW.eq_left {w c d e:Nat} (b:eqW a w c d) (j:ltW a w d e):ltW a w c e:=by
 obtain ⟨g,i,l,m⟩:=j;exact ⟨g,i,fun f k=>(b f oM).trans (l f k),by rw [b g i];exact m⟩
def ltW.le_right {w f c d:Nat} (e:ltW a w f c) (g:¬ltW a w d c):ltW a w f d:=by
 rcases kY (a:=a) w c d with b | b | b;exact e.trans b;exact e.eq_right b;exact absurd b g
def xB (w d e:Nat):eqW a (w+w) d e↔eqW a w d e/\eqW a w (d+w) (e+w):=by
 constructor
 · intro c;refine ⟨fun b f=>c b oM,fun b f=>?_⟩;have:=c (w+b) oM;rwa [<-Nat.add_assoc,<-Nat.add_assoc] at this
 · intro ⟨g,i⟩ b f;rcases zBe b w with c | c;exact g b c
   · have:=i (b - w) oM;rwa [show d+w+(b - w)=d+b by omega,show e+w+(b - w)=e+b by omega] at this
def wP (w d e:Nat):ltW a (w+w) d e↔ltW a w d e∨(eqW a w d e/\ltW a w (d+w) (e+w)):=by
 constructor
 · intro ⟨b,j,f,i⟩;rcases zBe b w with g | g;exact .inl ⟨b,g,f,i⟩
   · refine .inr ⟨fun c k=>f c oM,b - w,by omega,fun c k=>?_,?_⟩
     · have:=f (w+c) oM;rwa [<-Nat.add_assoc,<-Nat.add_assoc] at this
     · rwa [show d+w+(b - w)=d+b by omega,show e+w+(b - w)=e+b by omega]
 · rintro (⟨b,j,f,i⟩|⟨l,b,j,f,i⟩);exact ⟨b,by omega,f,i⟩
   · refine ⟨w+b,by omega,fun c k=>?_,by rwa [<-Nat.add_assoc,<-Nat.add_assoc]⟩;rcases zBe c w with g | g;exact l c g
     · have:=f (c - w) oM;rwa [show d+w+(c - w)=d+c by omega,show e+w+(c - w)=e+c by omega] at this
def RankOk (a d:Nat->Int) (w:Nat):Prop:=∀b c,d b < d c↔ltW a w b c
def RankOk.eq {d:Nat->Int} {w:Nat} (f:RankOk a d w) (b c:Nat):d b=d c↔eqW a w b c:=by
 constructor;intro g;rcases kY (a:=a) w b c with e | e | e;have:=(f b c).2 e;omega;exact e;have:=(f c b).2 e;omega;intro g;have e:¬(d b < d c):=fun i=>((f b c).1 i).not_eq g;have j:¬(d c < d b):=fun i=>((f c b).1 i).not_eq g.symm;omega
def fN (b:Nat->Int) (w c d:Nat):Int:=if b c≠b d then b c - b d else b (c+w) - b (d+w)
def nE {i:Nat->Int} {w:Nat} (e:RankOk a i w) (c d:Nat):fN i w c d < 0↔ltW a (w+w) c d:=by
 unfold fN;rw [wP];by_cases g:i c=i d
 · rw [zBv (by simpa using g)];have j:¬ltW a w c d:=fun l=>by have:=(e c d).2 l;omega
   have k:=(e.eq c d).1 g;have f:=e (c+w) (d+w);constructor;intro b;exact .inr ⟨k,f.1 oM⟩;rintro (b |⟨_,b⟩);exact absurd b j;have:=f.2 b;omega
 rw [zBw g];have f:=e c d;constructor;intro b;exact .inl (f.1 oM);rintro (b |⟨b,_⟩);have:=f.2 b;omega;exact absurd ((e.eq c d).2 b) g
def aB9 {d:Nat->Int} {w:Nat} (g:RankOk a d w) (b c:Nat):fN d w b c=0↔eqW a (w+w) b c:=by
 unfold fN;rw [xB];by_cases e:d b=d c;rw [zBv (by simpa using e)];constructor;intro f;exact ⟨(g.eq b c).1 e,(g.eq _ _).1 oM⟩;intro ⟨_,f⟩;have:=(g.eq _ _).2 f;omega;rw [zBw e];constructor;intro f;exact absurd (show d b=d c by omega) e;intro ⟨f,_⟩;exact absurd ((g.eq b c).2 f) e
def cN (o:Nat->Nat->Int) (b:Nat->Nat):Nat->Nat
 | 0=>0
 | i+1=>cN o b i+(if o (b i) (b (i+1))≠0 then 1 else 0)
def aCr (o:Nat->Nat->Int) (b:Nat->Nat) (c:Nat):cN o b c<=cN o b (c+1)/\cN o b (c+1)<=cN o b c+1:=by
 show cN o b c<=cN o b c+_/\cN o b c+_<=cN o b c+1;split <;> omega
def mS (o:Nat->Nat->Int) (c:Nat->Nat) (d b:Nat):cN o c d<=cN o c (d+b)/\cN o c (d+b)<=cN o c d+b:=by
 induction b with
 | zero=>exact ⟨zAs _,zAs _⟩
 | succ b e=>
   have:=aCr o c (d+b);rw [<-Nat.add_assoc];omega
def rR {o:Nat->Nat->Int} {c:Nat->Nat} {w p:Nat} (l:∀b n,o b n=0↔eqW a w b n) (s:∀b,b+1 < p->¬ltW a w (c (b+1)) (c b)) (b e:Nat) (v:b+e < p):
 (cN o c b < cN o c (b+e)↔ltW a w (c b) (c (b+e)))/\¬ltW a w (c (b+e)) (c b):=by
 induction e with
 | zero=>exact ⟨⟨fun d=>absurd d (by simp),fun d=>d.irrefl.elim⟩,fun d=>d.irrefl⟩
 | succ e t=>
   obtain ⟨q,i⟩:=t oM;have j:=s (b+e) oM;have u:=mS o c b e;have g:cN o c (b+(e+1))=cN o c (b+e)+(if o (c (b+e)) (c (b+e+1))≠0 then 1 else 0):=rfl;rw [show b+(e+1)=b+e+1 from rfl] at g⊢;have r:¬ltW a w (c (b+e+1)) (c b):=fun d=>j (d.le_right i);refine ⟨?_,r⟩;by_cases f:o (c (b+e)) (c (b+e+1))=0;have m:=(l _ _).1 f;rw [g,zBv (by simpa using f),zBp,q];exact ⟨fun d=>d.eq_right m,fun d=>d.eq_right m.symm⟩;rw [g,zBw f];refine ⟨fun _=>?_,fun _=>by omega⟩;have k:ltW a w (c (b+e)) (c (b+e+1)):=(by rcases kY (a:=a) w (c (b+e)) (c (b+e+1)) with d | d | d;exact d;exact absurd ((l _ _).2 d) f;exact absurd d j);rcases kY (a:=a) w (c b) (c (b+e)) with d | d | d;exact d.trans k;exact ltW.eq_left d k;exact absurd d i
end
def aCe {l:List Nat} {w b c:Nat} (k:l.length<=w) (g:b < l.length) (j:c < l.length) (i:b≠c):¬eqW (aN l) w b c:=by
 intro e;rcases zBe b c with f | f;have d:=e (l.length - c) oM;rw [iM (show l.length<=c+(l.length - c) by omega)] at d;have:=fA (l:=l) (p:=b+(l.length - c)) oM;omega;have d:=e (l.length - b) oM;rw [iM (show l.length<=b+(l.length - b) by omega)] at d;have:=fA (l:=l) (p:=c+(l.length - b)) oM;omega
def zP {c g:List Nat} {o:Nat->Nat->Int} {f:Nat->Nat} {w:Nat} (E:0 < w) (y:∀b d,o b d=0↔eqW (aN c) w b d) (z:∀b,b+1 < c.length->¬ltW (aN c) w (f (b+1)) (f b))
 (q:g.length=c.length) (x:∀b,b < c.length->g[f b]?=some (cN o f b)) (A:∀e,e < c.length->∃b,b < c.length/\f b=e):RankOk (aN c) (aN g) w:=by
 have I:∀b d,b < c.length->d < c.length->(aN g (f b) < aN g (f d)↔ltW (aN c) w (f b) (f d)):=by intro b d t u;rw [lE (x b t),lE (x d u)];rcases zBe b d with C | C;have:=(rR y z b (d - b) oM).1;rw [show b+(d - b)=d by omega] at this;rw [<-this];omega;have n:=rR y z d (b - d) oM;rw [show d+(b - d)=b by omega] at n;have s:=(mS o f d (b - d)).1;rw [show d+(b - d)=b by omega] at s;exact ⟨fun j=>absurd j oM,fun j=>absurd j n.2⟩
 intro e k;rcases zBe e c.length with m | m;obtain ⟨b,t,rfl⟩:=A e m;rcases zBe k c.length with i | i;obtain ⟨d,u,rfl⟩:=A k i;exact I b d t u;have n:=fA (l:=g) (p:=f b) (by rw [q];exact m);have s:=iM (l:=g) (p:=k) (by rw [q];exact i);refine ⟨fun j=>absurd j oM,fun ⟨v,H,B,r⟩=>?_⟩;exfalso;have J:=fA (l:=c) (p:=f b) m;rcases v with _ | v;rw [zBp,zBp,iM i] at r;omega;have:=B 0 oM;rw [zBp,zBp,iM i] at this;omega;have s:=iM (l:=g) (p:=e) (by rw [q];exact m);rcases zBe k c.length with i | i;have n:=fA (l:=g) (p:=k) (by rw [q];exact i);refine ⟨fun _=>⟨0,E,fun K D=>absurd D oM,?_⟩,fun _=>by omega⟩;rw [zBp,zBp,iM m];have:=fA (l:=c) (p:=k) i;omega;have n:=iM (l:=g) (p:=k) (by rw [q];exact i);refine ⟨fun j=>absurd j oM,fun ⟨v,H,B,r⟩=>?_⟩;rw [iM oM,iM oM] at r;exact absurd r oM
def aC7 {a:Nat->Int} {o:Nat->Nat->Int} {d:Nat->Nat} {w e:Nat} (k:∀b c,o b c=0↔eqW a w b c) (l:∀b,b+1 < e->¬ltW a w (d (b+1)) (d b)) (r:0 < e) (q:cN o d (e - 1)=e - 1) (b c:Nat) (n:b < c) (p:c < e):ltW a w (d b) (d c):=by
 have g:=mS o d 0 b;have i:=mS o d b (c - b);have j:=mS o d c (e - 1 - c);have m:cN o d 0=0:=rfl;rw [zBi] at g;rw [show b+(c - b)=c by omega] at i;rw [show c+(e - 1 - c)=e - 1 by omega] at j;have f:=(rR k l b (c - b) oM).1;rw [show b+(c - b)=c by omega] at f;exact f.1 oM
def aCs {o:Nat->Nat->Int} {c:Nat->Nat} {n:Nat} (d:∀b,b+1 < n->o (c b) (c (b+1))≠0) (b:Nat) (e:b < n):cN o c b=b:=by
 induction b with
 | zero=>rfl
 | succ b f=>
   show cN o c b+_=_;rw [zBw (d b e),f oM]
def wD (b:List Nat):RankOk (aN b) (aN b) 1:=by
 intro i j;constructor;intro c;exact ⟨0,by omega,fun k e=>absurd e oM,c⟩;rintro ⟨f,g,_,d⟩;have:f=0:=oM;subst this;exact d
end
section
open Go.RowKit
structure OrdAt (W:World) (gw gn gr:Nat) (w n:Nat) (A:Option Addr) (c:Nat) (R:List Nat):Prop where
 wide:W.cell? gw=some (.int .i64 (w:Int))
 len:W.cell? gn=some (.int .i64 (n:Int))
 rank:W.cell? gr=some (.slice A n c)
 rd:Rd W W.heap.size 1 A n (R.map sv)
def OrdAt.drewN {e:World} {j g i w k f:Nat} {c:Option Addr} {d:List Nat} (b:OrdAt e j g i w k c f d) (l:Nat):OrdAt (e.drewN l) j g i w k c f d:=⟨b.wide,b.len,b.rank,b.rd⟩
def OrdAt.at {i:World} {p m n w k l:Nat} {f:Option Addr} {g:List Nat} (q:OrdAt i p m n w k f l g) {e:Nat} (s:e < k):∃(b c d:Nat),f=some ⟨b,c,none⟩/\g[e]?=some d/\i.cell? ⟨b,c+e,none⟩=some (.int .i64 (d:Int)):=by
 obtain ⟨b,c,v,rfl,u,j,r⟩:=q.rd.get s;rw [zAf] at j;obtain ⟨d,t,rfl⟩:=Option.map_eq_some_iff.1 j;exact ⟨b,c,d,rfl,t,r⟩
def qN (m j k w d r:Nat) (q:Option Addr) (f:List Nat) (c:Nat) (i:World) (b:OrdAt i m j k w d q r f) (H:w<=1000) (E:d<=1000) (D:c < d):
 Calls prog 152 #[(c:Int),m,j,k] i fun s w'=>s=.returned (.int .i64 (aN f (c+w)))/\∃v,w'=i.drewN v:=by
 have B:f.length=d:=by simpa using b.rd.1
 have y:=b.wide;have z:=b.len;have A:=b.rank;by_cases t:c+w < d
 · have u:(c:Int)+(w:Int) < (d:Int):=oM;obtain ⟨x,I,J,rfl,n,C⟩:=b.at t;have e:=lE n;have g:=lhd e;clear n b e;go_enter func152,ntmps152;go_wp2;go_ret;exact ⟨by rw [g.out];first | rfl | simp_all,0,rfl⟩
 · have u:¬((c:Int)+(w:Int) < (d:Int)):=oM;have e:=iM (l:=f) (p:=c+w) oM;have g:=lhd e;clear b e;go_enter func152,ntmps152;go_wp2;go_ret;exact ⟨by rw [g.out];rfl,0,rfl⟩
def qM (p n l M w c A:Nat) (S:Option Addr) (b:List Nat) (j k:Nat) (f:World) (d:OrdAt f p n l w c S A b) (a4:f.cell? M=some (.func (.func 152) #[] #[p,n,l])) (P:w<=1000) (O:c<=1000) (u:∀Z∈b,Z<=1000) (Q:j < c) (R:k < c):
 Calls prog 153 #[(j:Int),(k:Int),l,M] f fun q w'=>q=.returned (.int .i64 (fN (aN b) w j k))/\∃e,w'=f.drewN e:=by
 have a2:=d.rank;have J:=lhd d;obtain ⟨a0,a9,r,N,D,a5⟩:=d.at Q;obtain ⟨a1,aa,e,t,m,a6⟩:=d.at R;rw [N] at t;injection t with t;injection t with e1 e2;subst e1 e2;have a7:=u r (zAd D);have a8:=u e (zAd m);have K:=lE D;have L:=lE m;have y:∀E,-1<=aN b E/\aN b E<=1000:=by
  intro E;unfold aN;split
  · next z hz=>
    have:=u z (zAd hz);omega
  omega
 have b1:=y (j+w);have b2:=y (k+w);have C:fN (aN b) w j k=if (r:Int)≠(e:Int) then (r:Int) -(e:Int) else aN b (j+w) - aN b (k+w):=by unfold fN;rw [K,L]
 obtain ⟨H,v⟩:=eqx (aN b (j+w));obtain ⟨s,x⟩:=eqx (aN b (k+w));rw [v,x] at C;rw [v] at b1;rw [x] at b2;rw [C];subst N;obtain ⟨T,U⟩:=hqq2 v x;clear d D m K L y C v x u;by_cases W:r=e
 · subst W;rw [zBv (by simp)];go_enter func153,ntmps153;go_wp2;go_quiet (fail);go_wp2;have X:∀i:Nat,Calls prog 152 #[(j:Int),p,n,l] (f.drewN (nq+i)) fun q I=>q=.returned (.int .i64 H)/\∃c,I=f.drewN (nq+c):=fun i=>by have d:=qN p n l w c A _ b j (f.drewN (nq+i)) (J.out.drewN _) P O Q;rw [T.out] at d;exact d.mono fun _ _ ⟨B,e,m⟩=>⟨B,i+e,by rw [m,World.drewN_drewN,Nat.add_assoc]⟩
   have Y:∀i:Nat,Calls prog 152 #[(k:Int),p,n,l] (f.drewN (nq+i)) fun q I=>q=.returned (.int .i64 s)/\∃c,I=f.drewN (nq+c):=fun i=>by have d:=qN p n l w c A _ b k (f.drewN (nq+i)) (J.out.drewN _) P O R;rw [U.out] at d;exact d.mono fun _ _ ⟨B,e,m⟩=>⟨B,i+e,by rw [m,World.drewN_drewN,Nat.add_assoc]⟩
   have a3:IntKind.i64.wrap (H - s)=H - s:=(by rw [IntKind.wrap_i64];omega);go_quiet ((first |(with_reducible exact X _)|(with_reducible exact Y _)));go_wp2;go_ret;exact ⟨cZ (by first | omega | rfl),_,World.drewN_drewN _ _ _⟩
 · have V:¬((r:Int)=(e:Int)):=oM;rw [zBw V];go_enter func153,ntmps153;go_wp2;go_quiet (fail);go_wp2;go_quiet (fail);go_wp2;go_ret;exact ⟨cZ oM,_,World.drewN_drewN _ _ _⟩
@[irreducible] def wcells (g:Nat->Value) (c s:Int):Array Value:=#[g 0,g 1,g 2,g 3,g 4,g 5,g 6,g 7,g 8,.int .i64 c,.int .i64 s]
def aT (b:Nat->Value) (c d:Int):(wcells b c d)[0]?=some (b 0)/\(wcells b c d)[1]?=some (b 1)/\(wcells b c d)[2]?=some (b 2)/\(wcells b c d)[3]?=some (b 3)/\(wcells b c d)[4]?=some (b 4)/\(wcells b c d)[5]?=some (b 5)/\(wcells b c d)[6]?=some (b 6)/\(wcells b c d)[7]?=some (b 7)/\(wcells b c d)[8]?=some (b 8)/\(wcells b c d)[9]?=some (.int .i64 c)/\(wcells b c d)[10]?=some (.int .i64 d):=by
 unfold wcells;exact ⟨rfl,rfl,rfl,rfl,rfl,rfl,rfl,rfl,rfl,rfl,rfl⟩
def bS (b:Nat->Value) (c e d:Int):(wcells b c e).setIfInBounds 10 (.int .i64 d)=wcells b c d:=by
 unfold wcells;rfl
def lS (c:Nat->Value) (d e:Int) (b:Nat) (q:b < 9):(wcells c d e)[b]?=some (c b):=by
 obtain ⟨f,g,i,j,k,l,m,n,p,_⟩:=aT c d e;rcases b with _ | _ | _ | _ | _ | _ | _ | _ | _ | b
 all_goals first | assumption | omega
def vN (c:Nat->Value) (e g:Int) (b:Nat) (i:b < 9) (f:Value):(wcells c e g).setIfInBounds b f=wcells (fun d=>if d=b then f else c d) e g:=by
 unfold wcells;rcases b with _ | _ | _ | _ | _ | _ | _ | _ | _ | b
 all_goals first | rfl | omega
def Vis.waveC {w w':World} {e:Nat} {d:Nat->Value} {f g:Int} (i:Vis w w') (j:Bk w e 135 (wcells d f g)):∃c,Bk w' e 135 (wcells d f c):=by
 rcases i.wave j with b |⟨c,b⟩;exact ⟨g,b⟩;rw [bS] at b;exact ⟨c,b⟩
def aAv (gt gk f c:Nat) (lv t:Int) (l:Value) (bs:List Bool) (d:Nat) (b:Bool) (w:World) (ht:TreeAt w gt bs) (i:Bk w gk 3 #[(d:Int)]) (g:Bk w f 4 #[.bool b]) (j:Bk w c 3 #[l]) (s:d<=bs.length):
 Calls prog 194 #[.agg #[gt,.int .i64 lv,.int .i64 t],gk,f,c] w fun m w'=>m=.returned (.tuple #[])/\
  ∃w1,VisK (fun b=>b=gt) w w1/\Bk w1 c 3 #[l]/\w'=w1.setCell c (.int .i64 (((bs.take d).count b:Nat):Int)):=by
 have u:w.cell? gk=some (.int .i64 (d:Int)):=(i.cell 0).trans rfl;have v:w.cell? f=some (.bool b):=(g.cell 0).trans rfl;have z:=i.lt;have A:=g.lt;have B:=j.lt;obtain ⟨r,Hn⟩:=hqq2 ht j;clear ht i g j;go_enter func194,ntmps194;go_wp2_with fail;refine (rW gt bs d b _ (r.out.below (bR.alloc nL _)) s).mono ?_;rintro m w1 ⟨rfl,n⟩;have k:VisK (fun b=>b=gt) w w1:=(VisK.of_below (bR.alloc nL _)).trans n;have e:=k.1.bk Hn.out dC dC;have x:w1.cell? c=some l:=(e.cell 0).trans rfl;have y:=e.frozen 0;obtain ⟨p,q⟩:=hqq2 k e;clear n k e;go_wp2_with fail;go_end0;exact ⟨rfl,w1,p.out,q.out,rfl⟩
def Vis.of_wave {w w':World} {d:Nat} {e:Nat->Value} {g m i:Int} (b:Keep (fun c=>c=d) w w') (j:Bk w d 135 (wcells e g m)) (k:Bk w' d 135 (wcells e g i)):Vis w w':=by
 refine ⟨b.os,b.tape,b.output,b.size,fun c l _=>?_⟩;by_cases f:c=d;subst f;exact .inr (.inr ⟨_,i,j,by rw [bS];exact k⟩);exact .inl (b.block c l f)
def aAz (c gt gk K d:Nat) (t:Nat->Value) (z ax lv j:Int) (a9:Value) (bs:List Bool) (g:Nat) (b:Bool) (w:World) (H:Bk w c 135 (wcells t z ax)) (ht:TreeAt w gt bs) (O:Bk w gk 3 #[(g:Int)]) (M:Bk w K 4 #[.bool b]) (D:Bk w d 3 #[a9]) (ar:g<=bs.length):
 Calls prog 115 #[c,.agg #[gt,.int .i64 lv,.int .i64 j],.func (.func 194) #[] #[gk,K,d]] w fun i w'=>i=.returned (.tuple #[])/\
  VisF (fun b=>b=d) w w'/\Keep (fun b=>b=c∨b=gt∨b=d) w w'/\Bk w' d 3 #[.int .i64 (((bs.take g).count b:Nat):Int)]:=by
 obtain ⟨o,R⟩:=eqx (Obj.cells #[gt,.int .i64 lv,.int .i64 j] 143);have a1:=(Below.refl w.heap.size w).alloc nL o;have S:=Bk.new w 143 #[gt,.int .i64 lv,.int .i64 j];rw [R] at S;have aK:=O.lt;have aL:=M.lt;have aM:=D.lt;have aN:=H.lt;have av:=Bk.ne D H dC;obtain ⟨I,Hn,V,U,X,q,W,ag⟩:=hqq8 ht D O M H a1 S R;clear ht O M D H a1 S R;go_enter func115,ntmps115;go_wp2_with fail;rw [ag.out];refine (aAv gt gk K d lv j a9 bs g b _ (I.out.below q.out) (V.out.alloc _) (U.out.alloc _) (Hn.out.alloc _) ar).mono ?_;rintro i n ⟨rfl,w1,s,Q,rfl⟩;obtain ⟨m,a6⟩:=((Vis.of_below q.out).trans s.1).waveC X.out;have y:=a6.far (p:=d) (fun e=>av e.symm) (.int .i64 (((bs.take g).count b:Nat):Int));have a4:=I.out.vis ((Vis.of_below q.out).trans s.1);have x:TreeAt (w1.setCell d (.int .i64 (((bs.take g).count b:Nat):Int))) gt bs:=a4.same fun ak aO aB a3 e=>e.far (fun i=>by
  have al:ak=d:=i;subst al;rw [<-(aU Q e).1] at a3;exact absurd a3 dC) _
 obtain ⟨A,T⟩:=x.visits;have r:=(s.1.bk W.out dC dC).far (p:=d) (fun e=>absurd (show w.heap.size=d from e) oM) (.int .i64 (((bs.take g).count b:Nat):Int));have E:=Q.set 0 (.int .i64 (((bs.take g).count b:Nat):Int));have N:VisF (fun b=>b=d) w (w1.setCell d (.int .i64 (((bs.take g).count b:Nat):Int))):=VisF.put (F:=fun b=>b=d) (VisF.of_vis ((Vis.of_below q.out).trans s.1)) (p:=d) (.inl rfl) _;have P:Keep (fun b=>b=c∨b=gt∨b=d) w (w1.setCell d (.int .i64 (((bs.take g).count b:Nat):Int))):=Keep.setCell (F:=fun b=>b=c∨b=gt∨b=d) ((Keep.of_below q.out).trans (s.2.mono fun b _ i=>.inr (.inl i))) (p:=d) (.inl (.inr (.inr rfl))) _;obtain ⟨B,a0⟩:=eqx (w1.setCell d (.int .i64 (((bs.take g).count b:Nat):Int)));rw [a0] at y x T r E N P⊢;have aw:B.cell? w.heap.size=some (.pointer (some gt)):=(r.cell 0).trans rfl;obtain ⟨J,ah,af,ad,ae,ai,aj⟩:=hqq7 y r E N P x T;have au:=x.lt;have aJ:=r.lt;have ap:=Bk.ne y r dC;have ao:=Bk.ne y E dC;have aq:gt≠c:=by rintro rfl;obtain ⟨_,C⟩:=ai.out.blk;exact absurd (aU C J.out).1 dC
 clear y r E N P x T a0 a6 a4 Q s q I Hn V U X W aw;go_wp2_with fail;refine wp_region_any kR ?_;refine dF [9,10,11,12,13,14,15,16,17,18] (fun b=>b=c) 10 [3,10] (fun n=>Bk n c 135 (wcells t z m)) (fun _ n=>Bk n c 135 (wcells t z (IntKind.i64.wrap (m+A)))) [is c,is c,is (.pointer (some ⟨c,10,none⟩)),is (.int .i64 m),is w.heap.size,is gt,is (.int .i64 A),is (.int .i64 (IntKind.i64.wrap (m+A))),is c,is (.pointer (some ⟨c,10,none⟩)),dU] _ _ rfl kR kR (J.out) (fun n aR e _ an=>Bk.below e an e.lt) (fun _ _ _ e g=>Bk.below e g e.lt) tA1 ?_ ?_
 · refine bN ?_;refine pH3 0 (.pointer (some c)) ?_;refine pV3 0 9 ?_;refine pV3 1 10 ?_;refine sC3 (fun _ k _ L _ _ _ l _ _ _ u=>?_) ?_
   · have v:=L rfl;have aD:_=_:=l 2 11 kR rfl;have az:k.cell? ⟨c,10,none⟩=some (.int .i64 m):=(v.cell 10).trans (aT _ _ _).2.2.2.2.2.2.2.2.2.2;go_simp;exact kq u rfl
   refine pH3 4 (.pointer (some w.heap.size)) ?_;refine pL3 4 13 (fun k f=>have f:Keep (fun b=>b=c) B k:=kD f;(((f.bk ah.out (fun e=>ap (show w.heap.size=c from e).symm)).cell 0).trans rfl:k.cell? w.heap.size=some (.pointer (some gt)))) ?_;refine sC3 (fun _ k f _ _ _ _ l _ _ _ u=>?_) ?_
   · replace f:Keep (fun b=>b=c) B k:=kD f;have aE:_=_:=l 5 14 kR rfl;go_simp;refine (fM gt A k ((f.cell au aq).trans aj.out)).mono ?_;rintro i aS ⟨rfl,am⟩;exact u _ _ (aC am) rfl
   refine pW3 3 12 6 15 ?_;refine pV3 0 9 ?_;refine pV3 8 17 ?_;refine sC3 (fun _ k _ L _ _ _ l _ _ _ u=>?_) ?_
   · have v:=L rfl;have aG:_=_:=l 9 18 kR rfl;have aF:_=_:=l 7 16 kR rfl;have aA:k.cell? ⟨c,10,none⟩=some (.int .i64 m):=(v.cell 10).trans (aT _ _ _).2.2.2.2.2.2.2.2.2.2;have aI:=v.frozen 10;go_simp;refine u (.bool true) _ (cK (Keep.setCell (F:=fun b=>b=c) (Keep.refl _ _) (p:=⟨c,10,none⟩) (.inl rfl) _)) ?_;rw [<-bS t z m];exact v.set 10 _
   exact aP
 · intro aH a8 f l a2;replace f:Keep (fun b=>b=c) B a8:=kD f;obtain ⟨aQ,a7⟩:∃ay,(fun _ n=>Bk n c 135 (wcells t z (IntKind.i64.wrap (m+A)))) ay a8:=a2 10 dC;simp only [zqq];clear l a2;have a5:=Vis.of_wave f J.out a7;have Y:=VisF.trans ad.out (VisF.of_vis a5);have C:=ae.out.trans (f.mono fun b _ i=>.inl i);have Z:=f.bk af.out (fun i=>ao (show d=c from i).symm);obtain ⟨aa,ab,ac⟩:=hqq3 Y C Z;clear a5 Y C Z a7 f;go_wp2_with fail;go_end0;exact ⟨rfl,aa.out,ab.out,ac.out⟩
def oT (j gt:Nat) (n:Nat->Value) (C D lv e:Int) (bs:List Bool) (c:Nat) (b:Bool) (w:World) (l:Bk w j 135 (wcells n C D)) (ht:TreeAt w gt bs) (P:c<=bs.length):
 Calls prog 118 #[j,.agg #[gt,.int .i64 lv,.int .i64 e],(c:Int),.bool b] w fun d w'=>d=.returned (.int .i64 (((bs.take c).count b:Nat):Int))/\VisK (fun b=>b=j∨b=gt) w w':=by
 have R:∀(q:Fn) (first p:Array Value) (w:World),(Instr.makeFunc q first p).run prog w=.ok (.func q first p) w:=fun _ _ _ _=>rfl;obtain ⟨i,g⟩:=eqx ((((w.alloc (.cells #[gt,.int .i64 lv,.int .i64 e] 143)).alloc (.cells #[(c:Int)] 3)).alloc (.cells #[.bool b] 4)).alloc (.cells #[.int .i64 0] 3));have k:Below w.heap.size w i:=by rw [<-g];exact (((bR.alloc nL _).alloc (by simp) _).alloc (by simp;omega) _).alloc (by simp;omega) _
 have r:Bk i (w.heap.size+1) 3 #[(c:Int)]:=by rw [<-g];have f:=Bk.new (w.alloc (.cells #[gt,.int .i64 lv,.int .i64 e] 143)) 3 #[(c:Int)];rw [show (w.alloc (.cells #[gt,.int .i64 lv,.int .i64 e] 143)).heap.size=w.heap.size+1 from by simp] at f;exact (f.alloc _).alloc _
 have s:Bk i (w.heap.size+1+1) 4 #[.bool b]:=by rw [<-g];have f:=Bk.new ((w.alloc (.cells #[gt,.int .i64 lv,.int .i64 e] 143)).alloc (.cells #[(c:Int)] 3)) 4 #[.bool b];rw [show ((w.alloc (.cells #[gt,.int .i64 lv,.int .i64 e] 143)).alloc (.cells #[(c:Int)] 3)).heap.size=w.heap.size+1+1 from by simp] at f;exact f.alloc _
 have t:Bk i (w.heap.size+1+1+1) 3 #[.int .i64 0]:=by rw [<-g];have f:=Bk.new (((w.alloc (.cells #[gt,.int .i64 lv,.int .i64 e] 143)).alloc (.cells #[(c:Int)] 3)).alloc (.cells #[.bool b] 4)) 3 #[.int .i64 0];rw [show (((w.alloc (.cells #[gt,.int .i64 lv,.int .i64 e] 143)).alloc (.cells #[(c:Int)] 3)).alloc (.cells #[.bool b] 4)).heap.size=w.heap.size+1+1+1 from by simp] at f;exact f
 have B:=l.below k l.lt;have z:=ht.below k;obtain ⟨N,M,E,H,I,L,m⟩:=hqq7 B z r s t g k;clear l ht B z r s t g k;go_enter func118,ntmps118;go_wp2_with fail;rw [L.out];refine (aAz j gt _ _ _ n C D lv e _ bs c b i N.out M.out E.out H.out I.out P).mono ?_;rintro d w1 ⟨rfl,A,x,y⟩;have u:Vis w w1:=VisF.to_vis (VisF.trans (VisF.of_vis (Vis.of_below m.out)) A) (fun b O d=>by omega);have v:Keep (fun b=>b=j∨b=gt) w w1:=(Keep.of_below m.out).trans' x (fun b O d=>by
  rcases d with d | d | d;exact .inl d;exact .inr d
  · omega)
 have Q:w1.cell? ⟨w.heap.size+1+1+1,0,none⟩=some (.int .i64 (((bs.take c).count b:Nat):Int)):=(y.cell 0).trans rfl;obtain ⟨J,K⟩:=hqq2 u v;clear A x y u v;go_wp2_with fail;go_ret;exact ⟨rfl,J.out,K.out⟩
end
end Go.Proofs.YtnmapianpjamnaaGreatDoor
