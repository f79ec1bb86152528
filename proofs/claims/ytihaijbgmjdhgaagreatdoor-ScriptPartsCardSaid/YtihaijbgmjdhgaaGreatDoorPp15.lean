/- Lemmas of the walk. Conditions: each its own. -/
import Derived.Test.YtihaijbgmjdhgaaGreatDoorPp12
import Derived.Test.YtihaijbgmjdhgaaGreatDoorPp13
import Derived.Test.YtihaijbgmjdhgaaGreatDoorProg
import Derived.Test.YtihaijbgmjdhgaaGreatDoorShl
import Derived.Test.YtihaijbgmjdhgaaGreatDoorShi
import Derived.Test.YtihaijbgmjdhgaaGreatDoorSht
set_option linter.all false
set_option maxRecDepth 100000
set_option maxHeartbeats 1000000
open Go.Proofs.Tryz
namespace Go.Proofs.YtihaijbgmjdhgaaGreatDoor
section
open Go.RowKit
def OwnF (F:Nat->Prop) (b:Value):Prop:=∀a,b.ownBlock=some a->F a
def Gw (F:Nat->Prop) (b:Nat) (a:Nat):Prop:=F a∨b<=a
theorem Gw.keep {F:Nat->Prop} {w w1 b:World} (c:Keep F w w1) (d:Keep (Gw F w.heap.size) w1 b):Keep F w b:=c.trans' d fun e f a=>by
 rcases a with a | a;exact a;omega
theorem OwnF.mono {F G:Nat->Prop} {b:Value} (c:OwnF F b) (e:∀a,F a->G a):OwnF G b:=fun a d=>e a (c a d)
theorem OwnF.slice {F:Nat->Prop} {b f e c:Nat} (d:F b):OwnF F (.slice (some ⟨b,f,none⟩) e c):=fun g a=>by
 injection a with a;rw [<-a];exact d
theorem OwnF.at {F:Nat->Prop} {a e d b:Nat} (c:OwnF F (.slice (some ⟨a,e,none⟩) d b)):F a:=c a rfl
def ArenaE (w:World) (F:Nat->Prop) (ga:Nat) (tk:List Bool) (fr:List Nat):Prop:=
 F ga/\∃b d a c,Bk w ga 204 #[.slice b tk.length d,.slice a fr.length c,.int .i64 268435456]/\w.ownsRow 0 4 1 (.slice b tk.length d) tk.length (tk.map Value.bool)/\w.ownsRow 0 3 1 (.slice a fr.length c) fr.length (fr.map sv)/\OwnF F (.slice b tk.length d)/\OwnF F (.slice a fr.length c)
theorem ArenaE.vis {w w':World} {F:Nat->Prop} {ga:Nat} {tk:List Bool} {fr:List Nat} (f:ArenaE w F ga tk fr) (a:Vis w w'):ArenaE w' F ga tk fr:=by
 obtain ⟨g,c,e,b,d,j,k,l,m,n⟩:=f;exact ⟨g,c,e,b,d,a.bk j dC dC,a.own k dC dC,a.own l dC dC,m,n⟩
theorem ArenaE.mono {w:World} {F G:Nat->Prop} {ga:Nat} {tk:List Bool} {fr:List Nat} (m:ArenaE w F ga tk fr) (c:∀a,a < w.heap.size->F a->G a):ArenaE w G ga tk fr:=by
 obtain ⟨n,j,l,g,k,d,e,f,o,p⟩:=m;exact ⟨c _ d.lt n,j,l,g,k,d,e,f,fun a b=>c a (e.lt a b).2 (o a b),fun a b=>c a (f.lt a b).2 (p a b)⟩
theorem ArenaE.keep {w w':World} {F G:Nat->Prop} {ga:Nat} {tk:List Bool} {fr:List Nat} (r:ArenaE w F ga tk fr) (f:Keep G w w') (e:∀a m c,m∈ [204,4,3]->Bk w a m c->F a->¬G a):ArenaE w' F ga tk fr:=by
 obtain ⟨g,o,q,n,p,j,s,t,k,l⟩:=r;refine ⟨g,o,q,n,p,f.bk j (e _ _ _ dC j g),aB s fun a c d b=>f.bk b (e _ _ _ dC b (k a d)),aB t fun a c d b=>f.bk b (e _ _ _ dC b (l a d)),k,l⟩
def TreeE (w:World) (F:Nat->Prop) (gt:Nat) (bs:List Bool):Prop:=
 F gt/\∃(ga:Nat) (c:Int),
   (bs= []/\F ga/\Bk w gt 288 #[ga,.slice none 0 0,.int .i64 (-1),.int .i64 c]/\Bk w ga 204 #[.slice none 0 0,.slice none 0 0,.int .i64 268435456])∨
   (bs= []/\∃a b e,F a/\Bk w gt 288 #[ga,.slice (some ⟨a,0,none⟩) 1 b,.int .i64 (-1),.int .i64 c]/\w.ownsRow 0 291 8 (.slice (some ⟨a,0,none⟩) 1 b) 1 e/\ArenaE w F ga [false] [0])∨
   (bs≠ []/\bs.length<=128/\∃a b d,F a/\F d/\LeafV w 0 gt ga a b d 0 c bs/\ArenaE w F ga [true] [])
section
variable {w w' : World} {F G : Nat -> Prop} {gt : Nat} {bs : List Bool}
theorem TreeE.at (l:TreeE w F gt bs):TreeAt w gt bs:=by
 obtain ⟨m,ga,d,⟨a,c,b,g⟩|⟨a,f,e,o,c,b,g,j⟩|⟨a,c,f,e,k,b,g,j,n⟩⟩:=l;exact ⟨ga,d,.inl ⟨a,_,b⟩⟩;exact ⟨ga,d,.inl ⟨a,_,b⟩⟩;exact ⟨ga,d,.inr ⟨a,c,f,e,k,j⟩⟩
theorem TreeE.le (g:TreeE w F gt bs):bs.length<=128:=by
 obtain ⟨l,ga,o,⟨a,b,c,d⟩|⟨a,f,e,n,b,c,d,j⟩|⟨a,b,f,e,k,c,d,j,m⟩⟩:=g
 · rw [a];simp
 · rw [a];simp
 exact b
theorem TreeE.vis (o:TreeE w F gt bs) (a:Vis w w'):TreeE w' F gt bs:=by
 obtain ⟨k,ga,s,⟨b,c,d,e⟩|⟨b,j,g,r,c,d,e,m⟩|⟨b,c,j,g,n,d,e,m,q⟩⟩:=o;obtain ⟨f,l⟩:=a.tree d;exact ⟨k,ga,f,.inl ⟨b,c,l,a.bk e dC dC⟩⟩;obtain ⟨f,l⟩:=a.tree d;exact ⟨k,ga,f,.inr (.inl ⟨b,j,g,r,c,l,a.own e dC dC,m.vis a⟩)⟩;obtain ⟨f,p⟩:=m.vis a;exact ⟨k,ga,f,.inr (.inr ⟨b,c,j,g,n,d,e,p,q.vis a⟩)⟩
theorem TreeE.mono (o:TreeE w F gt bs) (a:∀g,g < w.heap.size->F g->G g):TreeE w G gt bs:=by
 obtain ⟨l,ga,m,⟨e,f,b,c⟩|⟨e,k,j,q,f,b,c,d⟩|⟨e,f,k,j,n,b,c,d,p⟩⟩:=o;exact ⟨a _ b.lt l,ga,m,.inl ⟨e,a _ c.lt f,b,c⟩⟩;exact ⟨a _ b.lt l,ga,m,.inr (.inl ⟨e,k,j,q,a _ (c.lt _ rfl).2 f,b,c,d.mono a⟩)⟩;exact ⟨a _ d.tree.lt l,ga,m,.inr (.inr ⟨e,f,k,j,n,a _ d.row.lt.2 b,a _ d.blk.lt c,d,p.mono a⟩)⟩
theorem TreeE.keep (u:TreeE w F gt bs) (c:Keep G w w') (b:∀a m e,m∈ [288,204,291,320,4,3]->Bk w a m e->F a->¬G a):TreeE w' F gt bs:=by
 obtain ⟨l,ga,s,⟨n,f,d,g⟩|⟨n,r,q,x,f,d,g,j⟩|⟨n,f,r,q,t,d,g,j,v⟩⟩:=u;exact ⟨l,ga,s,.inl ⟨n,f,c.bk d (b _ _ _ dC d l),c.bk g (b _ _ _ dC g f)⟩⟩;exact ⟨l,ga,s,.inr (.inl ⟨n,r,q,x,f,c.bk d (b _ _ _ dC d l),aB g (fun a e k o=>c.bk o (b _ _ _ dC o (by injection k with k;rw [<-k];exact f))),j.keep c fun a m e p=>b a m e (by simp at p;rcases p with rfl | rfl | rfl <;> decide)⟩)⟩;exact ⟨l,ga,s,.inr (.inr ⟨n,f,r,q,t,d,g,⟨c.bk j.tree (b _ _ _ dC j.tree l),aB j.row (fun a e k o=>c.bk o (b _ _ _ dC o (by injection k with k;rw [<-k];exact d))),c.bk j.blk (b _ _ _ dC j.blk g)⟩,v.keep c fun a m e p=>b a m e (by simp at p;rcases p with rfl | rfl | rfl <;> decide)⟩)⟩
theorem TreeE.below (b:TreeE w F gt bs) (c:Below w.heap.size w w'):TreeE w' F gt bs:=b.keep (G:=fun _=>False) (Keep.of_below c) fun _ _ _ _ _ _ a=>a
end
theorem TreeB.own {w:World} {f gt:Nat} {bs:List Bool} (r:TreeB w f gt bs):TreeE w (fun b=>f<=b) gt bs:=by
 obtain ⟨ga,l,j,k,⟨c,d,a⟩|⟨c,d,q,o,p,t,a⟩⟩:=r;exact ⟨j,ga,l,.inl ⟨c,k,d,a⟩⟩
 · obtain ⟨m,n,s,g⟩:=a.arena;refine ⟨j,ga,l,.inr (.inr ⟨c,d,q,o,p,a.row.lt.1,t,a.toV,k,m,n,none,0,s,aZ g.own (zAp _),World.ownsRow_nil _ _ _ _,fun b e=>(g.own.lt b e).1,fun b e=>by cases e⟩)⟩
theorem LeafV.below {w w':World} {c gt ga f d e:Nat} {g j:Int} {bs:List Bool} (a:LeafV w c gt ga f d e g j bs) (b:Below w.heap.size w w'):LeafV w' c gt ga f d e g j bs:=
 ⟨a.tree.below b a.tree.lt,aH a.row b,a.blk.below b a.blk.lt⟩
theorem ArenaE.own {w:World} {F:Nat->Prop} {ga:Nat} {tk:List Bool} {fr:List Nat} (A:ArenaE w F ga tk fr):∃f:Nat->Prop,(∀b,f b->F b)/\(∀b c d,f b->Bk w b c d->c=204∨c=4∨c=3)/\(∀b,f b->b < w.heap.size)/\ArenaE w f ga tk fr:=by
 obtain ⟨B,r,t,q,s,n,o,p,D,E⟩:=A;have u:∀ {l:TypeId} {g k b:Nat} {j:Option Addr} {v:List Value} {c:TypeId} {d:Array Value},w.ownsRow 0 l 1 (.slice j g k) g v->(Value.slice j g k).ownBlock=some b->Bk w b c d->c=l:=fun {l g k b j v c d} H a e=>by
  rcases H.2 with ⟨m,_⟩|⟨y,I,J,m,_,z,_⟩
  · rw [m] at a;cases a
  rw [m] at a;injection a with a;have x:y=b:=a;subst x;exact (bL e z).1
 refine ⟨fun b=>b=ga∨(Value.slice r tk.length t).ownBlock=some b∨(Value.slice q fr.length s).ownBlock=some b,fun b a=>?_,fun b c d a e=>?_,fun b a=>?_,.inl rfl,r,t,q,s,n,o,p,fun b a=>.inr (.inl a),fun b a=>.inr (.inr a)⟩;rcases a with rfl | a | a;exact B;exact D b a;exact E b a;rcases a with rfl | a | a;exact .inl (bL e n).1;exact .inr (.inl (u o a e));exact .inr (.inr (u p a e));rcases a with rfl | a | a;exact n.lt;exact (o.lt b a).2;exact (p.lt b a).2
theorem Gw.gw {F:Nat->Prop} {c d:Nat} (e:c<=d):∀b,Gw (Gw F c) d b->Gw F c b:=fun b a=>by
 rcases a with a | a;exact a;exact .inr oM
theorem rU:(prog.info? 5).map (fun i=>(i.zero,i.size,i.bytes))=some (some (.int .u8 0),1,1):=by kernel_rfl
theorem aCu (a:Nat) (w:World) (r:a<=1099511627776):
 Calls prog 105 #[.slice none 0 0,(a:Int)] w fun j w'=>∃e,j=.returned e/\w'.ownsRow w.heap.size 5 1 e 0 []/\Below w.heap.size w w':=by
 obtain ⟨o,k,m,s,n⟩:=info_parts rU;rcases zAz a with b | b
 · subst b;go_enter func105,ntmps105;go_wp2;go_ret;exact ⟨_,rfl,World.ownsRow_nil _ _ _ _,Below.refl _ _⟩
 · have c:=Lib.run_append_nil_zeros (P:=prog) w 22 3 22 5 o (.int .u8 0) .i64 .i64 underlying22 underlying3 k m a b oM oM (by rw [n];omega);have q:=grownCap_ge w a 0 5;have l:=grownCap_le_maxLen w a 0 5 (by unfold maxLen;omega);generalize grownCap w a 0 5=cp at*
   have d:(Builtin.zeroCells (Value.int .u8 0).cells a++Builtin.zeroCells (Value.int .u8 0).cells (cp - a)).size=cp*1:=(by simp [Builtin.zeroCells,Value.cells];omega);obtain ⟨g,f⟩:=hqq2 d c;clear d c;have p:¬((a:Int) < 0):=oM;go_enter func105,ntmps105;go_wp2_with (at_builtin;refine Lib.wpList_append_run _ rfl (.tmp 20) (.tmp 21) _ _ rfl _ _ rfl rfl _ _ f.out ?_);go_ret;exact ⟨_,rfl,World.ownsRow_made _ _ _ nL l g.out,bR.drew.alloc nL _⟩
structure Sl where
 A:Option Addr
 n:Nat
 c:Nat
 l:List UInt8
def slV (a:Sl):Value:=.slice a.A a.n a.c
def fY (a:List Sl):List UInt8:=a.flatMap (·.l)
theorem rG (b:List Sl) (a:Nat) (c:Sl) (d:b[a]?=some c):fY (b.take (a+1))=fY (b.take a)++c.l:=by
 rw [zAu,d];simp [fY]
theorem sQ (a:List Sl) (b:Nat):(fY (a.take b)).length<=(fY a).length:=by
 have:fY a=fY (a.take b)++fY (a.drop b):=by unfold fY;rw [<-List.flatMap_append,zAt]
 rw [this,zAi];omega
theorem kL (K:Option Addr) (f a5 t:Nat) (d:List Sl) (v:List UInt8) (N:Nat) (y:fY d=v) (X:v.length=N) (w:World) (E:Rd w t 1 K f (d.map slV)) (H:∀b∈d,Rd w t 1 b.A b.n (b.l.map bv)) (W:t<=w.heap.size) (aq:f<=1099511627776) (ae:N<=1099511627776):
 Calls prog 59 #[.slice K f a5] w fun V w'=>∃r s,V=.returned (.slice r N s)/\Made w' w.heap.size 5 1 r N s (v.map bv)/\Below w.heap.size w w':=by
 obtain ⟨am,ab,aj,ak,al⟩:=info_parts rU;have Y:d.length=f:=by simpa using E.1
 have Z:∀a,(fY (d.take a)).length<=1099511627776:=fun a=>by have:=sQ d a;rw [y] at this;omega
 have a1:∀a b,d[a]?=some b->b.l.length=b.n/\(fY (d.take (a+1))).length=(fY (d.take a)).length+b.n:=fun a b e=>by
  have m:=(H b (zAd e)).1;have g:b.l.length=b.n:=by simpa using m
  rw [rG d a b e,zAi,g];exact ⟨rfl,rfl⟩
 obtain ⟨k,Q,U,T,a3,M,L⟩:=hqq7 Y Z a1 (E.mono W) (fun b e=>(H b e).mono W) y X;clear Y Z a1 E H y X;go_enter func59,ntmps59;go_wp2;go_loopw [3,11] (fun J i wr=>∃a:Nat,a<=f/\i=.int .i64 a/\J=.int .i64 ((fY (d.take a)).length:Int)/\w=wr) (fun _ i _=>f -(intOf i).toNat)
 case atStart=>exact ⟨0,zAp _,rfl,by simp [fY],rfl⟩
 case round=>
  obtain ⟨a,ac,rfl,rfl,rfl⟩:=hrel;by_cases D:a < f
  · obtain ⟨b,e⟩:∃b,d[a]?=some b:=⟨d[a]'(by have:=k.out;omega),zAa (by have:=k.out;omega)⟩;obtain ⟨a4,an,ao,rfl,a8,j,z⟩:=T.out.get D;rw [zAf,e] at j;simp at j;subst j;unfold slV at z;obtain ⟨m,g⟩:=U.out a b e;have x:=Q.out (a+1);generalize a0:(fY (d.take a)).length=I at*
    have u:=lhd g;rw [g] at x;clear m g e a0;have ar:¬((I:Int)+(b.n:Int) < 0):=oM;go_wp2;go_roundw
    case rel=>exact ⟨a+1,by omega,by go_num,by rw [u.out];go_num,trivial⟩
    case measure=>simp [intOf];omega
  · have B:a=f:=oM;have aa:f<=a:=oM;have q:d.take a=d:=zAg (by have:=k.out;omega);rw [q,M.out,L.out];clear B q;go_wp2_with fail;refine (aCu N _ ae).mono ?_;rintro V w1 ⟨au,rfl,af,a7⟩;go_wp2_with fail;go_loopw [6,27] (fun J i wr=>∃a:Nat,a<=f/\i=.int .i64 a/\wr.ownsRow w.heap.size 5 1 J (fY (d.take a)).length ((fY (d.take a)).map bv)/\Below w.heap.size w wr) (fun _ i _=>f -(intOf i).toNat)
    case atStart=>exact ⟨0,zAp _,rfl,af,a7⟩
    case round=>
        obtain ⟨a,ac,rfl,p,o⟩:=hrel;have a2:=o.size;by_cases D:a < f
        · obtain ⟨b,e⟩:∃b,d[a]?=some b:=⟨d[a]'(by have:=k.out;omega),zAa (by have:=k.out;omega)⟩;obtain ⟨a4,an,ao,rfl,a8,j,z⟩:=(T.out.below o).get D;rw [zAf,e] at j;simp at j;subst j;unfold slV at z;have ah:=lhd ((a3.out b (zAd e)).below o);obtain ⟨m,g⟩:=U.out a b e;have x:=Q.out (a+1);obtain ⟨ai,u⟩:=hqq2 (rG d a b e) g;generalize a0:(fY (d.take a)).length=I at*
          rw [g] at x;have O:=lhd p;clear m g e p;go_wp2_with (at_builtin;refine aP _ rfl (.tmp 31) (.tmp 32) _ rfl w.heap.size 5 am (.int .u8 0) 1 1 underlying22 ab aj ak al rfl dC _ I _ rfl O.out w.heap.size b.A b.n b.c _ rfl ah.out (eP _) (by unfold maxLen;omega) oM a2 ?_;intro av aw ag a9 ap);have a6:=aL o O.out a9 a2;go_roundw
          case rel=>refine ⟨a+1,by omega,by go_num,?_,a6⟩;rw [u.out,ai.out,zAy];exact ag
          case measure=>simp [intOf];omega
        · have B:a=f:=oM;have aa:f<=a:=oM;have q:d.take a=d:=zAg (by have:=k.out;omega);rw [q,M.out,L.out] at p;obtain ⟨r,s,rfl,ad⟩:=aF p;clear B q p;go_wp2;go_ret;exact ⟨r,s,rfl,ad,o⟩
theorem vW (a:Nat) (w:World) (m:a<=2147483648):
 Calls prog 61 #[(a:Int),.slice none 0 0] w fun d w'=>∃gp ga,d=.returned (.tuple #[.pointer (some ⟨gp,0,none⟩),.int .i64 0])/\PermAt w' w.heap.size gp ga (.slice none 0 0) (.slice none 0 0) (.slice none 0 0) (.slice none 0 0) a a [] [] [] []/\Below w.heap.size w w':=by
 have k:¬((a:Int) < 0):=oM;have l:¬((a:Int) > 2147483648):=oM;go_enter func61,ntmps61;go_wp2_with fail;refine (mD _).mono ?_;rintro d w1 ⟨rfl,b,e⟩;obtain ⟨g,c⟩:=hqq2 b e;have n:=b.lt;clear b e;go_wp2_with fail;refine wp_loop_rounds 1 ?_;rw [rounds_succ];go_wp2_with fail;go_ret2;have f:=c.out.size;exact ⟨_,_,rfl,⟨Bk.new _ _ _,World.ownsRow_nil _ _ _ _,World.ownsRow_nil _ _ _ _,g.out.alloc _,World.ownsRow_nil _ _ _ _,World.ownsRow_nil _ _ _ _,.inl rfl,fun o j=>(by cases j),⟨f,zAs _⟩⟩,c.out.alloc f _⟩
def bO (a:List Nat) (c b:Nat):List (Nat×Nat):=((List.range b).filter fun i=>a.getD i 0 % c==0).map fun i=>(i,a.getD i 0)
theorem wP (b:List Nat) (c a:Nat):bO b c (a+1)=if b.getD a 0 % c=0 then bO b c a++ [(a,b.getD a 0)] else bO b c a:=by
 unfold bO;rw [List.range_succ,List.filter_append,zAy];by_cases d:b.getD a 0 % c=0
 · rw [zBv d];simp only [List.filter_cons,d,beq_self_eq_true,if_true,List.filter_nil,List.map_cons,List.map_nil]
 · rw [zBu d];have:(b.getD a 0 % c==0)=false:=(by simpa using d);simp only [List.filter_cons,this,Bool.false_eq_true,if_false,List.filter_nil,List.map_nil,List.append_nil]
theorem jG {d:List Nat} {f c:Nat} {a:Nat×Nat} (b:a∈bO d f c):a.1 < c/\a.2=d.getD a.1 0:=by
 unfold bO at b;obtain ⟨i,e,rfl⟩:=zAx.1 b;have:=(zCo.1 e).1;exact ⟨by simpa using this,rfl⟩
theorem kU (e:List Nat) (d c:Nat):(bO e d c).Pairwise (fun a b=>a.1 < b.1):=by
 unfold bO;rw [List.pairwise_map];exact List.Pairwise.filter _ List.pairwise_lt_range
theorem uI {C:List (Nat×Nat)} {a:Nat} (b:a < C.length):(bC C a,eB C a)∈C:=by
 unfold bC eB;rw [zAb,zAa b];exact zBi b
theorem uH {C:List (Nat×Nat)} (f:C.Pairwise (fun a b=>a.1 < b.1)):(List.range C.length).Pairwise (fun a b=>bC C a < bC C b):=by
 rw [zAr];intro i e g k j;have c:i < C.length:=by simpa using g
 have d:e < C.length:=by simpa using k
 have:=zAr.1 f i e c d j;simp only [List.getElem_range];unfold bC;rw [zAb,zAb,zAa c,zAa d];exact this
theorem Apt.next2 {j f:Value} {c:Option Addr} {N:Nat} (k:Apt j c) (m:f.ownBlock=j.ownBlock∨∃e,f.ownBlock=some e/\N<=e) (l:∀a,c=some a->a.block < N):Apt f c:=by
 intro a g b;rcases m with d |⟨e,d,n⟩;exact k a g (d.symm.trans b);rw [d] at b;injection b with b;have:=l a g;omega
theorem PermAt.foot {w:World} {c gp ga:Nat} {vl vo vt vf:Value} {R P:Nat} {ks:List Nat} {C:List (Nat×Nat)} {tk:List Bool} {fr:List Nat} (b:PermAt w c gp ga vl vo vt vf R P ks C tk fr) {d:Nat} (a:PF gp ga vl vo vt d):c<=d:=by
 rcases a with rfl | rfl | a | a | a;exact b.lo.1;exact b.lo.2;exact (b.lrow.lt _ a).1;exact (b.orow.lt _ a).1;exact (b.trow.lt _ a).1
theorem PermAt.keep {F:Nat->Prop} {w w':World} {j gp ga:Nat} {vl vo vt vf:Value} {R P:Nat} {ks:List Nat} {C:List (Nat×Nat)} {tk:List Bool} {fr:List Nat} (b:PermAt w j gp ga vl vo vt vf R P ks C tk fr) (f:Keep F w w')
 (e:∀d k g,F d->Bk w d k g->k∉ [152,146,3,204,4]):PermAt w' j gp ga vl vo vt vf R P ks C tk fr:=
 ⟨f.bk b.blk (fun a=>e _ _ _ a b.blk dC),dY b.lrow f (fun d g a c=>e _ _ _ a c dC),dY b.orow f (fun d g a c=>e _ _ _ a c dC),f.bk b.ar (fun a=>e _ _ _ a b.ar dC),dY b.trow f (fun d g a c=>e _ _ _ a c dC),dY b.frow f (fun d g a c=>e _ _ _ a c dC),b.apart,b.lt,b.lo⟩
structure LvInv (w2:World) (B1 B3 gl gk gp ga n rate:Nat) (A3:Option Addr) (c3:Nat) (rs:List Nat) (k:Nat) (vl vo vt:Value) (tk:List Bool) (wr:World):Prop where
 perm:PermAt wr B1 gp ga vl vo vt (.slice none 0 0) n n (List.range (bO rs rate k).length) (bO rs rate k) tk []
 len:tk.length=(bO rs rate k).length
 apt:Apt vo A3
 row:wr.ownsRow B3 3 1 (.slice A3 n c3) n (rs.map sv)
 blk:Bk wr gl 108 #[gk,gp,(rate:Int),.int .i64 0]
 below:Below w2.heap.size w2 wr
structure LiveAt (w:World) (Bw gl gk gp ga:Nat) (vl vo vt:Value) (B n rate:Nat) (L:List Nat) (C:List (Nat×Nat)) (tk:List Bool):Prop where
 blk:Bk w gl 108 #[gk,gp,(rate:Int),.int .i64 0]
 walk:WalkAt w Bw gk L
 perm:PermAt w B gp ga vl vo vt (.slice none 0 0) n n (List.range C.length) C tk []
end
section
open Go.RowKit Go.Shelf
theorem ShelfRow.same {w w':World} {e:Nat} {o:Value} {f:List Nat} {l m:Nat} (p:ShelfRow w e o f l m) (k:∀a d b,Bk w a d b->Bk w' a d b):ShelfRow w' e o f l m:=by
 obtain ⟨G,q,g⟩:=p;exact ⟨G,aB q fun a b _ c=>k _ _ _ c,fun n j=>⟨(g n j).1,(g n j).2.same fun a d b _ c=>k _ _ _ c⟩⟩
theorem WalkAt.same {w w':World} {b gk:Nat} {c:List Nat} (j:WalkAt w b gk c) (a:∀d f e,Bk w d f e->Bk w' d f e):WalkAt w' b gk c:=by
 obtain ⟨g,gt,l,⟨k,S,r,m,n⟩,o⟩:=j;exact ⟨g,gt,a _ _ _ l,⟨k,S,r,a _ _ _ m,fun q p=>(n q p).same a⟩,a _ _ _ o⟩
def LvW (w:World) (a c:Nat) (b:List Nat):Prop:=∃gk d e f,Bk w c 108 #[.pointer (some ⟨gk,0,none⟩),d,e,f]/\WalkAt w a gk b
theorem LvW.vis {w w':World} {a c:Nat} {b:List Nat} (e:LvW w a c b) (d:Vis w w'):LvW w' a c b:=by
 obtain ⟨gk,j,k,l,f,g⟩:=e;exact ⟨gk,j,k,l,d.bk f dC dC,g.vis d⟩
theorem LvW.same {w w':World} {a e:Nat} {b:List Nat} (j:LvW w a e b) (f:∀c g d,Bk w c g d->Bk w' c g d):LvW w' a e b:=by
 obtain ⟨gk,m,n,o,k,l⟩:=j;exact ⟨gk,m,n,o,f _ _ _ k,l.same f⟩
theorem LvW.lt {w:World} {b a:Nat} {c:List Nat} (d:LvW w b a c):a < w.heap.size:=by
 obtain ⟨gk,g,j,k,e,f⟩:=d;exact e.lt
theorem LiveAt.lvw {w:World} {a c gk gp ga:Nat} {vl vo vt:Value} {e f g:Nat} {b:List Nat} {C:List (Nat×Nat)} {tk:List Bool} (d:LiveAt w a c gk gp ga vl vo vt e f g b C tk):LvW w a c b:=⟨gk,_,_,_,d.blk,d.walk⟩
theorem eA (c e:Nat) (b:List Nat) (a:Nat) (w:World) (g:LvW w c e b) (k:b.length=a+1) (n:a<=1000000):
 Calls prog 43 #[e] w fun d w'=>d=.returned (.int .i64 (a:Int))/\w=w':=by
 obtain ⟨gk,o,p,q,f,j⟩:=g;have l:=f.cell 0;have m:IntKind.i64.wrap (((a+1:Nat):Int) - 1)=(a:Int):=by rw [IntKind.wrap_i64];omega
 clear f;go_enter func43,ntmps43;go_wp2_with fail;refine (nE c gk b _ j).mono ?_;rintro d w' ⟨rfl,rfl⟩;rw [k];go_wp2_with fail;go_ret;exact ⟨dR oM,rfl⟩
theorem aCX (b:List Nat) (a e:Nat):fB b a e<=b.length:=by
 unfold fB;have k:=(List.take_sublist e b).count_le a;have l:b.countP (fun c=>decide (c < a))+b.count a<=b.length:=by
  induction b with
  | nil=>simp
  | cons c j g=>
    have:=g ((List.take_sublist e j).count_le a);rw [zBl,List.count_cons];by_cases d:c < a;have:¬c=a:=oM;simp [d,this];omega;by_cases f:c=a;simp [d,f];omega;simp [d,f];omega
 omega
end
section
theorem oD (e:List Nat) (c d:Nat):sufLt e c d↔aN e c < aN e d∨(aN e c=aN e d/\sufLt e (c+1) (d+1)):=by
 constructor
 · rintro ⟨w,b,m,f,g⟩;rcases b with _ | b;exact .inl g
   · refine .inr ⟨f 0 oM,w,b,by omega,fun a j=>?_,?_⟩
     · have:=f (a+1) oM;rwa [show c+(a+1)=c+1+a by omega,show d+(a+1)=d+1+a by omega] at this
     · rwa [show c+(b+1)=c+1+b by omega,show d+(b+1)=d+1+b by omega] at g
 · rintro (k |⟨l,w,b,m,f,g⟩);exact ⟨1,0,by omega,fun a j=>absurd j oM,k⟩
   · refine ⟨w+1,b+1,by omega,fun a j=>?_,?_⟩
     · rcases a with _ | a;exact l
       · have:=f a oM;rwa [show c+(a+1)=c+1+a by omega,show d+(a+1)=d+1+a by omega]
     · rwa [show c+(b+1)=c+1+b by omega,show d+(b+1)=d+1+b by omega]
theorem zN {R:Nat->Nat->Prop} {P:Nat->Bool} {b:List Nat} (o:b.Pairwise R) (l:∀c a,R c a->P a=true->P c=true):b.take (b.countP P)=b.filter P:=by
 induction b with
 | nil=>rfl
 | cons c e q=>
   obtain ⟨g,j⟩:=List.pairwise_cons.1 o;rw [zBl,List.filter_cons];by_cases d:P c=true
   · simp only [d,if_true];rw [List.take_succ_cons,q j]
   · have f:∀a∈e,¬P a=true:=fun a p n=>d (l c a (g a p) n);have k:e.countP P=0:=List.countP_eq_zero.2 f;have m:e.filter P= []:=List.filter_eq_nil_iff.2 f;simp [d,k,m]
theorem IsSuf.count {a b:List Nat} (c:IsSuf a b) (P:Nat->Bool):b.countP P=(List.range a.length).countP P:=c.perm.countP_eq P
theorem iA {a:List Nat} (b:0 < a.length):fF a 0=a.getD (a.length - 1) 0:=by
 unfold fF;rw [zBh,zBs oM]
theorem iB {a:List Nat} {b:Nat} (c:b+1 < a.length):fF a (b+1)=a.getD b 0:=by
 unfold fF;rw [show b+1+a.length - 1=b+a.length by omega,Nat.add_mod_right,zBs oM]
theorem gI {a:List Nat} {b:Nat} (c:b < a.length):aN a b=((a.getD b 0:Nat):Int):=by
 rw [aDn c,zAb,zAa c];rfl
theorem kI {m:Nat} (b:Nat->Bool) (c:Nat->Bool) (d:b 0=c m) (e:∀a,a < m->b (a+1)=c a):(List.range (m+1)).countP b=(List.range (m+1)).countP c:=by
 rw [List.range_succ_eq_map,zBl,List.countP_map,<-List.range_succ_eq_map,List.range_succ,List.countP_append,zBl,List.countP_nil,zBh,d];congr 1;refine List.countP_congr fun a f=>?_;have g:a < m:=by simpa using f
 simp [Function.comp,e a g]
theorem aAE {α:Type} (b:List α) (c d:α->Bool) (e:∀a∈b,¬(c a=true/\d a=true)):b.countP (fun a=>c a||d a)=b.countP c+b.countP d:=by
 induction b with
 | nil=>rfl
 | cons a b g=>
   rw [zBl,zBl,zBl,g (fun j f=>e j (by simp [f]))];have:=e a (by simp);cases k:c a <;> cases l:d a <;> simp_all <;> omega
structure EndOk (l:List Nat) (m:Nat):Prop where
 len:l.length=m+1
 last:l.getD m 0=0
 pos:∀p,p < m->0 < l.getD p 0
theorem gM (a:List UInt8):EndOk (aJ a) a.length:=by
 refine ⟨aT a,?_,fun c b=>?_⟩
 · unfold aJ pT;rw [zAb,zAo (by simp)];simp
 · unfold aJ pT;rw [zAb,zAn (by simpa using b),zAf,zAa b];simp
end
section
open Go.RowKit
def TC (a b:Nat):Nat:=16+512*a+b
theorem aDO {c a d b:Nat} (f:a < 512) (g:b < 512) (e:TC c a=TC d b):c=d/\a=b:=by
 unfold TC at e;omega
theorem aDY {a b:Nat} (d:a < 9) (e:b < 2 ^ a):b < 512:=by
 have:2 ^ a<=2 ^ 9:=zBn dC oM;have c:(2:Nat)^ 9=512:=dC;omega
def qT (own:Nat->Nat) (d c b a:Nat):Nat:=if a < d then own a else if a < c then b else 0
structure WaveS (w:World) (B:Nat) (own:Nat->Nat) (gv:Nat) (S:Nat->Value) (Ls:Nat->List Nat) (n v:Int):Prop where
 blk:Bk w gv 229 (wcells S n v)
 base:B<=gv/\own gv=2
 rows:∀lv,lv < 9->∃G:Nat->Nat,w.ownsRow B 232 3 (S lv) (2 ^ lv) (cQ G lv (2 ^ lv))/\(∀b,(S lv).ownBlock=some b->own b=2)/\∀p,p < 2 ^ lv->TreeE w (fun b=>own b=TC lv p) (G p) (aU (Ls lv) lv p)
 bnd:∀b,own b≠0->B<=b/\b < w.heap.size
def WaveE (w:World) (b:Nat) (own:Nat->Nat) (c:Nat) (a:List Nat):Prop:=∃S d,WaveS w b own c S (fun _=>a) (a.length:Int) d
theorem WaveS.vis {w w':World} {d:Nat} {own:Nat->Nat} {g:Nat} {S:Nat->Value} {e:Nat->List Nat} {k t:Int} (a:WaveS w d own g S e k t) (b:Vis w w'):∃c,WaveS w' d own g S e k c:=by
 obtain ⟨c,o⟩:=b.waveC a.blk;refine ⟨c,o,a.base,fun r p=>?_,fun f j=>⟨(a.bnd f j).1,zAl (a.bnd f j).2 b.size⟩⟩;obtain ⟨G,l,m,n⟩:=a.rows r p;exact ⟨G,b.own l dC dC,m,fun s q=>(n s q).vis b⟩
theorem WaveE.vis {w w':World} {b:Nat} {own:Nat->Nat} {d:Nat} {c:List Nat} (a:WaveE w b own d c) (f:Vis w w'):WaveE w' b own d c:=by
 obtain ⟨S,j,a⟩:=a;obtain ⟨g,e⟩:=a.vis f;exact ⟨S,g,e⟩
theorem WaveE.at {w:World} {c:Nat} {own:Nat->Nat} {f:Nat} {d:List Nat} (a:WaveE w c own f d):WaveAt w c f d:=by
 obtain ⟨S,n,a⟩:=a;refine ⟨a.base.1,S,n,a.blk,fun m l=>?_⟩;obtain ⟨G,j,o,e⟩:=a.rows m l;refine ⟨G,j,fun b g=>⟨?_,(e b g).at⟩⟩;have k:=(e b g).1;exact (a.bnd (G b) (by rw [k];unfold TC;omega)).1
theorem WaveS.edit {w w':World} {s:Nat} {own:Nat->Nat} {x:Nat} {S:Nat->Value} {p:Nat->List Nat} {J af X:Int} (g:WaveS w s own x S p J af) {d k E:Nat} (aa:d < 9) (ac:k < 2 ^ d) {G:Nat->Nat} (a4:w.ownsRow s 232 3 (S d) (2 ^ d) (cQ G d (2 ^ d)))
 (T:own E < 16) (a8:∀u,¬Bk w E 232 u) {M:List Bool} (ad:TreeE w' (Gw (fun a=>own a=TC d k) w.heap.size) (G k) M) (I:Keep (fun K=>own K=TC d k∨K=x∨K=E) w w') (H:Bk w' x 229 (wcells S J X))
 {B:List Nat} (a6:aU B d k=M) (a7:∀c,c≠k->aU B d c=aU (p d) d c):
 WaveS w' s (qT own w.heap.size w'.heap.size (TC d k)) x S (fun b=>if b=d then B else p b) J X:=by
 have au:s<=w.heap.size:=zAk g.base.1 (zCh g.blk.lt);have A:∀a,a < w.heap.size->qT own w.heap.size w'.heap.size (TC d k) a=own a:=fun a H=>by unfold qT;rw [zBv H]
 refine ⟨H,⟨g.base.1,by rw [A _ g.blk.lt];exact g.base.2⟩,fun b W=>?_,fun a m=>?_⟩
 · obtain ⟨o,v,O,Q⟩:=g.rows b W;refine ⟨o,aB v fun a u z q=>I.bk q fun e=>?_,fun a z=>?_,fun c r=>?_⟩;rcases e with e | e | e;rw [O a z] at e;unfold TC at e;omega;subst e;exact absurd (bL q g.blk).1 dC;subst e;exact a8 u q;rw [A _ (v.lt a z).2];exact O a z
   · have V:(b≠d∨c≠k)->TreeE w' (fun a=>qT own w.heap.size w'.heap.size (TC d k) a=TC b c) (o c) (aU (p b) b c):=fun ab=>by
        have ae:=(Q c r).keep I fun a aw u U q j e=>by rcases e with e | e | e;rw [j] at e;obtain ⟨f,n⟩:=aDO (aDY W r) (aDY aa ac) e;rcases ab with y | y;exact y f;exact y n;subst e;rw [(bL q g.blk).1] at U;exact absurd U dC;subst e;rw [j] at T;unfold TC at T;omega
        have av:TreeE w (fun a=>own a=TC b c) (o c) (aU (p b) b c):=Q c r;refine ae.mono fun a m j=>?_;have a9:a < w.heap.size:=(g.bnd a (by rw [j];unfold TC;omega)).2;rw [A a a9];exact j
     by_cases f:b=d
     · subst f;rw [zBv rfl];by_cases n:c=k
       · subst n;rw [a6]
         have a5:o c=G c:=by
           have y:=v.1;have f:=(gX o b (2 ^ b) c r).1;have n:=(gX G b (2 ^ b) c r).1
           have a3:cQ o b (2 ^ b)=cQ G b (2 ^ b):=by
             rcases v.2 with ⟨L,Y⟩|⟨aq,am,ao,L,Y,Z,ag,ah,ai,a0⟩;have:=Nat.two_pow_pos b;omega
             · rcases a4.2 with ⟨l,t⟩|⟨ar,an,ap,l,t,a1,aj,ak,al,a2⟩;have:=Nat.two_pow_pos b;omega
               · rw [L] at l;injection l with l _ _;injection l with l;injection l with l _;subst l;obtain ⟨_,rfl⟩:=bL Z a1;rw [<-a0,<-a2]
           rw [a3,n] at f;injection f with f;injection f with f;injection f with f;injection f with f _;exact f.symm
         rw [a5];refine ad.mono fun a m j=>?_;rcases j with j | j;rw [A a (g.bnd a (by rw [j];unfold TC;omega)).2];exact j
         · unfold qT;rw [zBu oM,zBv m]
       rw [a7 c n];exact V (.inr n)
     rw [zBu f];exact V (.inl f)
 unfold qT at m;by_cases D:a < w.heap.size;rw [zBv D] at m;exact ⟨(g.bnd a m).1,zAl D I.size⟩;rw [zBu D] at m;by_cases t:a < w'.heap.size;exact ⟨by omega,t⟩;rw [zBu t] at m;exact absurd rfl m
theorem WaveS.far {w w':World} {f:Nat} {own:Nat->Nat} {l:Nat} {S:Nat->Value} {j:Nat->List Nat} {o p:Int} (b:WaveS w f own l S j o p) {g:Nat->Prop} (d:Keep g w w') (e:∀a,g a->own a≠2/\own a < 16):WaveS w' f own l S j o p:=by
 refine ⟨d.bk b.blk (fun c=>by have:=e _ c;have:=b.base.2;omega),b.base,fun y v=>?_,fun a m=>⟨(b.bnd a m).1,zAl (b.bnd a m).2 d.size⟩⟩;obtain ⟨G,r,k,s⟩:=b.rows y v;exact ⟨G,aB r fun a q t n=>d.bk n (fun c=>by have:=e _ c;have:=k a t;omega),k,fun z x=>(s z x).keep d fun a B q A n u c=>by
  have:=e a c;rw [u] at this;unfold TC at this;omega⟩
theorem WaveE.far {w w':World} {c:Nat} {own:Nat->Nat} {f:Nat} {e:List Nat} (b:WaveE w c own f e) {d:Nat->Prop} (j:Keep d w w') (g:∀a,d a->own a≠2/\own a < 16):WaveE w' c own f e:=by
 obtain ⟨S,k,b⟩:=b;exact ⟨S,k,b.far j g⟩
theorem WaveS.paint {w:World} {c:Nat} {own own':Nat->Nat} {d:Nat} {S:Nat->Value} {g:Nat->List Nat} {m n:Int} (b:WaveS w c own d S g m n) (e:∀a,a < w.heap.size->2<=own a->own' a=own a) (p:∀a,own' a≠0->c<=a/\a < w.heap.size):WaveS w c own' d S g m n:=by
 refine ⟨b.blk,⟨b.base.1,by rw [e d b.blk.lt (by rw [b.base.2];omega)];exact b.base.2⟩,fun t r=>?_,p⟩;obtain ⟨G,j,k,o⟩:=b.rows t r;refine ⟨G,j,fun a f=>?_,fun u s=>(o u s).mono fun a q l=>?_⟩;rw [e a (j.lt a f).2 (by rw [k a f];omega)];exact k a f;rw [e a q (by rw [l];unfold TC;omega)];exact l
theorem WaveE.paint {w:World} {b:Nat} {own own':Nat->Nat} {e:Nat} {d:List Nat} (c:WaveE w b own e d) (f:∀a,a < w.heap.size->2<=own a->own' a=own a) (g:∀a,own' a≠0->b<=a/\a < w.heap.size):WaveE w b own' e d:=by
 obtain ⟨S,j,c⟩:=c;exact ⟨S,j,c.paint f g⟩
end
section
open Go.RowKit Go.Shelf
def lZ (w:World) (C:List (Nat×Nat)) (c:Ending) (w':World):Prop:=
 ∃a b,c=.returned (.slice a C.length b)/\Made w' w.heap.size 146 2 a C.length b (cX C)/\Below w.heap.size w w'
end
section
open Go.RowKit
theorem PermAt.vis {w w':World} {c gp ga:Nat} {vl vo vt vf:Value} {R P:Nat} {ks:List Nat} {C:List (Nat×Nat)} {tk:List Bool} {fr:List Nat} (a:PermAt w c gp ga vl vo vt vf R P ks C tk fr) (b:Vis w w'):PermAt w' c gp ga vl vo vt vf R P ks C tk fr:=
 ⟨b.bk a.blk dC dC,b.own a.lrow dC dC,b.own a.orow dC dC,b.bk a.ar dC dC,b.own a.trow dC dC,b.own a.frow dC dC,a.apart,a.lt,a.lo⟩
theorem LiveAt.vis {w w':World} {d f gk gp ga:Nat} {vl vo vt:Value} {c g j:Nat} {e:List Nat} {C:List (Nat×Nat)} {tk:List Bool} (a:LiveAt w d f gk gp ga vl vo vt c g j e C tk) (b:Vis w w'):LiveAt w' d f gk gp ga vl vo vt c g j e C tk:=
 ⟨b.bk a.blk dC dC,a.walk.vis b,a.perm.vis b⟩
theorem aBx (e:List Nat) (d c i b:Nat):(i,b)∈bO e d c↔i < c/\e.getD i 0=b/\b % d=0:=by
 unfold bO;rw [zAx];constructor;rintro ⟨k,a,f⟩;rw [zCo,zCf] at a;cases f;exact ⟨a.1,rfl,by simpa using a.2⟩;rintro ⟨g,rfl,j⟩;exact ⟨i,zCo.2 ⟨zCf.2 g,by simpa using j⟩,rfl⟩
theorem sI (C:List (Nat×Nat)) (e:C.Pairwise (fun a b=>a.1 < b.1)):(List.range C.length).Pairwise (fun a b=>bC C a < bC C b):=by
 rw [zAr];intro i g c d f;rw [zCe] at c d;rw [List.getElem_range,List.getElem_range];have:=zAr.1 e i g c d f;unfold bC;rw [zAb,zAb,zAa c,zAa d];exact this
theorem aBy (c:List Nat) (b a:Nat):(bO c b a).length<=a:=by
 unfold bO;rw [zBb];exact zAk (zCn _ _) (by simp)
end
section
abbrev ro (R:List Nat) (a:Nat):Nat:=R.idxOf a
theorem aDl {R:List Nat} (e:R.Nodup) {a b:Nat} (d:R[a]?=some b):ro R b=a:=by
 obtain ⟨f,c⟩:=zAc.1 d;subst c;exact e.idxOf_getElem a f
def aEa (S R:List Nat) (a b:Nat):Prop:=S.getD a 0 < S.getD b 0∨(S.getD a 0=S.getD b 0/\ro R (a+1) < ro R (b+1))
structure Near (S R:List Nat) (N i:Nat):Prop where
 endk:EndOk S N
 perm:R.Perm (List.range (N+1))
 first:∀p q,p<=N->q<=N->ro R p < ro R q->S.getD p 0<=S.getD q 0
 cons:∀p q,p<=N->q<=N->p≠q->p+1≠i->q+1≠i->(ro R p < ro R q↔aEa S R p q)
section
variable {S R : List Nat} {N i : Nat}
theorem Near.nodup (a:Near S R N i):R.Nodup:=a.perm.nodup_iff.2 List.nodup_range
theorem Near.mem (b:Near S R N i) {a:Nat}:a∈R↔a<=N:=by
 rw [b.perm.mem_iff,zCf];omega
theorem Near.len (a:Near S R N i):R.length=N+1:=by simpa using a.perm.length_eq
theorem aBQ {S:List Nat} {a b:Nat} (k:a < S.length) (l:b < S.length) (j:S.getD a 0=S.getD b 0) (e:sufLt S (a+1) (b+1)):sufLt S a b:=by
 obtain ⟨w,d,m,f,g⟩:=e;refine ⟨w+1,d+1,by omega,fun c n=>?_,?_⟩
 · cases c with
   | zero=>
     rw [zBo,zBo,gI k,gI l,j]
   | succ c=>
     have:=f c oM;rw [show a+(c+1)=a+1+c by omega,show b+(c+1)=b+1+c by omega];exact this
 rw [show a+(d+1)=a+1+d by omega,show b+(d+1)=b+1+d by omega];exact g
theorem aC1 {S:List Nat} {a b:Nat} (c:a < S.length) (d:b < S.length) (e:S.getD a 0 < S.getD b 0):sufLt S a b:=by
 refine ⟨1,0,by omega,fun g f=>by omega,?_⟩;rw [zBo,zBo,gI c,gI d];omega
theorem Near.sorted (c:Near S R N 0):IsSuf S R:=by
 obtain ⟨r,E,k⟩:=c.endk;have D:∀e a b,N < a+e->a<=N->b<=N->a≠b->ro R a < ro R b->sufLt S a b:=by
  intro e
  induction e with
  | zero=>intro a b u o;omega
  | succ e B=>
    intro a b u o A z v;rcases (c.cons a b o A z oM oM).1 v with j |⟨j,s⟩;exact aC1 oM oM j
    · have H:a≠N:=fun d=>by subst d;have:=k b oM;omega
      have I:b≠N:=fun d=>by subst d;have:=k a oM;omega
      exact aBQ oM oM j (B (a+1) (b+1) oM oM oM oM s)
 refine ⟨by rw [r];exact c.perm,?_⟩;rw [zAr];intro f g l m t;have n:=c.nodup;have x:R[f]<=N:=c.mem.1 (zBi l);have y:R[g]<=N:=c.mem.1 (zBi m);have p:ro R R[f]=f:=aDl n (zAa l);have q:ro R R[g]=g:=aDl n (zAa m);exact D (N+1) _ _ oM x y (fun d=>by rw [d,q] at p;omega) (by rw [p,q];exact t)
end
end
section
open Go.RowKit
structure PermX (w:World) (F:Nat->Prop) (gp ga:Nat) (vl vo vt vf:Value) (R P:Nat) (ks:List Nat) (C:List (Nat×Nat)) (tk:List Bool) (fr:List Nat):Prop where
 at_:PermAt w 0 gp ga vl vo vt vf R P ks C tk fr
 fp:F gp
 fa:F ga
 fl:OwnF F vl
 fo:OwnF F vo
 ft:OwnF F vt
 ff:OwnF F vf
 nd:ks.Nodup
 tkl:tk.length=C.length
 tkk:∀k,tk[k]?=some true↔k∈ks
 frn:fr.Nodup
 frk:∀k,k∈fr↔tk[k]?=some false
 sz:C.length<=1000
def PermE (w:World) (F:Nat->Prop) (gp R P:Nat) (pr:List (Nat×Nat)):Prop:=
 (∃ga vl vo vt vf ks C tk fr,PermX w F gp ga vl vo vt vf R P ks C tk fr/\pr=ks.map fun a=>(bC C a,eB C a))/\pr.Pairwise (fun c d=>c.1 < d.1)/\∀b∈pr,b.1 < R/\b.2 < P
theorem PermAt.vis2 {w w':World} {c gp ga:Nat} {vl vo vt vf:Value} {R P:Nat} {ks:List Nat} {C:List (Nat×Nat)} {tk:List Bool} {fr:List Nat} (a:PermAt w c gp ga vl vo vt vf R P ks C tk fr) (b:Vis w w'):PermAt w' c gp ga vl vo vt vf R P ks C tk fr:=
 ⟨b.bk a.blk dC dC,b.own a.lrow dC dC,b.own a.orow dC dC,b.bk a.ar dC dC,b.own a.trow dC dC,b.own a.frow dC dC,a.apart,a.lt,a.lo⟩
section
variable {w w' : World} {F G : Nat -> Prop} {gp R P : Nat} {pr : List (Nat × Nat)}
theorem PermE.vis (c:PermE w F gp R P pr) (f:Vis w w'):PermE w' F gp R P pr:=by
 obtain ⟨⟨ga,vl,vo,vt,vf,ks,C,tk,fr,a,b⟩,d,e⟩:=c;exact ⟨⟨ga,vl,vo,vt,vf,ks,C,tk,fr,⟨a.at_.vis2 f,a.fp,a.fa,a.fl,a.fo,a.ft,a.ff,a.nd,a.tkl,a.tkk,a.frn,a.frk,a.sz⟩,b⟩,d,e⟩
theorem PermE.mono (g:PermE w F gp R P pr) (e:∀a,a < w.heap.size->F a->G a):PermE w G gp R P pr:=by
 obtain ⟨⟨ga,vl,vo,vt,vf,ks,C,tk,fr,b,f⟩,j,k⟩:=g;have d:=b.at_;exact ⟨⟨ga,vl,vo,vt,vf,ks,C,tk,fr,⟨d,e _ d.blk.lt b.fp,e _ d.ar.lt b.fa,fun a c=>e a (d.lrow.lt a c).2 (b.fl a c),fun a c=>e a (d.orow.lt a c).2 (b.fo a c),fun a c=>e a (d.trow.lt a c).2 (b.ft a c),fun a c=>e a (d.frow.lt a c).2 (b.ff a c),b.nd,b.tkl,b.tkk,b.frn,b.frk,b.sz⟩,f⟩,j,k⟩
theorem PermE.keep (l:PermE w F gp R P pr) (g:Keep G w w') (f:∀b,F b->¬G b):PermE w' F gp R P pr:=by
 obtain ⟨⟨ga,vl,vo,vt,vf,ks,C,tk,fr,a,k⟩,m,n⟩:=l;have c:=a.at_;refine ⟨⟨ga,vl,vo,vt,vf,ks,C,tk,fr,⟨⟨g.bk c.blk (f _ a.fp),aB c.lrow fun b j d e=>g.bk e (f _ (a.fl b d)),aB c.orow fun b j d e=>g.bk e (f _ (a.fo b d)),g.bk c.ar (f _ a.fa),aB c.trow fun b j d e=>g.bk e (f _ (a.ft b d)),aB c.frow fun b j d e=>g.bk e (f _ (a.ff b d)),c.apart,c.lt,c.lo⟩,a.fp,a.fa,a.fl,a.fo,a.ft,a.ff,a.nd,a.tkl,a.tkk,a.frn,a.frk,a.sz⟩,k⟩,m,n⟩
theorem PermE.below (b:PermE w F gp R P pr) (c:Below w.heap.size w w'):PermE w' F gp R P pr:=b.keep (G:=fun _=>False) (Keep.of_below c) fun _ _ a=>a
end
theorem xI:∀ {n:Nat} {ks:List Nat},ks.Nodup->(∀a∈ks,a < n)->ks.length<=n
 | 0,ks,_,hl=>by
   cases ks with
   | nil=>exact zAs _
   | cons a ks=>exact absurd (hl a (by simp)) oM
 | n+1,ks,h,hl=>by
   have c:=xI (n:=n) (h.erase n) fun a e=>by have d:=(h.mem_erase_iff).1 e;have:=hl a d.2;omega
   by_cases b:n∈ks;have:=List.length_erase_of_mem b;omega;rw [List.erase_of_not_mem b] at c;omega
end
section
open Go.RowKit Go.Shelf
def AF (ga:Nat) (vt vf:Value) (a:Nat):Prop:=a=ga∨vt.ownBlock=some a∨vf.ownBlock=some a
section
variable {w : World} {F : Nat -> Prop} {gp ga : Nat} {vl vo vt vf : Value} {R P : Nat} {ks : List Nat} {C : List (Nat × Nat)} {tk : List Bool} {fr : List Nat}
theorem PermX.arena (l:PermX w F gp ga vl vo vt vf R P ks C tk fr):ArenaE w (AF ga vt vf) ga tk fr:=by
 have a:=l.at_;obtain ⟨d,g,j,_⟩:=aQ a.trow;obtain ⟨c,f,k,_⟩:=aQ a.frow;subst j k;exact ⟨.inl rfl,d,g,c,f,a.ar,aZ a.trow (zAp _),aZ a.frow (zAp _),fun e b=>.inr (.inl b),fun e b=>.inr (.inr b)⟩
end
theorem PermE.inj {w:World} {F:Nat->Prop} {gp R P:Nat} {pr:List (Nat×Nat)} (e:PermE w F gp R P pr) {c d:Nat×Nat} (j:c∈pr) (k:d∈pr) (l:c.1=d.1):c=d:=by
 obtain ⟨i,f,rfl⟩:=List.getElem_of_mem j;obtain ⟨b,g,rfl⟩:=List.getElem_of_mem k;rcases Nat.lt_trichotomy i b with a | a | a;have:=zAr.1 e.2.1 i b f g a;omega;subst a;rfl;have:=zAr.1 e.2.1 b i g f a;omega
end
section
open Go.RowKit
def aBG (a:Option Addr) (d c b:Nat):Array Value:=#[.slice a d c,.int .i64 (b:Int),.bool false]
theorem iI (c:Nat) (f:Option Addr) (e d n j m a b:Nat) (l:List UInt8) (w:World) (g:Bk w c 194 (aBG f e d j)) (r:Rd w n 1 f e (l.map bv)) (y:e<=d) (o:d<=maxLen) (q:cT l (j:Int)=(a,(m:Int),0)) (I:a<=b) (H:b<=4611686018427387904):
 Calls prog 170 #[c,(b:Int)] w fun x w'=>x=.returned (.int .i64 (a:Int))/\Bk w' c 194 (aBG f e d m)/\Keep (fun k=>k=c) w w':=by
 have B:w.cell? c=some (.slice f e d):=g.cell 0;have D:w.cell? ⟨c,1,none⟩=some (.int .i64 (j:Int)):=g.cell 1;have E:=g.frozen 1;obtain ⟨s,v,u,t⟩:=hqq4 g r q o;have z:¬((a:Int) > (b:Int)):=oM;have J:decide ((a:Int) > (b:Int))=false:=zBw z;have A:¬b < a:=oM;have K:decide (b < a)=false:=zBw A;have L:IntKind.u64.wrap (b:Int)=(b:Int):=by rw [IntKind.wrap_u64];omega
 have M:IntKind.i64.wrap (a:Int)=(a:Int):=by rw [IntKind.wrap_i64];omega
 clear g r q o;go_enter func170,ntmps170;go_wp2_with fail;go_quiet (exact wU (dD f e d l (j:Int) n _ a (m:Int) 0 u.out (v.out.drewN _) y t.out));go_wp2_with fail;go_ret;exact ⟨rfl,(s.out.drewN nq).set 1 _,((Keep.refl (fun k=>k=c) w).drewN nq).setCell (p:=⟨c,1,none⟩) (.inl rfl) _⟩
theorem lY (c:Nat) (g:Option Addr) (b f s n a d e:Nat) (q:List UInt8) (w:World) (o:Bk w c 194 (aBG g b f n)) (B:Rd w s 1 g b (q.map bv)) (W:b<=f) (U:f<=maxLen) (a4:b<=1099511627776) (y:cT q (n:Int)=(d,(a:Int),0)) (a5:a+(d+4)=e) (a7:e<=b):
 Calls prog 171 #[c] w fun v w'=>v=.returned (.slice (cC g f a 1) d (f - a))/\Bk w' c 194 (aBG g b f e)/\Keep (fun J=>J=c) w w':=by
 have A:=iI c g b f s n a d b q w o B W U y oM oM;have K:w.cell? c=some (.slice g b f):=o.cell 0;clear o B y;go_enter func171,ntmps171;go_wp2_with fail;refine A.mono ?_;clear A;rintro v w1 ⟨rfl,k,z⟩;have L:w1.cell? c=some (.slice g b f):=k.cell 0;have M:w1.cell? ⟨c,1,none⟩=some (.int .i64 (a:Int)):=k.cell 1;have O:w1.cell? ⟨c,2,none⟩=some (.bool false):=k.cell 2;have T:=k.frozen 1;obtain ⟨t,u⟩:=hqq2 k z;obtain ⟨j,V⟩:∃j,b - a=j+4:=⟨b - a - 4,by omega⟩;have Y:IntKind.i64.wrap ((b:Int) -(a:Int))=((j+4:Nat):Int):=by rw [IntKind.wrap_i64];omega
 have Z:IntKind.i64.wrap (((j+4:Nat):Int) - 4)=(j:Int):=by rw [IntKind.wrap_i64];omega
 have D:¬((d:Int) > (j:Int)):=oM;have a0:decide ((d:Int) > (j:Int))=false:=zBw D;have E:¬j < d:=oM;have a1:decide (j < d)=false:=zBw E;clear k z K;go_wp2_with fail;go_quiet (fail);go_wp2_with fail;have Q:((a:Int)+((d:Int)+4))=(e:Int):=oM;rw [Q];have l:=(t.out.drewN nq).set 1 (.int .i64 (e:Int));have m:=(u.out.drewN nq).setCell (p:=⟨c,1,none⟩) (.inl rfl) (.int .i64 (e:Int));generalize (w1.drewN nq).setCell ⟨c,1,none⟩ (.int .i64 (e:Int))=w2 at l m⊢;have a2:w2.cell? c=some (.slice g b f):=l.cell 0;have a3:w2.cell? ⟨c,1,none⟩=some (.int .i64 (e:Int)):=l.cell 1;obtain ⟨H,I⟩:=hqq2 l m;obtain ⟨r,a8⟩:=eqx (a+d);have ab:IntKind.i64.wrap ((e:Int) -(d:Int))=((a+4:Nat):Int):=by rw [IntKind.wrap_i64];omega
 have ac:IntKind.i64.wrap (((a+4:Nat):Int) - 4)=(a:Int):=by rw [IntKind.wrap_i64];omega
 have ad:IntKind.i64.wrap ((e:Int) - 4)=(r:Int):=by rw [IntKind.wrap_i64];omega
 have X:=fun w=>kV (P:=prog) 22 5 1 underlying22 (fun w=>by kernel_rfl) g b f a r oM oM w;have x:r - a=d:=oM;rw [x] at X;have a6:a<=1099511627776:=oM;have a9:e<=1099511627776:=oM;have aa:a+d+4=e:=oM;clear l m t u L M O T V Y Z D a0 E a1 x;go_quiet (fail);go_wp2_with fail;go_ret;exact ⟨rfl,H.out.drewN _,I.out.drewN _⟩
end
section
theorem aAr {a:List UInt8} {b:List Nat} (j:IsSuf (aJ a) b) {c:Nat} (f:b[c]?=some 0):(aS (aJ a) b)[c]?=some 0:=by
 unfold aS;rw [zAf,f];obtain ⟨d,e,g⟩:=gM a;show some (fF (aJ a) 0)=some 0;rw [iA oM,d];have:a.length+1 - 1=a.length:=oM;rw [this,e]
theorem xX {a:List UInt8} {e:List Nat} (j:IsSuf (aJ a) e):(aS (aJ a) e).count 0=1:=by
 obtain ⟨c,f,g⟩:=gM a;unfold aS;rw [List.count_eq_countP,List.countP_map,j.count,c,kI (m:=a.length) _ (fun b=>(aJ a).getD b 0==0)]
 · rw [List.range_succ,List.countP_append];have k:(List.range a.length).countP (fun b=>(aJ a).getD b 0==0)=0:=List.countP_eq_zero.2 fun b d l=>by have:=g b (zCf.1 d);rw [zCl] at l;omega
   rw [k];simp only [List.countP_singleton,f];rfl
 · simp only [Function.comp];rw [iA oM,c];congr 2
 · intro b d;simp only [Function.comp];rw [iB oM]
theorem aAn {b:List Nat} {c d:Nat} (g:b[c]?=some d) (a:Nat):fB b a (c+1)=if a=d then fB b a c+1 else fB b a c:=by
 unfold fB;rw [zAu,g,zCa];by_cases e:a=d;subst e;rw [zBv rfl];simp;omega
 · rw [zBu e];have:([d]:List Nat).count a=0:=(by rw [List.count_eq_zero];intro f;simp at f;exact e f);show _+((b.take c).count a+ [d].count a)=_;rw [this,zBo]
end
section
open Go.RowKit
theorem yR (k l:Option Addr) (a s t g:Nat) (d:List Nat) (w:World) (j:Rd w g 1 k a (d.map sv)) (o:Rd w g 1 l a (d.map sv)) (m:g<=w.heap.size) (H:a<=1099511627776):
 Calls prog 33 #[.slice k a s,.slice l a t] w fun u w'=>u=.returned (.bool true)/\Below w.heap.size w w':=by
 have D:d.length=a:=by have:=j.1;simpa using this
 obtain ⟨q,r⟩:=hqq2 j o;clear j o;go_enter func33,ntmps33;go_wp2_with fail;go_loopw [13] (fun i wr=>∃c:Nat,c<=a/\i=.int .i64 (c:Int)/\Below w.heap.size w wr) (fun i _=>a -(intOf i).toNat)
 case atStart=>exact ⟨0,by omega,rfl,Below.refl _ _⟩
 case round=>
  obtain ⟨c,E,rfl,b⟩:=hrel;by_cases n:c < a
  · obtain ⟨b1,I,K,rfl,A,e,v⟩:=(q.out.below (b.mono m)).get n;obtain ⟨b2,J,L,rfl,B,f,x⟩:=(r.out.below (b.mono m)).get n;obtain ⟨p,z⟩:∃p,d[c]?=some p:=⟨_,zAa oM⟩;rw [zAf,z] at e f;injection e with e;injection f with f;subst e f;unfold sv at v x;go_wp2_with fail;go_quiet (fail);go_wp2_with fail;go_roundw
    case rel=>exact ⟨c+1,by omega,by go_num,⟨b.os,b.tape,b.output,b.size,b.block⟩⟩
    case measure=>simp [intOf];omega
  · have y:c=a:=oM;subst y;go_wp2_with fail;go_ret;exact ⟨rfl,b⟩
theorem pK (c d:Option Addr) (a f g b:Nat) (e:List Nat) (w:World) (k:Rd w b 1 c a (e.map sv)) (l:Rd w b 1 d a (e.map sv)) (m:b<=w.heap.size) (p:a<=1099511627776):
 Calls prog 248 #[.slice c a f,.slice d a g] w fun j w'=>j=.returned (.bool true)/\Below w.heap.size w w':=by
 have o:=yR c d a f g b e w k l m p;clear k l;go_enter func248,ntmps248;go_wp2_with fail;refine o.mono ?_;rintro j w1 ⟨rfl,n⟩;go_wp2_with fail;go_ret;exact ⟨rfl,n⟩
theorem pQ (c d:Option Addr) (g j m n l:Nat) (a b:List UInt8) (w:World) (o:Rd w l 1 c g (a.map bv)) (p:Rd w l 1 d j (b.map bv)):
 Calls prog 32 #[.slice c g m,.slice d j n] w fun q w'=>q=.returned (.bool (a==b))/\Below w.heap.size w w':=by
 have t:(convert 22 9 (.slice c g m)).run prog w=.ok (.string ⟨a.toArray⟩) w:=eN (P:=prog) 22 9 5 underlying22 underlying5 underlying9 o;have u:(convert 22 9 (.slice d j n)).run prog w=.ok (.string ⟨b.toArray⟩) w:=eN (P:=prog) 22 9 5 underlying22 underlying5 underlying9 p;obtain ⟨v,e⟩:∃k:ByteArray,⟨a.toArray⟩=k:=⟨_,rfl⟩;obtain ⟨x,f⟩:∃k:ByteArray,⟨b.toArray⟩=k:=⟨_,rfl⟩;rw [e] at t;rw [f] at u;have r:v.toList=a:=by rw [<-e,ByteArray.toList_eq]
 have s:x.toList=b:=by rw [<-f,ByteArray.toList_eq]
 clear e f o p;go_enter func32,ntmps32;go_wp2_with fail;go_ret;refine ⟨?_,Below.refl _ _⟩;rw [<-r,<-s];rfl
end
end Go.Proofs.YtihaijbgmjdhgaaGreatDoor
