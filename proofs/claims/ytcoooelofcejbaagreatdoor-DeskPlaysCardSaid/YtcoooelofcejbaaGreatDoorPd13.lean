/- Lemmas of the walk. Conditions: each its own. -/
import Derived.Test.YtcoooelofcejbaaGreatDoorPd12
import Derived.Test.YtcoooelofcejbaaGreatDoorProg
import Derived.Test.YtcoooelofcejbaaGreatDoorShl
import Derived.Test.YtcoooelofcejbaaGreatDoorSht
set_option linter.all false
set_option maxRecDepth 100000
set_option maxHeartbeats 2000000
open Go.Proofs.Tryz
namespace Go.Proofs.YtcoooelofcejbaaGreatDoor
open Go.RowKit
def aEn:(prog.info? 152).map (fun a=>(a.zero,a.size,a.bytes))=some (some (.slice none 0 0),1,24):=by kernel_rfl
def aDB:(prog.info? 211).map (fun a=>(a.zero,a.size,a.bytes))=some (some (.agg #[.pointer none,.int .i64 0,.int .i64 0]),3,24):=by kernel_rfl
def aHs (a:Nat) (j:a<=1000000) (b:World):(Instr.makeSlice 207 (.int .i64 (a:Int)) (.int .i64 (a:Int))).run prog b=.ok (.slice (some b.heap.size) a a) (b.alloc (.cells (rowC (fun _=>.slice none 0 0) a) 152)):=by
 obtain ⟨i,d,e,f,g⟩:=info_parts aEn;have:=run_make (P:=prog) b 207 152 i (.slice none 0 0) underlying207 d e .i64 .i64 a a oM (Int.le_refl _) (by rw [g];omega) oM;rw [this,f,aDI];have c:madeCells #[.slice none 0 0] a=Array.replicate a (.slice none 0 0):=by apply Array.ext';rw [toList_madeCells_one];simp
 simp only [Value.cells,zBr,zBl];rw [c]
def shO (a:List Bool):Shp:=⟨(a.length:Int),0,1,1⟩
def shL (a:List Nat) (b:Nat):Nat->List Shp
 | 0=> []
 | p+1=>shL a b p++if aI a b p= [] then [] else [shO (aI a b p)]
def shA (a:List Nat):Nat->List Shp
 | 0=> []
 | lv+1=>shA a lv++shL a lv (2 ^ lv)
def aI7 {d:List Nat} {e b:Nat} {g:Shp} (a:g∈shL d e b):∃c,c < b/\aI d e c≠ []/\g=shO (aI d e c):=by
 induction b with
 | zero=>cases a
 | succ b j=>
   unfold shL at a;rcases zCp.1 a with a | a;obtain ⟨c,k,i⟩:=j a;exact ⟨c,by omega,i⟩
   · by_cases f:aI d e b= []
     · rw [zBx f] at a;cases a
     rw [zBw f] at a;exact ⟨b,by omega,f,List.mem_singleton.1 a⟩
def aEP {e:List Nat} {d:Nat} {i:Shp} (a:i∈shA e d):∃c b,c < d/\b < 2 ^ c/\aI e c b≠ []/\i=shO (aI e c b):=by
 induction d with
 | zero=>cases a
 | succ d j=>
   unfold shA at a;rcases zCp.1 a with a | a;obtain ⟨c,b,g,f⟩:=j a;exact ⟨c,b,by omega,f⟩;obtain ⟨b,g,f⟩:=aI7 a;exact ⟨d,b,by omega,g,f⟩
def aAG (b:List Nat) (c a:Nat):(shL b c a).length<=a:=by
 induction a with
 | zero=>exact zAs _
 | succ a d=>
   unfold shL;rw [zAi];split;simp;omega;simp;omega
def aAH (b:List Nat):(shA b 9).length<=511:=by
 have a:=fun c=>aAG b c (2 ^ c);have:=a 0;have:=a 1;have:=a 2;have:=a 3;have:=a 4;have:=a 5;have:=a 6;have:=a 7;have:=a 8;simp only [shA,zAi,List.length_nil];omega
def aJP (a:List Nat) (b c:Nat):(aI a b c).length<=a.length:=by
 rw [jG];exact zBh
def aFO (a:List Shp) (e:∀b∈a,b.nodes=1):(eQ a).nodes=(a.length:Int):=by
 have i:∀(a:List Shp) (c:Shp),(∀b∈a,b.nodes=1)->(a.foldl Shp.add c).nodes=c.nodes+(a.length:Int):=by
  intro a
  induction a with
  | nil=>intro c _;simp
  | cons b a g=>
    intro c d;rw [zCq,g _ (fun j f=>d j (List.mem_cons_of_mem _ f))];have:=d b List.mem_cons_self;unfold Shp.add;simp only [zCg];omega
 have:=i a Shp.zero e;unfold eQ;rw [this];show (0:Int)+_=_;omega
def aAE (a b:List Shp):bN (a++b)=bN a++bN b:=by simp [bN]
def tN {a b:List Nat} (c:a.Perm b):tcells a=tcells b:=by
 refine pD _ _ (eF a) (fun e d=>?_) ?_
 · rw [dL a d,c.count_eq]
 · rw [gQ,c.length_eq]
def aDv {b d:List Nat} {a:Nat} (k:a < 257) (e:b.Perm (a::d)):((tcells b).setIfInBounds a (.int .i64 (((b.count a - 1:Nat)):Int))).setIfInBounds 257 (.int .i64 ((b.length - 1:Nat):Int))=tcells d:=by
 have f:=e.count_eq;have g:=e.length_eq;rw [zCg] at g;apply pD
 · simp [eF]
 · intro i j;rw [zCe oM];by_cases c:a=i
   · subst c;rw [Array.getElem?_setIfInBounds_self_of_lt (by rw [eF];omega),f a];simp
   · rw [zCe c,dL b j,f i,List.count_cons_of_ne c]
 rw [Array.getElem?_setIfInBounds_self_of_lt (by simp [eF]),g];rfl
def aBp {a:Nat} {c D:List Nat} {b:Nat} {z:World} (v:c.Perm (b::D)) (f:Bk z a 214 (tcells c)) (o:b < 257) (H:c.length<=1000):
 Calls prog 183 #[a,(b:Int),.int .i64 (-1)] z fun E I=>E=.returned (.int .i64 0)/\Bk I a 214 (tcells D)/\Keep (fun g=>g=a) z I:=by
 have t:=lhd f;clear f;have a5:¬((b:Int) < 0):=oM;have a6:((b:Int) < 257):=oM;obtain ⟨d,n⟩:=eqx (c.count b);obtain ⟨i,l⟩:=eqx c.length;have aa:d<=1000:=by rw [<-n];exact zAk zBv H
 rw [l] at H;have a9:1<=d:=by rw [<-n,v.count_eq];simp
 have a8:1<=i:=by rw [<-l,v.length_eq];simp
 have x:=aDv o v;rw [n,l] at x;obtain ⟨J,u,C⟩:=hqq3 x n l;clear x n l;go_enter func183,ntmps183;go_wp2_with fail;refine (eP _ o).mono ?_;rintro E w1 ⟨rfl,y⟩;have r:=t.out.below y t.out.lt;have R:w1.cell? ⟨a,b,none⟩=some (.int .i64 (d:Int)):=by rw [<-u.out];exact (r.cell b).trans (dL c o)
 have S:w1.cell? ⟨a,257,none⟩=some (.int .i64 (i:Int)):=by rw [<-C.out];exact (r.cell 257).trans (gQ c)
 have ab:¬((-1:Int) < -(d:Int)):=oM;have ac:¬((-1:Int) > 2147483648 -(i:Int)):=oM;obtain ⟨K,M⟩:=hqq2 y r;clear y r t;go_wp2_with fail;refine wp_region_any kR ?_;refine cT (pJ:=(fun _ s=>Bk s a 214 ((tcells c).setIfInBounds b (.int .i64 ((d - 1:Nat):Int))))) [33,34,35,36,37,38,39,40,41,42,43] (fun g=>g=a) 11 [5,11] [is a,is (b:Int),is a,is a,is (.pointer (some ⟨a,b,none⟩)),is (d:Int),is (.int .i64 (-1)),is (.int .i64 ((d - 1:Nat):Int)),is a,is a,is (.pointer (some ⟨a,b,none⟩)),dJ] _ rfl kR kR (M.out) (fun s ae f _ O=>Bk.below f O f.lt) (fun _ _ _ f P=>Bk.below f P f.lt) tA1 ?_ ?_
 · refine aV ?_;refine pH3 0 (.pointer (some a)) ?_;refine pH3 1 (.int .i64 (b:Int)) ?_;refine pV3 0 33 ?_;refine pV3 2 35 ?_;refine pW3 3 36 1 34 ?_;refine sC3 (fun _ A _ w _ _ _ e _ _ _ k=>?_) ?_
   · have m:=w rfl;have W:_=_:=e 4 37 kR rfl;have U:A.cell? ⟨a,b,none⟩=some (.int .i64 (d:Int)):=(by rw [<-u.out];exact (m.cell b).trans (dL c o));go_simp;exact kq k rfl
   refine pH3 2 (.int .i64 (-1)) ?_;refine sC3 (fun _ _ _ _ _ _ _ e _ _ _ k=>?_) ?_
   · have X:_=_:=e 5 38 kR rfl;have Y:_=_:=e 6 39 kR rfl;go_simp;exact k _ _ (aO bR) (dV (by rw [IntKind.wrap_i64];omega))
   refine pV3 0 33 ?_;refine pV3 8 41 ?_;refine pW3 9 42 1 34 ?_;refine sC3 (fun _ A _ w _ _ _ e _ _ _ k=>?_) ?_
   · have m:=w rfl;have a0:_=_:=e 10 43 kR rfl;have Z:_=_:=e 7 40 kR rfl;have V:A.cell? ⟨a,b,none⟩=some (.int .i64 (d:Int)):=(by rw [<-u.out];exact (m.cell b).trans (dL c o));have a4:=m.frozen b;go_simp;exact k (.bool true) _ (bJ (Keep.setCell (F:=fun g=>g=a) (Keep.refl _ _) (p:=⟨a,b,none⟩) (.inl rfl) _)) (m.set b _)
   exact aH
 · intro a2 B q e G;replace q:Keep (fun g=>g=a) w1 B:=kD q;obtain ⟨ad,j⟩:∃Q,(fun _ s=>Bk s a 214 ((tcells c).setIfInBounds b (.int .i64 ((d - 1:Nat):Int)))) Q B:=G 11 dC;simp only [zqq];clear e G;have T:B.cell? ⟨a,257,none⟩=some (.int .i64 (i:Int)):=(by refine (j.cell 257).trans ?_;rw [zCe oM,<-C.out];exact gQ c);have a3:=j.frozen 257;have a1:(i:Int)+-1=((i - 1:Nat):Int):=oM;obtain ⟨N,L⟩:=hqq2 j q;have a7:=j.lt;clear j q;go_wp2_with fail;go_ret;refine ⟨rfl,?_,?_⟩;rw [<-J.out];exact N.out.set 257 _;exact ((Keep.of_below K.out).trans L.out).setCell (.inl rfl) _
def jP (c:IntKind) (d:Nat) (a:Nat->Nat):Array Value:=((List.range d).map fun b=>Value.int c ((a b:Nat):Int)).toArray
def lG (c:IntKind) (a:Nat) (b:Nat->Nat):(jP c a b).size=a:=by simp [jP]
def fK {c:IntKind} {d:Nat} {b:Nat->Nat} {a:Nat} (e:a < d):(jP c d b)[a]?=some (.int c ((b a:Nat):Int)):=by
 unfold jP;rw [zCx,zAf,zCk e];rfl
def tI {d:IntKind} {b:Nat} {c:Nat->Nat} {a:Nat} (e:¬a < b):(jP d b c)[a]?=none:=Array.getElem?_eq_none (by rw [lG];omega)
def cW {e:IntKind} {b:Nat} {c d:Nat->Nat} (f:∀a,a < b->c a=d a):jP e b c=jP e b d:=by
 unfold jP;congr 1;exact List.map_congr_left fun a g=>by rw [f a (zCj.1 g)]
def lH {f:IntKind} {e:Nat} {g:Nat->Nat} {d j:Nat} (i:d < e):(jP f e g).setIfInBounds d (.int f ((j:Nat):Int))=jP f e (fun c=>if c=d then j else g c):=by
 apply Array.ext_getElem?;intro c;rw [zCd,lG];by_cases b:c < e
 · rw [fK b,fK b];by_cases a:d=c
   · subst a;rw [zBx rfl,zBx b,zBx rfl]
   · rw [zBw a,zBw (fun i=>a i.symm)]
 · rw [tI b,tI b];by_cases a:d=c
   · subst a;rw [zBx rfl,zBw b]
   · rw [zBw a]
def oL (c:IntKind) (b:Nat):Array.replicate b (Value.int c 0)=jP c b (fun _=>0):=by
 apply Array.ext_getElem?;intro d;by_cases a:d < b;rw [fK a,Array.getElem?_replicate,zBx a];rfl
 · rw [tI a,Array.getElem?_replicate,zBw a]
def aGu (b:IntKind) (c:Nat) (a:Nat->Nat):(jP b c a).toList=(List.range c).map fun d=>Value.int b ((a d:Nat):Int):=rfl
def aBo {b:Nat} {d:List Bool} {a:World} (i:TreeAt a b d):
 Calls prog 269 #[b] a fun g j=>g=.returned (.int .i64 ((d.count true:Nat):Int))/\Below a.heap.size a j:=by
 obtain ⟨w,A,⟨rfl,B,c⟩|⟨z,c,y,n,x,e⟩⟩:=i
 · have f:a.cell? ⟨b,2,none⟩=some (.int .i64 (-1)):=(c.cell 2).trans rfl;clear c;go_enter func269,ntmps269;go_wp2;go_ret;exact ⟨rfl,Below.refl _ _⟩
 · obtain ⟨k,l,f,m,o,p,q,r,s,t,u,v⟩:=e.cells;clear e;go_enter func269,ntmps269;go_wp2;go_quiet (fail);go_wp2;go_ret;exact ⟨rfl,⟨rfl,rfl,rfl,zAs _,fun _ _=>rfl⟩⟩
def TabW.visk {a:Nat} {b d:World} (f:TabW b) (j:VisK (fun e=>e=a) b d) (k:7 < a) (i:7 < b.heap.size):TabW d:=
 fun c g=>(j.2.cell (p:=⟨7,c,none⟩) i (by show ¬(7=a);omega)).trans (f c g)
def aIz {a:List Bool} {b:Bool} {c:Nat} (d:a[c]?=some b):(a.take c).count b < a.count b:=by
 have i:=(zAc.1 d).1;have e:a=a.take (c+1)++a.drop (c+1):=(zAu _ _).symm;have f:a.count b=(a.take (c+1)).count b+(a.drop (c+1)).count b:=by rw [<-zCc,zAu]
 have g:(a.take (c+1)).count b=(a.take c).count b+1:=by rw [zAv,d,zCc];simp
 omega
def xI {gt:Nat} {bs:List Bool} {p j:Nat} {b:Bool} {w:World} (e:TreeAt w gt bs) (t:bs[p]?=some b) (s:(bs.take p).count b=j) (z:TabW w) (an:7 < gt):
 Calls prog 227 #[gt,(j:Int),.bool b] w fun c aB=>c=.returned (.int .i64 (p:Int))/\VisK (fun b=>b=gt) w aB:=by
 have X:bs.length<=128:=by
  obtain ⟨S,u,⟨rfl,aA,f⟩|⟨r,f,U⟩⟩:=e
  · simp
  exact f
 have ar:=(zAc.1 t).1;have a0:=aIz t;rw [s] at a0;have Z:=pT bs;have av:∃q,Bk w gt 266 q/\3 < q.size:=by obtain ⟨S,u,⟨rfl,aA,f⟩|⟨r,f,T,ai,x,U⟩⟩:=e;exact ⟨_,f,by simp⟩;exact ⟨_,U.tree,by simp⟩
 obtain ⟨q,k,am⟩:=av;have ax:7 < w.heap.size:=z.pos;have F:=VisK.set_tree k 0;have a2:=e.vis F.1;have aU:=k.lt;have Q:w.cell? ⟨gt,3,none⟩=some q[3]:=by rw [k.cell 3];simp [am]
 have R:=k.frozen 3;obtain ⟨m,y⟩:=eqx bs.length;obtain ⟨d,D⟩:=eqx (bs.count true);rw [y,D] at Z;have a1:j < (if b then d else m - d):=by cases b;simp;omega;simp;omega
 have ak:m<=128:=oM;have aq:d<=m:=oM;have aX:j<=128:=by rw [<-s];exact zAk zBv (by rw [zAj];omega)
 have b0:p<=128:=oM;obtain ⟨a5,E⟩:=eqx ((if b then d else m - d));rw [E] at a1;obtain ⟨K,v,aG,O,a7,N,ad,ae,af⟩:=hqq9 F e X a2 y t s D E;obtain ⟨a8,aH⟩:=hqq2 z a1;clear e X F a2 k y ar a0 Z t s D E z;go_enter func227,ntmps227;go_wp2_with fail;clear Q R;refine (eG O.out).mono ?_;rintro c b2 ⟨rfl,g⟩;rw [a7.out];have G:=K.out.below g;have a3:=v.out.vis G.1;obtain ⟨L,P⟩:=hqq2 G a3;clear G a3 K O g;go_wp2_with fail;refine (aBo P.out).mono ?_;rintro c b3 ⟨rfl,V⟩;rw [ae.out];have H:=L.out.below V;have a4:=v.out.vis H.1;obtain ⟨M,ag⟩:=hqq2 H a4;clear H a4 L P V;go_wp2_with fail;refine (wI b _ ak aq).mono ?_;rintro c aC ⟨rfl,W⟩;rw [af.out];have I:=M.out.below W;have au:=v.out.vis I.1;have ap:¬a5<=j:=oM;have aZ:decide (a5<=j)=false:=zBy ap;obtain ⟨S,u,⟨B,_,_⟩|⟨B,g,T,ai,x,a⟩⟩:=au
 · have r:=N.out;rw [B] at r;simp at r
 obtain ⟨aI,aJ,aK,Q,aL,aM,aN,aO,aP,aQ,aR,aS⟩:=a.cells;have aY:=a.row.lt;have aV:=a.tree.lt;have aW:gt≠T:=a.row.bk_ne a.tree dC;have R:=a.tree.frozen 3;obtain ⟨l,a6,aa⟩:=hqq3 a g I;clear a g B I W M ag;go_wp2_with fail;go_loopw [1,7,8] (fun aD aE aF wr=>aD=.int .i64 (j:Int)/\aE=.int .i64 0/\aF=.int .i64 0/\wr=aC) (fun _ _ _ _=>0)
 case atStart=>exact ⟨rfl,rfl,rfl,rfl⟩
 case round=>
  obtain ⟨rfl,rfl,rfl,rfl⟩:=hrel;go_wp2_with fail;refine (wI (n:=0) (o:=0) b _ oM nL).mono ?_;rintro c b4 ⟨rfl,i⟩;have aj:(if b=true then 0 else 0 - 0:Nat)=0:=by cases b <;> rfl
  rw [aj];have ao:=Bk.ne l.out.blk l.out.tree dC;have J:=(VisK.set_tree l.out.tree (wrap64 (u+1))).alloc (.cells #[.int .i64 (-1),.int .i64 (-1),.int .i64 0,(bs.length:Int),.int .i64 ((bs.count true:Nat):Int),.int .i64 0,.int .i64 0,x] 276);have ay:=J.below i;have C:=(l.out.blk.far (p:=⟨gt,3,none⟩) ao (.int .i64 (wrap64 (u+1)))).alloc (.cells #[.int .i64 (-1),.int .i64 (-1),.int .i64 0,(bs.length:Int),.int .i64 ((bs.count true:Nat):Int),.int .i64 0,.int .i64 0,x] 276);have Y:=C.below i C.lt;have b1:=i.cell (p:=⟨wr.heap.size,7,none⟩) (by simp [World.setCell]);have A:=((aa.out.trans J).below i);obtain ⟨a9,ab,ac⟩:=hqq3 (a8.out.visk A an ax) A Y;clear ay C Y J A i;go_wp2_with fail;refine (uL ac.out a6.out N.out ad.out a9.out).mono ?_;rintro c b5 ⟨rfl,al⟩;have aw:=ab.out.below al;have aT:IntKind.i64.wrap (p:Int)=(p:Int):=by rw [IntKind.wrap_i64];omega
  go_wp2_with fail;go_ret;exact ⟨eS oM,aw⟩
@[irreducible] def cntL (ah:List Nat):List Value:=(List.range 257).map fun az=>.int .i64 ((ah.count az:Nat):Int)
def aBd (b:List Nat) {a:Nat} (c:a < 257):(cntL b)[a]?=some (.int .i64 ((b.count a:Nat):Int)):=by
 unfold cntL;rw [zAf,zCk c];rfl
def aCA (a:List Nat):(cntL a).length=257:=by unfold cntL;simp
def aH8 {d:World} {b:Nat} {a:List Nat} (g:Bk d b 214 (tcells a)):(loadCells ⟨b,0,none⟩ 257).run prog d=.ok (cntL a).toArray d:=by
 have:=run_loadCells_list (P:=prog) d ⟨b,0,none⟩ (cntL a) (fun c j f=>by
  have i:(⟨b,0,none⟩:Addr).add c=⟨b,c,none⟩:=by unfold Addr.add;split <;> simp_all
  have e:c < 257:=by rw [<-aCA a];exact (zAc.1 f).1
  rw [i,g.cell c,dL a e,<-aBd a e,f])
 rw [aCA] at this;exact this
def yC {j:Oper} {c:Act} {a:World} {k:Act->World->Prop} {n:Exit->Act->World->Prop} (b:TypeId) (m:Operand) (r:j.op=.load b m)
 (d:Addr) (v:c.eval m=.pointer (some d)) (e:Array Value) (i:Nat) (f:TypeDesc)
 (t:prog.underlying b=some f) (x:(match f with | .struct _ | .array _ _=>true | _=>false)=true) (l:(prog.info? b).map (·.size)=some i)
 (q:(loadCells d i).run prog a=.ok e a) (o:k (c.put j.dst (.agg e)) a):j.wp prog c a k n:=by
 have u:(loadVar b d).run prog a=.ok (.agg e) a:=by
  cases g:prog.info? b with
  | none=>simp [g] at l
  | some w=>
    have s:w.size=i:=(by simpa [g] using l);have p:(isAgg b).run prog a=.ok true a:=(by unfold isAgg;rw [Sem.run_bind,run_underlying t a];cases f <;> simp_all);simp [loadVar,Sem.run_bind,p,sizeOf,typeInfo,g,s,q]
 unfold Oper.wp execOp;simp only [r,v,Instr.loadAt,Instr.sureAddr,Sem.run_bind,Sem.run_pure,Result.andThen_ok,u];exact o
def aKn (b:List Nat) (a:Nat) (d:a < 257) (c:World):(Instr.index 212 (.agg (cntL b).toArray) (.int .i64 (a:Int))).run prog c=.ok (.int .i64 ((b.count a:Nat):Int)) c:=by
 have k:(cntL b).toArray[a]?=some (.int .i64 ((b.count a:Nat):Int)):=by rw [zCx];exact aBd b d
 have e:(0:Int)<=(a:Int)/\(a:Int) < ((257:Nat):Int):=oM;have i:=underlying212;have j:=underlying3;have g:=aBd b d;have f:(isAgg 3).run prog c=.ok false c:=by unfold isAgg;rw [Sem.run_bind,run_underlying j c];rfl
 simp [Instr.index,asIntOf,Sem.run_bind,run_underlying i c,e,Tryz.sizeOf3,d,part,f,g]
def xL {w:Nat} {b:List Nat} (c:Nat) {d:Nat} {q:World} (m:Bk q w 214 (tcells b)) (Y:d < 257) (j:b.countP (fun a=>decide (a < d))<=c) (g:c < b.countP (fun a=>decide (a < d))+b.count d) (X:b.length<=1000):
 Calls prog 159 #[w,(c:Int)] q fun K S=>K=.returned (.int .i64 (d:Int))/\Below q.heap.size q S:=by
 have E:=aH8 m;have T:=lhd m;clear m;have V:decide ((c:Int) < 0)=false:=by simp
 go_enter func159,ntmps159;go_wp2_with fail;refine yC 212 (.tmp 15) rfl ⟨w,0,none⟩ rfl (cntL b).toArray 257 _ underlying212 rfl kR E ?_;have x:=fun a=>tY b a;have D:∀a,a < d->b.countP (fun e=>decide (e < a))+b.count a<=b.countP (fun e=>decide (e < d)):=fun a Q=>by rw [<-x a];exact List.countP_mono_left fun e _ m=>by simp at m⊢;omega
 obtain ⟨B,H,G,A⟩:=hqq4 x D j g;clear x D j g E;have W:c<=1000:=by
  have g:=A.out;have n:b.countP (fun a=>decide (a < d))+b.count d<=b.length:=by rw [<-B.out d];exact zBh
  omega
 simp only [Act.put,List.setIfInBounds_toArray,List.set_cons_zero,List.set_cons_succ];go_wp2_with fail;go_loopw [1,17] (fun i z wr=>∃a:Nat,a<=d/\z=.int .i64 (a:Int)/\i=.int .i64 ((c - b.countP (fun e=>decide (e < a)):Nat):Int)/\wr=q) (fun _ z _=>257 -(intOf z).toNat)
 case atStart=>exact ⟨0,by omega,rfl,by simp,rfl⟩
 case round=>
  obtain ⟨a,Q,rfl,rfl,rfl⟩:=hrel;have P:=aKn b a oM;have j:=G.out;have g:=A.out;have n:=B.out a;have k:=H.out a;obtain ⟨f,t⟩:∃f,b.countP (fun e=>decide (e < d))=f:=⟨_,rfl⟩;obtain ⟨i,l⟩:∃f,b.countP (fun e=>decide (e < a))=f:=⟨_,rfl⟩;obtain ⟨F,u⟩:∃f,b.countP (fun e=>decide (e < a+1))=f:=⟨_,rfl⟩;obtain ⟨r,o⟩:=eqx (b.count a);rw [t] at j g k;rw [l] at n k;rw [u,o] at n;rw [o] at k P;by_cases R:a < d
  · have O:=k R;have s:¬c - i < r:=oM;have L:decide (c - i < r)=false:=zBy s;have C:IntKind.i64.wrap (((c - i:Nat):Int) -(r:Int))=((c - F:Nat):Int):=(by rw [IntKind.wrap_i64];omega);have M:a < 257:=oM;have N:(a:Int) < 257:=oM;rw [l];obtain ⟨v,p⟩:=eqx (c - i);obtain ⟨U,y⟩:∃v,c - F=v:=⟨_,rfl⟩;rw [p] at s L C⊢;rw [y] at C;obtain ⟨I,J⟩:=hqq2 y u;clear j g n k O t l u o p y;go_wp2_with fail;go_roundw
    case rel=>exact ⟨a+1,by omega,by go_num,by rw [J.out,I.out],by first | rfl | trivial⟩
    case measure=>simp [intOf];omega
  · obtain rfl:a=d:=oM;rw [l];obtain rfl:f=i:=(by rw [<-t,<-l]);rw [o] at g;have s:c - f < r:=oM;have M:a < 257:=oM;have N:(a:Int) < 257:=oM;obtain ⟨v,p⟩:=eqx (c - f);rw [p] at s⊢;clear j g n k t l u o p;go_wp2_with fail;go_ret;exact ⟨rfl,Below.refl _ _⟩
def aEJ {f:Nat->Prop} {b:Nat} {a:World} (k:ArenaE a f b [true] []):
 Calls prog 114 #[b] a fun j l=>j=.returned (.int .i64 1)/\Below a.heap.size a l:=by
 obtain ⟨_,e,i,d,g,c,_⟩:=k;have m:a.cell? b=some (.slice e 1 i):=(c.cell 0).trans rfl;have n:a.cell? ⟨b,1,none⟩=some (.slice d 0 g):=(c.cell 1).trans rfl;clear c;go_enter func114,ntmps114;go_wp2;go_quiet (fail);go_wp2;go_ret;exact ⟨rfl,below_drewN bR _⟩
def aGy {i:Nat->Prop} {d c:Nat} {j k l:Value} {a:World} (g:Bk a d 266 #[c,j,k,l]) (e:ArenaE a i c [true] []):
 Calls prog 256 #[d] a fun b n=>b=.returned (.int .i64 1)/\Below a.heap.size a n:=by
 have o:=g.cell 0;have f:=aEJ e;clear g e;go_enter func256,ntmps256;go_wp2_with fail;refine f.mono ?_;rintro b w1 ⟨rfl,m⟩;clear f;go_wp2_with fail;go_ret;exact ⟨rfl,m⟩
def yN {a9:Nat->Prop} {c:Nat} {s:List Bool} {k:World} (A:TreeE k a9 c s) (a4:s≠ []):
 Calls prog 204 #[c] k fun t S=>t=.returned (shO s).val/\Below k.heap.size k S:=by
 have Z:=A;obtain ⟨ay,b4,b6,⟨u,_⟩|⟨u,_⟩|⟨u,az,r,X,b5,aA,aB,v,Y⟩⟩:=A;exact absurd u a4;exact absurd u a4;obtain ⟨V,B⟩:=eqx (k.alloc (.cells #[.int .i64 0,.int .i64 0,.int .i64 0,.int .i64 0] 89));obtain ⟨e,o⟩:=eqx k.heap.size;obtain ⟨n,L⟩:=eqx s.length;have E:Below e k V:=by rw [<-B,<-o];exact bR.alloc nL _
 have J:Bk V e 89 #[.int .i64 0,.int .i64 0,.int .i64 0,.int .i64 0]:=by rw [<-B,<-o];exact Bk.new _ _ _
 have G:=J.lt;have F:c < e:=by rw [<-o];exact v.tree.lt
 have aE:r < e:=by rw [<-o];exact v.row.lt.2
 have a3:=aGy (v.tree.below E F) (Y.vis (Vis.of_below (by rw [o];exact E)));obtain ⟨aJ,a6,a7,aM,aN,aP,a8,aQ,aR,aS,aK,aL⟩:=v.cells;have a5:(shO s).val=.agg #[(n:Int),.int .i64 0,.int .i64 1,.int .i64 1]:=by rw [<-L];rfl
 obtain ⟨ac,z,af,ah,am,U,an,ab,aj⟩:=hqq9 B o E J a6 a7 a8 Z L;have al:=lhd a5;clear Z ay u az aA aB v Y B o E J aJ a6 a7 aM aN aP a8 aQ aR aS aK aL a5 L;rw [al.out,z.out];go_enter func204,ntmps204;have H:k.cell? ⟨c,2,none⟩=some (.int .i64 0):=U.out;have aF:c < k.heap.size:=by rw [z.out];exact F
 go_wp2_with fail;rw [ac.out]
 try rw [z.out]
 refine a3.mono ?_;clear a3 H aF;rintro t m ⟨rfl,D⟩;have C:Below e k m:=af.out.trans (D.mono (zCm G));have K:e<=m.heap.size:=zAk (zCm G) D.size;have a1:∀a,Keep (fun _=>False) m a->a.cell? ⟨c,1,none⟩=some (.slice (some r) 1 X)/\a.cell? ⟨c,2,none⟩=some (.int .i64 0)/\a.cell? ⟨r,2,none⟩=some (.int .i64 0):=fun a N=>by have w:=C.trans (N.to_below K fun W _ j=>j.elim);exact ⟨(w.cell F).trans am.out,(w.cell F).trans U.out,(w.cell aE).trans an.out⟩
 have a2:∀a,Keep (fun _=>False) m a->Calls prog 203 #[c] a fun t S=>t=.returned (.int .i64 (n:Int))/\Below a.heap.size a S:=fun a N=>by have w:=C.trans (N.to_below K fun W _ j=>j.elim);have:=eG (ab.out.at.below (by rw [z.out];exact w));rw [aj.out] at this;exact this
 obtain ⟨T,ad,y,ai⟩:=hqq4 (ah.out.below D G) C a1 a2;clear D C K a1 a2 G;go_wp2_with fail;refine wp_region_any kR ?_;refine cS 18 [16,17,18,19,20,21,22,23,24,25,26,27,28,29,30,31,32,33] (fun _=>False) 0 [] (is c) [dJ,is (n:Int),is c,is c,is (.pointer (some ⟨c,1,none⟩)),is (.slice (some r) 1 X),is c,is c,is (.pointer (some ⟨c,2,none⟩)),is (.int .i64 0),is r,is (.pointer (some ⟨r,2,none⟩)),is (.int .i64 0),is (.int .i64 1),is (.int .i64 2),is (.int .i64 1),is (.int .i64 1),is (.agg #[(n:Int),.int .i64 0,.int .i64 1,.int .i64 1])] _ rfl dC kR kR kR (trivial) (fun _ _ _ _ _=>trivial) (fun _ _ _ A _=>A) tA1 ?_ ?_
 · refine bH ?_;refine sC3 (fun q _ _ _ _ _ aG _ _ _ _ g=>?_) ?_
   · have aT:q (.tmp 0)=.pointer (some c):=aG 0 kR;go_simp;exact g _ _ (bJ (Keep.refl _ _)) rfl
   refine sC3 (fun q a b _ _ _ _ d _ _ _ g=>?_) ?_
   · replace b:Keep (fun _=>False) m a:=kD b;have aI:(is c) (q (.tmp 16)) a:=d 0 16 kR rfl;have aU:q (.tmp 16)=.pointer (some c):=aI;have aD:=ai.out a b;go_simp;refine aD.mono ?_;rintro t b7 ⟨rfl,aC⟩;exact g _ _ (aO aC) rfl
   refine pH3 0 (.pointer (some c)) ?_;refine pV3 2 18 ?_;refine pV3 3 19 ?_;refine sC3 (fun _ a b _ _ _ _ d _ _ _ g=>?_) ?_
   · replace b:Keep (fun _=>False) m a:=kD b;have aW:_=_:=d 4 20 kR rfl;obtain ⟨O,Q,R⟩:=y.out a b;go_simp;exact kq g rfl
   refine pH3 0 (.pointer (some c)) ?_;refine pV3 6 22 ?_;refine pV3 7 23 ?_;refine sC3 (fun _ a b _ _ _ _ d _ _ _ g=>?_) ?_
   · replace b:Keep (fun _=>False) m a:=kD b;have aY:_=_:=d 8 24 kR rfl;obtain ⟨O,Q,R⟩:=y.out a b;go_simp;exact kq g rfl
   refine sC3 (fun _ a b _ _ _ _ d _ _ _ g=>?_) ?_
   · replace b:Keep (fun _=>False) m a:=kD b;have aX:_=_:=d 5 21 kR rfl;have aZ:_=_:=d 9 25 kR rfl;obtain ⟨O,Q,R⟩:=y.out a b;go_simp;exact kq g rfl
   refine pV3 10 26 ?_;refine sC3 (fun _ a b _ _ _ _ d _ _ _ g=>?_) ?_
   · replace b:Keep (fun _=>False) m a:=kD b;have b0:_=_:=d 11 27 kR rfl;obtain ⟨O,Q,R⟩:=y.out a b;go_simp;exact kq g rfl
   refine pH3 3 (.int .i64 1) ?_;refine pV3 13 29 ?_;refine pV3 14 30 ?_;refine pH3 3 (.int .i64 1) ?_;refine sC3 (fun _ _ _ _ _ _ _ d _ _ _ g=>?_) ?_
   · have aV:_=_:=d 1 17 kR rfl;have b1:_=_:=d 12 28 kR rfl;have b2:_=_:=d 15 31 kR rfl;have b3:_=_:=d 16 32 kR rfl;go_simp;exact kq g rfl
   exact aH
 · intro q x j b d;replace b:Keep (fun _=>False) m x:=kD b;have ar:q (.tmp 33)=.agg #[(n:Int),.int .i64 0,.int .i64 1,.int .i64 1]:=d 17 33 dC rfl;simp only [zqq];rw [ar];clear d;have l:Bk x e 89 #[.int .i64 0,.int .i64 0,.int .i64 0,.int .i64 0]:=Keep.bk b T.out fun j=>j;have au:=l.frozen 0;have av:=l.frozen 1;have aw:=l.frozen 2;have ax:=l.frozen 3;have ao:=l.cell 0;have ap:=l.cell 1;have H:=l.cell 2;have aq:=l.cell 3;obtain ⟨ae,aa⟩:=hqq2 l b;clear l b;change wpAny prog Region.Mode.any _ _ (1+j) (bX 18 19) _ x;rw [zCt 1 j];refine bL (f:=j) (i:=18) kR ?_;refine bY rfl rfl ?_;generalize g:wpAny prog _ _ _ j _=K5;go_simp;subst g;refine bO kR ?_;have a0:Below e k x:=ad.out.trans (aa.out.to_below (zCm T.out.lt) fun W _ j=>j.elim);have I:=(((a0.setCell (p:=⟨e,0,none⟩) nL (.int .i64 (n:Int))).setCell (p:=⟨e,1,none⟩) nL (.int .i64 0)).setCell (p:=⟨e,2,none⟩) nL (.int .i64 1)).setCell (p:=⟨e,3,none⟩) nL (.int .i64 1);have M:=(((ae.out.set 0 (.int .i64 (n:Int))).set 1 (.int .i64 0)).set 2 (.int .i64 1)).set 3 (.int .i64 1);generalize (((x.setCell ⟨e,0,none⟩ (.int .i64 (n:Int))).setCell ⟨e,1,none⟩ (.int .i64 0)).setCell ⟨e,2,none⟩ (.int .i64 1)).setCell ⟨e,3,none⟩ (.int .i64 1)=w9 at I M⊢;obtain ⟨ag,ak⟩:=hqq2 I M;clear I M a0 au av aw ax ao ap H aq;go_wp2_with fail;exact bodyPost_ret (results_cell_row (P:=prog) (fn:=f204) (p:=2) (ty:=89) rfl _ w9 e 89 #[(n:Int),.int .i64 0,.int .i64 1,.int .i64 1] (0,0) _ rfl ak.out underlying89 rfl kR) rfl ⟨rfl,ag.out⟩
end Go.Proofs.YtcoooelofcejbaaGreatDoor
