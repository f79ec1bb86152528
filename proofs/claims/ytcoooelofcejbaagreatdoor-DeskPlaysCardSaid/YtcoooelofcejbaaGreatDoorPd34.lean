/- Lemmas of the walk. Conditions: each its own. -/
import Derived.Test.YtcoooelofcejbaaGreatDoorPd33
import Derived.Test.YtcoooelofcejbaaGreatDoorProg
import Derived.Test.YtcoooelofcejbaaGreatDoorShl
import Derived.Test.YtcoooelofcejbaaGreatDoorSht
import Derived.Test.YtcoooelofcejbaaGreatDoorShi
import Derived.Test.YtcoooelofcejbaaGreatDoorShs
import Derived.Test.YtcoooelofcejbaaGreatDoorShd
set_option linter.all false
set_option maxRecDepth 100000
set_option maxHeartbeats 4000000
open Go.Proofs.Tryz
namespace Go.Proofs.YtcoooelofcejbaaGreatDoor
section
def aCF:List UInt8:= [101,114,114,111,114]
def jX (a:List Nat):List Int:=a.map fun (b:Nat)=>(b:Int)
def jQ (a:Told):List UInt8:=if a.code≠0 then aZ [a.code] else if a.data= [] then aZ [a.code]++ [32]++ [110,111,110,101] else aZ [a.code]++ [32]++gT a.data
def CardQ (c:Nat->Prop) (d:Nat):Prop:=∃a:List Nat,a.Nodup/\(∀b,b∈a↔c b)/\a.length=d
open Classical in
noncomputable def cardQ (a:Nat->Prop):Nat:=if h:∃b,CardQ a b then h.choose else 0
def CardQ.eq {b:Nat->Prop} {a:Nat} (c:CardQ b a):cardQ b=a:=by
 have d:∃a,CardQ b a:=⟨a,c⟩;unfold cardQ;rw [dif_pos d];obtain ⟨l,f,g,i⟩:=c;obtain ⟨k,b1,b2,j⟩:=d.choose_spec;rw [<-j,<-i];exact ((List.perm_ext_iff_of_nodup b1 f).2 fun e=>(b2 e).trans (g e).symm).length_eq
abbrev Txt:=List UInt8×(Nat->Prop)
def aBV (rate:Nat) (most c e d:Int) (b:List UInt8) (a:Txt):Txt:=((doM a.1 most c e d b).1,doQ rate a.1 most c e d b a.2)
def aAc (rate:Nat) (most:Int) (a:Txt) (w:List UInt8) (b:Nat) (c:List UInt8):Txt×List UInt8:=
 if w= [105,110,115,101,114,116] then (aBV rate most 1 (b:Int) 0 c a,aZ [(doM a.1 most 1 (b:Int) 0 c).2.code])
 else if w= [115,101,116] then (aBV rate most 3 (b:Int) 0 c a,aZ [(doM a.1 most 3 (b:Int) 0 c).2.code])
 else match jA c with
    | none=>(a,aCF)
    | some d=>if w= [100,101,108,101,116,101] then (aBV rate most 2 (b:Int) (d:Int) [] a,aZ [(doM a.1 most 2 (b:Int) (d:Int) []).2.code])
      else if w= [116,97,107,101] then (a,jQ (doM a.1 most 5 (b:Int) (d:Int) []).2) else (a,aCF)
noncomputable def aloneS (ρ:List UInt8->List Nat) (rate most:Nat) (a:Txt) (b:List UInt8):Option (List Int):=
 if b= [108,101,110] then some [(a.1.length:Int)]
 else if b= [108,97,115,116] then some (jX (aD (aF a.1) (ρ a.1)))
 else if b= [112,97,105,114,115] then some [(cardQ a.2:Int)]
 else if b= [110,111,100,101,115] then some [(eQ (shA (aD (aF a.1) (ρ a.1)) 9)).nodes]
 else if b= [115,97,118,101] then some [((dN (aD (aF a.1) (ρ a.1)) (ρ a.1) most rate a.1.length).length:Int),((lD (dN (aD (aF a.1) (ρ a.1)) (ρ a.1) most rate a.1.length):Nat):Int)]
 else if b= [114,101,108,111,97,100] then some [0] else none
def jS (rate:Nat) (a:Txt) (b:List UInt8):Txt:=if b= [114,101,108,111,97,100] then (a.1,cY rate a.1.length) else a
noncomputable def lineS (ρ:List UInt8->List Nat) (rate most:Nat) (b:Txt) (a:List UInt8):Txt×List UInt8:=
 if (cV a).2.2=false then (jS rate b a,((aloneS ρ rate most b a).map aZ).getD aCF)
 else if (cV a).1= [99,111,117,110,116] then (b,aZ [((dD b.1 (cV a).2.1).length:Int)])
 else if (cV a).1= [108,111,99,97,116,101] then (b,aZ (jX (dD b.1 (cV a).2.1)))
 else match jA (cV (cV a).2.1).1 with
  | none=>(b,aCF)
  | some c=>if (cV (cV a).2.1).2.2=false then (b,aCF) else aAc rate (most:Int) b (cV a).1 c (cV (cV a).2.1).2.1
def aGn {b:List UInt8} (a:(cV b).2.2=false):(cV b).1=b:=by
 induction b with
 | nil=>rfl
 | cons e b d=>
   unfold cV at a⊢;split at a
   · cases a
   · rename_i c
     rw [zBw c];simp only at a⊢;rw [d a]
noncomputable def linesRun (ρ:List UInt8->List Nat) (rate most:Nat):Txt->List (List UInt8)->List UInt8
 | _, []=> []
 | t,x::r=>if x= [] then linesRun ρ rate most t r else (lineS ρ rate most t x).2++ [10]++linesRun ρ rate most (lineS ρ rate most t x).1 r
noncomputable def textRun (ρ:List UInt8->List Nat) (rate most:Nat):Txt->List (List UInt8)->Txt
 | t, []=>t
 | t,x::r=>if x= [] then textRun ρ rate most t r else textRun ρ rate most (lineS ρ rate most t x).1 r
def dU (ρ:List UInt8->List Nat) (rate most:Nat) (b:List UInt8):∀(a:List (List UInt8)) (t:Txt),linesRun ρ rate most t (a++ [b])=linesRun ρ rate most t a++(if b= [] then [] else (lineS ρ rate most (textRun ρ rate most t a) b).2++ [10])
 | [],t=>by simp only [List.nil_append,linesRun,textRun];split <;> simp
 | y::a,t=>by
   simp only [List.cons_append,linesRun,textRun];split;exact dU ρ rate most b a t
   · rw [dU ρ rate most b a,<-zCo]
def eZ (ρ:List UInt8->List Nat) (rate most:Nat) (b:List UInt8):∀(a:List (List UInt8)) (t:Txt),textRun ρ rate most t (a++ [b])=if b= [] then textRun ρ rate most t a else (lineS ρ rate most (textRun ρ rate most t a) b).1
 | [],t=>by simp only [List.nil_append,textRun]
 | y::a,t=>by simp only [List.cons_append,textRun];split;exact eZ ρ rate most b a t;exact eZ ρ rate most b a _
def aET (a:List UInt8):List (List UInt8):=if (bW a).getLast (lA a)= [] then (bW a).dropLast else bW a
noncomputable def runS (ρ:List UInt8->List Nat) (rate most:Nat) (a:List UInt8):List UInt8:=if 300 < (aET a).length then [101,114,114,111,114,10] else linesRun ρ rate most ([],cY rate 0) (aET a)
end
section
open Go.RowKit
def TxM.card {w:World} {B:Nat} {own:Nat->Nat} {gl gk j rate:Nat} {n:Int} {d e:List Nat} {c:Nat} {o:List Nat} {a:List (Nat×Nat)} (b:TxM w B own gl gk j rate n d e c o a):CardQ (Smp a) a.length:=by
 refine ⟨a.map fun p=>p.2,?_,fun q=>zAy,zBc _⟩;rw [List.Nodup,List.pairwise_map];exact b.live.perm.2.1.imp_of_mem fun {f g} k m l i=>by have:=b.rinj f k g m i;subst this;exact zCl _ l
def aDa {gl:Nat} {p b q:Value} {d o n:Nat} {c:List (Nat×Nat)} {w:World} (f:Bk w gl 74 #[p,d,b,q]) (e:PermR w d o n c):
 Calls prog 79 #[gl] w (jL w c):=by
 have r:=f.cell 1;have a:=sB e;unfold jL at a⊢;obtain ⟨u,i⟩:=eqx c.length;rw [i] at a⊢;clear e i f;go_enter func79,ntmps79;go_wp2_with fail;refine a.mono ?_;rintro s v ⟨k,b,rfl,g,j⟩;obtain ⟨l,m⟩:=hqq2 g j;clear a g j;go_wp2_with fail;go_ret;exact ⟨k,b,rfl,l.out,m.out⟩
def fC {g:Nat->Prop} {B:Nat} {own:Nat->Nat} {gs gl most rate:Nat} {t:List UInt8} {w:World} (e:StAt w B own gs gl most rate t g):
 ∃f,cardQ g=f/\f<=1000/\Calls prog 44 #[gs] w fun i o=>∃c d,i=.returned (.slice c f d)/\Below w.heap.size w o:=by
 obtain ⟨gk,r,s,p,v,l,a,_,⟨rfl,_⟩,_⟩:=e.live;refine ⟨l.length,a.card.eq,a.live.permR.le,?_⟩;have q:=e.blk.cell 0;have b:=aDa a.live.blk a.live.permR;unfold jL at b;obtain ⟨u,j⟩:=eqx l.length;rw [j] at b⊢;clear a e j;go_enter func44,ntmps44;go_wp2_with fail;refine b.mono ?_;rintro i x ⟨c,d,rfl,n,k⟩;have m:=lhd k;clear b n k;go_wp2_with fail;go_ret;exact ⟨c,d,rfl,m.out⟩
def aC9 {B gl gk:Nat} {own:Nat->Nat} {n o p:Value} {a m:List Nat} {w:World} (f:Bk w gl 74 #[gk,n,o,p]) (q:WalkE w B own gk a m):
 Calls prog 80 #[gl] w (jJ w (shA a 9)):=by
 obtain ⟨z,y,c,_,d,_⟩:=q;have u:=f.cell 0;have v:=c.cell 0;have b:=xA d;unfold jJ at b⊢;obtain ⟨A,g⟩:=eqx ((shA a 9).length);obtain ⟨s,e⟩:=eqx (bN (shA a 9));rw [g,e] at b⊢;clear c d g e f;go_enter func80,ntmps80;go_wp2_with fail;refine b.mono ?_;rintro x C ⟨r,rfl,i,j⟩;obtain ⟨k,l⟩:=hqq2 i j;clear b i j;go_wp2_with fail;go_ret;exact ⟨r,rfl,k.out,l.out⟩
def vA (w:World) (f:List Shp) (c:Nat) (e:Ending) (a:World):Prop:=∃b d,e=.returned (.slice b c d)/\Rd a a.heap.size 4 b c (bN f)/\Below w.heap.size w a
def oW {n:Nat->Prop} {B:Nat} {own:Nat->Nat} {gs gl most rate:Nat} {t:List UInt8} {e:List Nat} {w:World} (c:StAt w B own gs gl most rate t n) (q:IsSuf (aF t) e):
 Calls prog 46 #[gs] w (vA w (shA (aD (aF t) e) 9) (shA (aD (aF t) e) 9).length):=by
 obtain ⟨gk,x,y,r,j,A,a,_⟩:=c.live;obtain rfl:=a.suf.unique q;have u:=c.blk.cell 0;have b:=aC9 a.live.blk a.live.walk;unfold jJ at b;unfold vA;obtain ⟨z,g⟩:=eqx ((shA (aD (aF t) j) 9).length);obtain ⟨s,f⟩:=eqx (bN (shA (aD (aF t) j) 9));rw [g,f] at b⊢;clear a c g f;go_enter func46,ntmps46;go_wp2_with fail;refine b.mono ?_;rintro v D ⟨C,rfl,d,i⟩;obtain ⟨k,o,rfl,p⟩:=aR d;obtain ⟨l,m⟩:=hqq2 (Rd.of_own d) i;clear b d i p;go_wp2_with fail;go_ret;exact ⟨k,o,rfl,l.out,m.out⟩
def aHl {L:List Nat} (e:L.length<=128):∀a∈shA L 9,(0<=a.len/\a.len<=1100)/\(0<=a.leaves/\a.leaves<=1100)/\(0<=a.nodes/\a.nodes<=2200):=fun a b=>by
 obtain ⟨c,d,_,_,_,rfl⟩:=aEP b;have:=aJP L c d;unfold shO;exact ⟨⟨by simp,by simp only;omega⟩,⟨by simp,by simp⟩,by simp,by simp⟩
def aAI {L:List Nat}:(eQ (shA L 9)).nodes=((shA L 9).length:Int):=aFO _ fun d a=>by
 obtain ⟨b,c,_,_,_,rfl⟩:=aEP a;rfl
def lK (w:World) (B:Nat) (own:Nat->Nat) (gs most rate:Nat) (b:Txt) (d:List UInt8) (e:Ending) (c:World):Prop:=∃a f,e=.returned (dY d)/\StAt c B a gs f most rate b.1 b.2/\LFS B gs w c own a
def aFb (a b c d:Value) (w:World):(Instr.field 54 (.agg #[a,b,c,d]) 0).run prog w=.ok a w:=by kernel_rfl
def aIn (b a c d:Value) (w:World):(Instr.field 54 (.agg #[b,a,c,d]) 1).run prog w=.ok a w:=by kernel_rfl
def aJ1 (b c d a:Value) (w:World):(Instr.field 54 (.agg #[b,c,d,a]) 3).run prog w=.ok a w:=by kernel_rfl
def jD (w:World) (a:Int):Rd (w.alloc (.cells #[.int .i64 a] 3)) (w.alloc (.cells #[.int .i64 a] 3)).heap.size 1 (some ⟨w.heap.size,0,none⟩) 1 ([a].map zv):=qK (Bk.new w 3 #[.int .i64 a]) rfl
def aKt (w:World) (a b:Int):Rd (w.alloc (.cells #[.int .i64 a,.int .i64 b] 3)) (w.alloc (.cells #[.int .i64 a,.int .i64 b] 3)).heap.size 1 (some ⟨w.heap.size,0,none⟩) 2 ([a,b].map zv):=(aEU w 3 #[.int .i64 a,.int .i64 b] (0,0) 2 rfl).mono (by simp)
def aJ0 (b c d a:Value) (w:World):(Instr.field 89 (.agg #[b,c,d,a]) 3).run prog w=.ok a w:=by kernel_rfl
def vH {b:List Nat} (d:List Nat) (most:Nat) {rate a:Nat} (u:b.length=a+1) (v:a<=127):(dN b d most rate a).length<=100000:=by
 obtain ⟨x,y,z,A,C,c,i⟩:=SnAt.of b d most rate a;unfold dN;rw [zAi,i,nB];have q:=c.h1;have r:=c.h2;have s:=c.h3;have f:=c.h4;have g:=c.h5;have j:=bZ most;have k:=bZ rate;have l:=bZ a;have m:=bZ (fG b).length;have n:=bZ (uI d rate a).length;have o:=lX b;have e:=mR d rate (a / rate+1);have p:a / rate<=a:=Nat.div_le_self _ _;rw [<-qJ] at e;rw [gR] at f g;omega
section
variable {w : World} {B : Nat} {own : Nat -> Nat} {gs gl most rate : Nat} {t : List UInt8}
def StAt.liveLen {b:Nat->Prop} (d:StAt w B own gs gl most rate t b) {a:Nat} (e:t.length=a):Calls prog 42 #[gl] w fun c i=>c=.returned (.int .i64 (a:Int))/\w=i:=by
 obtain ⟨p,gk,j,o,g,f,l,m,k⟩:=d.tp;exact bM (n:=a) f.lvw (by rw [bF,g.len,aK,e]) oM
end
def aGS {ρ:List UInt8->List Nat} {B:Nat} {own:Nat->Nat} {gs gl most rate:Nat} {t x:List UInt8} {a6:Nat->Prop} {w:World} (W:IsSuf (aF t) (ρ t)) (k:StAt w B own gs gl most rate t a6) (M:TabD w) (Q:7 < B) (Z:1 < B) (a0:0 < B):
 Calls prog 21 #[gs,.string ⟨x.toArray⟩] w (lK w B own gs most rate (jS rate (t,a6) x) (((aloneS ρ rate most (t,a6) x).map aZ).getD aCF)):=by
 obtain ⟨G,K⟩:=eqx t.length;have av:G<=127:=by rw [<-K];exact k.n127
 have be:w.cell? gs=some (.pointer (some gl)):=(k.blk.cell 0).trans rfl;have aB:=k.liveLen K;have ab:=xN (G+1) k W oM;have s:=pX k W;have z:=oW k W;have ae:∀X∈aD (aF t) (ρ t),X < 257:=cL (dM t);have V:=k.size;unfold aloneS lK jS;dsimp only;rw [K] at s⊢;obtain ⟨y,a8⟩:=eqx (aD (aF t) (ρ t));have ad:y.length=G+1:=by rw [<-a8,bF,W.len,aK,K]
 rw [a8] at ab s z ae⊢;obtain ⟨a7,ax⟩:=eqx (dN y (ρ t) most rate G);have S:=vH (ρ t) most (rate:=rate) ad av;rw [ax] at s S⊢;obtain ⟨o,a4,c,aT,aS,aU,aV,b3,b0⟩:=hqq9 k K M aB ab ad ae s z;have aP:=lhd S;clear k K M aB ab ad ae s z S a8 ax W;by_cases aj:x= [108,101,110]
 · subst aj;rw [zBx rfl,zBw dC];have a:Below w.heap.size w (w.alloc (.cells #[(G:Int)] 3)):=bR.alloc nL _;have b:=cR 1 (jD w (G:Int)) oM (fun J l=>by simp at l;subst l;omega) (c.out.below a c.out.tab.pos c.out.low.2 c.out.low.1);obtain ⟨j,d⟩:=hqq2 b a;clear b a;go_enter func21,ntmps21;go_wp2_with fail;refine aT.out.mono ?_;rintro i w1 ⟨rfl,rfl⟩;go_wp2_with fail;refine j.out.mono ?_;rintro i g ⟨rfl,f⟩;have F:=lhd (d.out.trans (f.mono d.out.size));clear f;go_wp2_with fail;go_ret;exact ⟨own,gl,rfl,o.out.vb (Vis.of_below F.out),LFS.of_below B gs own F.out⟩
 rw [zBw aj];have bm:(x== [108,101,110])=false:=by rw [zCb];exact aj
 by_cases ak:x= [108,97,115,116]
 · subst ak;rw [zBx rfl,zBw dC];go_enter func21,ntmps21;go_wp2_with fail;refine aS.out.mono ?_;rintro i w1 ⟨u,q,rfl,U,H⟩;have e:=VB.to_below H V;have aE:Rd w1 w1.heap.size 1 u (G+1) ((jX y).map zv):=(by have:=U.rd;unfold jX;rw [zCh];exact this);have b:=cR q aE oM (fun J l=>by
    obtain ⟨X,ag,rfl⟩:=zAy.1 l;have:=aV.out X ag;omega) (c.out.below e Q Z a0)
   obtain ⟨j,O⟩:=hqq2 b H;clear b H e U aE;go_wp2_with fail;refine j.out.mono ?_;rintro i g ⟨rfl,f⟩;have I:VB B w g:=⟨O.out.1.below f,O.out.2.trans (Keep.of_below f)⟩;have P:=lhd I;clear I f;go_wp2_with fail;go_ret;exact ⟨own,gl,rfl,o.out.vb P.out.1,LFS.of_vb gs own P.out⟩
 rw [zBw ak];have bn:(x== [108,97,115,116])=false:=by rw [zCb];exact ak
 by_cases al:x= [112,97,105,114,115]
 · subst al;rw [zBx rfl,zBw dC];obtain ⟨ai,aC,bl,aI⟩:=fC o.out;rw [aC];have aX:=lhd aI;clear aI aC;go_enter func21,ntmps21;go_wp2_with fail;refine aX.out.mono ?_;rintro i w1 ⟨u,q,rfl,e⟩;have a:Below w1.heap.size w1 (w1.alloc (.cells #[(ai:Int)] 3)):=bR.alloc nL _;have b:=cR 1 (jD w1 (ai:Int)) oM (fun aO E=>by simp at E;subst E;omega) (c.out.below (e.trans (a.mono e.size)) c.out.tab.pos c.out.low.2 c.out.low.1);obtain ⟨j,d⟩:=hqq2 b (e.trans (a.mono e.size));clear b a;go_wp2_with fail;refine j.out.mono ?_;rintro i b9 ⟨rfl,R⟩;have v:=lhd (d.out.trans (R.mono d.out.size));clear R;go_wp2_with fail;go_ret;exact ⟨own,gl,rfl,o.out.vb (Vis.of_below v.out),LFS.of_below B gs own v.out⟩
 rw [zBw al];have bo:(x== [112,97,105,114,115])=false:=by rw [zCb];exact al
 by_cases am:x= [110,111,100,101,115]
 · subst am;rw [zBx rfl,zBw dC];have af:=aHl (L:=y) (by rw [aU.out];omega);have aA:=aAH y;have T:=aAI (L:=y);have z:=b0.out;unfold vA at z;obtain ⟨aN,az⟩:=eqx (shA y 9);rw [az] at af aA T z⊢;obtain ⟨a1,aG⟩:=eqx aN.length;rw [aG] at aA T z;obtain ⟨ar,M⟩:=eqx (eQ aN);rw [M] at T⊢;have bs:=aJ0;obtain ⟨b1,aW,aY⟩:=hqq3 z af M;clear z af az M aG;go_enter func21,ntmps21;go_wp2_with fail;refine b1.out.mono ?_;rintro i w1 ⟨u,q,rfl,aJ,e⟩;have aL:=aKH q ar aY.out aJ nL (fun X ag=>by
    obtain ⟨bh,bi,bj⟩:=aW.out X ag;exact ⟨by omega,by omega,by omega⟩) oM
   obtain ⟨b2,a5⟩:=hqq2 aL e;clear aL aJ e;go_wp2_with fail;refine b2.out.mono ?_;rintro i g ⟨rfl,f⟩;have C:=a5.out.trans (f.mono a5.out.size);rw [T];clear f;obtain ⟨bb,bc,bd,b6⟩:=ar;obtain rfl:b6=(a1:Int):=T;have a:Below g.heap.size g (g.alloc (.cells #[(a1:Int)] 3)):=bR.alloc nL _;have b:=cR 1 (jD g (a1:Int)) oM (fun aO E=>by simp at E;subst E;omega) (c.out.below (C.trans (a.mono C.size)) c.out.tab.pos c.out.low.2 c.out.low.1);obtain ⟨j,d⟩:=hqq2 b (C.trans (a.mono C.size));clear b a;go_wp2_with fail;refine j.out.mono ?_;rintro i b9 ⟨rfl,R⟩;have v:=lhd (d.out.trans (R.mono d.out.size));clear R;go_wp2_with fail;go_ret
   first
    | exact ⟨own,gl,rfl,o.out.vb (Vis.of_below v.out),LFS.of_below B gs own v.out⟩
    | exact ⟨rfl,own,gl,o.out.vb (Vis.of_below v.out),LFS.of_below B gs own v.out⟩
    | exact ⟨rfl,own,⟨gl,o.out.vb (Vis.of_below v.out)⟩,LFS.of_below B gs own v.out⟩
 rw [zBw am];have bp:(x== [110,111,100,101,115])=false:=by rw [zCb];exact am
 by_cases an:x= [115,97,118,101]
 · subst an;rw [zBx rfl,zBw dC];have s:=b3.out;unfold eY at s;obtain ⟨N,aH⟩:=eqx a7.length;have S:=aP.out;rw [aH] at s S⊢;have b7:=rM a7;obtain ⟨J,l⟩:=eqx (lD a7);rw [l] at b7⊢;obtain ⟨b5,b4⟩:=hqq2 l s;clear s aH l;go_enter func21,ntmps21;go_wp2_with fail;refine b4.out.mono ?_;rintro i w1 ⟨u,q,rfl,U,H⟩;have e:=VB.to_below H V;have a:Below w1.heap.size w1 (w1.alloc (.cells #[.slice u N q] 34)):=bR.alloc nL _;have aa:=lL (w:=w1.alloc (.cells #[.slice u N q] 34)) 1 ((U.rd.below a).mono a.size) oM (qK (Bk.new w1 34 #[.slice u N q]) rfl:Rd _ _ 1 (some ⟨w1.heap.size,0,none⟩) 1 [.slice u N q]);rw [b5.out] at aa;have bg:IntKind.i64.wrap (J:Int)=(J:Int):=(by rw [IntKind.wrap_i64];omega);obtain ⟨aQ,O,a5,d⟩:=hqq4 aa H e a;clear aa H e a U;go_wp2_with fail;refine aQ.out.mono ?_;rintro i g ⟨rfl,f⟩;have I:VB B w g:=⟨O.out.1.below (d.out.trans (f.mono d.out.size)),O.out.2.trans (Keep.of_below (d.out.trans (f.mono d.out.size)))⟩;have aw:=VB.to_below I V;have a9:Below g.heap.size g (g.alloc (.cells #[(N:Int),(J:Int)] 3)):=bR.alloc nL _;have b:=cR 2 (aKt g (N:Int) (J:Int)) oM (fun aO E=>by
    simp only [List.mem_cons,List.not_mem_nil,or_false] at E;rcases E with rfl | rfl <;> omega) (c.out.below (aw.trans (a9.mono (zAk V I.1.size))) Q Z a0)
   obtain ⟨j,P,Y⟩:=hqq3 b I a9;clear b I aw a9 f;go_wp2_with fail;refine j.out.mono ?_;rintro i b8 ⟨rfl,C⟩;have aM:VB B w b8:=⟨P.out.1.below (Y.out.trans (C.mono Y.out.size)),P.out.2.trans (Keep.of_below (Y.out.trans (C.mono Y.out.size)))⟩;have aq:=lhd aM;clear aM C;go_wp2_with fail;go_ret;exact ⟨own,gl,rfl,o.out.vb aq.out.1,LFS.of_vb gs own aq.out⟩
 rw [zBw an];have bq:(x== [115,97,118,101])=false:=by rw [zCb];exact an
 by_cases a3:x= [114,101,108,111,97,100]
 · subst a3;rw [zBx rfl];have ay:=dF (T2:=t) (r:=⟨0,0, [], []⟩) (kind:=8) (p:=0) (n:=0) (D:=[]) (A:=none) (m:=0) 0 rfl o.out ⟨Rd.nil _ _ _ _,fun k=>absurd k oM⟩ oM c.out.tab Q (by rw [a4.out];exact av);have aR:=lhd ay;clear ay;have bk:=aFb;go_enter func21,ntmps21;go_wp2_with fail;refine aR.out.mono ?_;rintro i w1 ⟨u,q,ba,bf,a2,au,rfl,ah,ac,_,_,_,_⟩;have e:=ac.below V;have a:Below w1.heap.size w1 (w1.alloc (.cells #[.int .i64 0] 3)):=bR.alloc nL _;have b:=cR 1 (jD w1 0) oM (fun J l=>by simp at l;subst l;omega) ((c.out.below e Q Z a0).below (a.mono ah.size) Q Z a0);obtain ⟨j,d,ap,ao⟩:=hqq4 b a ah ac;clear b a ah ac e;unfold kH;go_wp2_with fail;refine j.out.mono ?_;rintro i g ⟨rfl,f⟩;have F:=lhd (d.out.trans (f.mono d.out.size));clear f;go_wp2_with fail;go_ret
   first
    | exact ⟨a2,au,rfl,by rw [<-a4.out];exact ap.out.vb (Vis.of_below F.out),ao.out.trans (LFS.of_below B gs a2 F.out)⟩
    | exact ⟨rfl,a2,⟨au,by rw [<-a4.out];exact ap.out.vb (Vis.of_below F.out)⟩,ao.out.trans (LFS.of_below B gs a2 F.out)⟩
 rw [zBw a3,zBw a3];have br:(x== [114,101,108,111,97,100])=false:=by rw [zCb];exact a3
 go_enter func21,ntmps21;go_wp2_with fail;go_ret;exact ⟨own,gl,rfl,o.out,LFS.refl _ _ _ _⟩
def aCy (a:List UInt8) (most c b:Int):(doM a most 5 c b []).1=a:=by
 unfold doM;simp only [show ((5:Int)=1)=False by simp,show ((5:Int)=2)=False by simp,if_false,if_true];split <;> rfl
def BldAt.below {w f:World} {B a:Nat} {c:List UInt8} (j:BldAt w B a c) (g:Below w.heap.size w f):BldAt f B a c:=by
 have i:∀e,Lib.BuilderAt 36 5 B a e (Lib.byteCells c) w->Lib.BuilderAt 36 5 B a e (Lib.byteCells c) f:=by
  rintro e ⟨k,o,d,n,m⟩;have l:a < w.heap.size:=by
   rcases zBe a w.heap.size with b | b;exact b
   · rw [Array.getElem?_eq_none b] at d;cases d
  exact ⟨k,o,(g.block a l).trans d,aM n g,m⟩
 exact j.elim (fun b=>.inl (i _ b)) (fun b=>.inr (i _ b))
def aE8 (a:Nat) (b:a < (⟨#[48,49,50,51,52,53,54,55,56,57,97,98,99,100,101,102]⟩:ByteArray).size):(⟨#[48,49,50,51,52,53,54,55,56,57,97,98,99,100,101,102]⟩:ByteArray)[a]'b=jN a:=by
 have c:a < 16:=b;have:∀a (b:a < 16),(⟨#[48,49,50,51,52,53,54,55,56,57,97,98,99,100,101,102]⟩:ByteArray)[a]'b=jN a:=dC;exact this a c
def aIM {ag:Nat->Prop} {B:Nat} {own:Nat->Nat} {gs gl most rate:Nat} {t:List UInt8} (D I:Nat) {w:World} (r:StAt w B own gs gl most rate t ag) (bv:D<=1000000) (bD:I<=1000000) (Y:TabD w) (aj:7 < B) (ba:1 < B) (bb:0 < B):
 Calls prog 24 #[gs,(D:Int),(I:Int)] w (lK w B own gs most rate (t,ag) (jQ (doM t (most:Int) 5 (D:Int) (I:Int) []).2)):=by
 have b9:=r.n127;have bm:=r.size;obtain ⟨a,G⟩:=eqx ((doM t (most:Int) 5 (D:Int) (I:Int) []).2);have ai:doM t (most:Int) 5 (D:Int) (I:Int) []=(t,a):=Prod.ext (aCy _ _ _ _) G;have bj:a.data.length<=127:=by
  rw [<-G];unfold doM;simp only [show ((5:Int)=1)=False by simp,show ((5:Int)=2)=False by simp,if_false,if_true];split
  · simp
  simp only [zAj,zAw];omega
 have aD:-9223372036854775808<=a.code/\a.code<=9223372036854775807:=by rw [<-G];unfold doM;simp only [show ((5:Int)=1)=False by simp,show ((5:Int)=2)=False by simp,if_false,if_true];split <;> simp
 have aw:=dF (A:=none) (m:=0) 0 ai r ⟨Rd.nil _ _ _ _,fun r=>absurd r oM⟩ oM Y.tab aj b9;rw [G];obtain ⟨bs,a0⟩:=eqx (jQ a);rw [a0];obtain ⟨R,ae,aa⟩:=hqq3 a0 aw Y;clear aw Y ai G r a0;unfold lK;go_enter func24,ntmps24;go_wp2_with fail;refine ae.out.mono ?_;rintro l w1 ⟨Q,W,a9,ah,p,X,rfl,a3,a2,az,bi,_,_⟩;obtain ⟨k,y⟩:=eqx a.code;obtain ⟨g,N⟩:=eqx a.data.length;obtain ⟨aN,aC⟩:=eqx a.places.length;obtain ⟨aM,aB⟩:=eqx a.num;have al:=a2.below bm;obtain ⟨c,L⟩:=eqx (w1.alloc (.cells #[.int .i64 k,.int .i64 aM,.slice Q g W,.slice a9 aN ah] 54));have s:Below w1.heap.size w1 c:=by rw [<-L];exact bR.alloc nL _
 have i:Bk c w1.heap.size 54 #[.int .i64 k,.int .i64 aM,.slice Q g W,.slice a9 aN ah]:=by rw [<-L];exact Bk.new _ _ _
 obtain ⟨d,O⟩:=eqx w1.heap.size;have aG:=a3.vb (Vis.of_below s);have ax:=a2.trans (LFS.of_below B gs p s);have ak:=aa.out.below (al.trans (s.mono a3.size)) aj ba bb;have aE:=az.rd.below s;have bo:c.cell? d=some (.int .i64 k):=by rw [<-O];exact (i.cell 0).trans rfl
 have bJ:c.cell? ⟨d,2,none⟩=some (.slice Q g W):=by rw [<-O];exact (i.cell 2).trans rfl
 have bA:d < c.heap.size:=by rw [<-O];exact i.lt
 have bE:w1.heap.size<=c.heap.size:=s.size;obtain ⟨T,S,b,b1,J,aX,j⟩:=hqq7 aG ax ak aE L O N;unfold kH;rw [y] at aD⊢;rw [N,aB,aC];clear a3 a2 az bi al s i aG ax ak aE L ae aa aB aC;have n:Below c.heap.size c (c.alloc (.cells #[.int .i64 k] 3)):=bR.alloc nL _;have Z:c.heap.size=d+1:=by rw [<-J.out,<-aX.out];rw [World.size_alloc]
 have a4:=cR 1 (jD c k) oM (fun f i=>by simp at i;subst i;exact aD) (b.out.below n b.out.tab.pos b.out.low.2 b.out.low.1);rw [Z] at a4;obtain ⟨V,K,z⟩:=hqq3 a4 n Z;clear a4 n Z;by_cases x:k=0
 · subst x;have q:aZ [0]= [48]:=(by kernel_rfl);have aF:jQ a=if a.data= [] then [48,32,110,111,110,101] else [48,32]++gT a.data:=(by unfold jQ;rw [y,zBw (by simp),q];rfl);rw [q] at V;obtain ⟨af,br⟩:=hqq2 aF y;clear y N aF q;rcases zBa g with au | au
   · subst au;have aA:a.data= []:=zBk j.out;have b0:=lhd aA;clear aA;go_wp2_with fail;rw [J.out];go_wp2_with fail;refine V.out.mono ?_;rintro l bp ⟨rfl,E⟩;have C:=lhd (K.out.trans (E.mono K.out.size));clear E;go_wp2_with fail;go_ret;exact ⟨p,X,by rw [<-R.out,af.out,zBx b0.out];kernel_rfl,T.out.vb (Vis.of_below C.out),S.out.trans (LFS.of_below B gs p C.out)⟩
   · have bz:g<=127:=(by rw [<-j.out];exact bj);have av:a.data≠ []:=fun l=>by have:=j.out;rw [l] at this;simp at this;omega
     have aW:=lhd av;clear av;have bt:((g:Int)==0)=false:=(by rw [zCb];omega);go_wp2_with fail;rw [J.out];go_wp2_with fail;obtain ⟨aP,a5⟩:=eqx (c.alloc (.cells #[.pointer none,.slice none 0 0] 36));have be:BldAt aP (d+1) (d+1) []:=(by rw [<-a5,<-z.out];exact BldAt.new c nL);have bc:Below (d+1) c aP:=(by rw [<-a5];exact bR.alloc (by rw [z.out];omega) _);rw [a5];go_loopw [38] (fun a8 wr=>∃e:Nat,e<=g/\a8=.int .i64 (e:Int)/\BldAt wr (d+1) (d+1) (gT (a.data.take e))/\Below (d+1) c wr) (fun a8 _=>g -(intOf a8).toNat)
     case atStart=>exact ⟨0,by omega,rfl,be,bc⟩
     case round=>
        obtain ⟨e,bB,rfl,v,o⟩:=hrel;have H:d+1<=wr.heap.size:=(by have:=o.size;rw [z.out] at this;exact this);by_cases bh:e < g
        · obtain ⟨b8,bn,rfl,bw,x⟩:=((b1.out.mono oM).below o).2 (by rw [j.out];omega);obtain ⟨f,a7⟩:∃f,a.data[e]?=some f:=⟨_,zAa (by rw [j.out];exact bh)⟩;have bu:wr.cell? ⟨b8,bn+e,none⟩=some (.int .u8 (f.toNat:Int)):=x e _ (by rw [zAf,a7];rfl);have bf:=j.out;have bG:f.toNat < 256:=f.toBitVec.isLt;have ay:(gT (a.data.take e)).length=2*e:=(by rw [lB,zAj];omega);have aK:=oT (jN (f.toNat / 16)) v oM H;have bF:=aKu wr (f.toNat / 16) oM;have bH:(e:Int) < (g:Int):=oM;have aI:gT (a.data.take (e+1))=gT (a.data.take e)++ [jN (f.toNat / 16)]++ [jN (f.toNat % 16)]:=(by rw [zAv,a7];exact zZ _ _);obtain ⟨b5,aQ,b3,aY,U⟩:=hqq5 aK o aI ay H;clear aK o v aI ay a7 x H bf;go_wp2_with fail;rw [aE8];refine b5.out.mono ?_;rintro l bK ⟨rfl,ap,a1⟩;have bk:=a1.size;have aL:=oT (jN (f.toNat % 16)) ap (by rw [zAi,aY.out,List.length_singleton];have:=j.out;omega) (zAk U.out bk);obtain ⟨b6,aR⟩:=hqq2 aL a1;clear aL a1 ap;go_wp2_with fail;rw [aE8];refine b6.out.mono ?_;rintro l bL ⟨rfl,aq,am⟩;have F:=(aQ.out.trans aR.out).trans am;obtain ⟨aV,aS⟩:=hqq2 aq F;clear aq F am;go_wp2_with fail;go_roundw
          case rel=>exact ⟨e+1,by omega,by go_num,by rw [b3.out];exact aV.out,aS.out⟩
          case measure=>simp [intOf];omega
        · have bg:e=g:=oM;subst bg;rw [zAg (by rw [j.out];exact zAs _)] at v;have bI:wr.cell? d=some (.int .i64 0):=(o.cell (by show d < d+1;omega)).trans bo;have u:Below c.heap.size c wr:=(by rw [z.out];exact o);have n:Below wr.heap.size wr (wr.alloc (.cells #[.int .i64 0] 3)):=bR.alloc nL _;have a6:=cR 1 (jD wr 0) oM (fun f i=>by simp at i;subst i;omega) ((b.out.below u b.out.tab.pos b.out.low.2 b.out.low.1).below n (b.out.below u b.out.tab.pos b.out.low.2 b.out.low.1).tab.pos (b.out.below u b.out.tab.pos b.out.low.2 b.out.low.1).low.2 (b.out.below u b.out.tab.pos b.out.low.2 b.out.low.1).low.1);have q:aZ [0]= [48]:=(by kernel_rfl);rw [q] at a6;have bd:=v;obtain ⟨b7,aU,ad,ab,U⟩:=hqq5 a6 v u n H;clear a6 v o u n q bd H;go_wp2_with fail;refine b7.out.mono ?_;rintro l bq ⟨rfl,F⟩;have M:=ab.out.trans (F.mono ab.out.size);have ar:=BldAt.below aU.out M;have bl:d+1<=bq.heap.size:=zAk U.out M.size;have aH:=qA ar bl;obtain ⟨b2,aT⟩:=hqq2 aH (ad.out.trans (M.mono ad.out.size));clear aH ar M F;go_wp2_with fail;refine b2.out.mono ?_;rintro l aO ⟨rfl,an⟩;have ao:Below c.heap.size c aO:=aT.out.trans (by rw [z.out];exact an);have bC:(gT a.data).length<=8388608:=(by rw [lB];omega);have bx:=run_string_add_lists (P:=prog) aO [48,32] (gT a.data) dC oM;have ac:=lhd ao;clear ao an;go_wp2_with fail;go_ret;exact ⟨p,X,by rw [<-R.out,af.out,zBw aW.out];kernel_rfl,T.out.vb (Vis.of_below ac.out),S.out.trans (LFS.of_below B gs p ac.out)⟩
 · have aJ:jQ a=aZ [k]:=(by unfold jQ;rw [y,zBx x]);have k0:(k==0)=false:=(by rw [zCb];exact x);have b4:=lhd aJ;clear y aJ N;go_wp2_with fail;rw [J.out];go_wp2_with fail;refine V.out.mono ?_;rintro l bp ⟨rfl,E⟩;have C:=lhd (K.out.trans (E.mono K.out.size));clear E;go_wp2_with fail;go_ret;exact ⟨p,X,by rw [<-R.out,b4.out];kernel_rfl,T.out.vb (Vis.of_below C.out),S.out.trans (LFS.of_below B gs p C.out)⟩
def aC8 {ak:Nat->Prop} {ρ:List UInt8->List Nat} {B:Nat} {own:Nat->Nat} {gs gl most rate:Nat} {t x:List UInt8} {w:World} (b8:IsSuf (aF t) (ρ t)) (aa:StAt w B own gs gl most rate t ak) (bj:x.length<=100000) (bg:most<=127) (ah:TabD w) (c:7 < B) (f:1 < B) (g:0 < B):
 Calls prog 12 #[gs,.string ⟨x.toArray⟩] w (lK w B own gs most rate (lineS ρ rate most (t,ak) x).1 (lineS ρ rate most (t,ak) x).2):=by
 have hcut:=aFr x oM ah.mx;have aC:=rK x;have G:=aa.size;have aG:=aa.len;unfold lineS;dsimp only;cases ap:(cV x).2.2 with
 | false=>
   rw [zBx rfl];have b7:=aGn ap;have aV:=fun w1 (am:Below w.heap.size w w1)=>aGS (x:=x) b8 (aa.vb (Vis.of_below am)) (ah.below (am.mono G) c f g) c f g;have b2:=lhd aV;rw [ap,b7] at hcut;have a8:=lhd hcut;clear aV hcut aC aa ah;go_enter func12,ntmps12;go_wp2_with fail;refine a8.out.mono ?_;rintro b w1 ⟨rfl,n⟩;have d:=lhd n;clear n;go_wp2_with fail;refine (b2.out w1 d.out).mono ?_;rintro b ac ⟨m,F,rfl,af,ag⟩;obtain ⟨ay,az⟩:=hqq2 af ((LFS.of_below B gs own d.out).trans ag);clear af ag;go_wp2_with fail;go_ret;exact ⟨m,F,rfl,ay.out,az.out⟩
 | true=>
   rw [zBw dC];obtain ⟨H,aK⟩:=eqx ((cV x).1);obtain ⟨s,aI⟩:=eqx ((cV x).2.1);rw [ap,aK,aI] at hcut;rw [aK,aI] at aC⊢;have bi:s.length<=100000:=oM;have bd:=aa.n127;obtain ⟨a8,T,I⟩:=hqq3 hcut aa ah;have bq:=aFb;have br:=aIn;have bs:=aJ1;clear hcut aC aa ah aK aI ap;by_cases aM:H= [99,111,117,110,116]
   · subst aM;rw [zBx rfl];obtain ⟨o,K⟩:∃o:Int,((dD t s).length:Int)=o:=⟨_,rfl⟩;have L:-9223372036854775808<=o/\o<=9223372036854775807:=(by have:=lC t s;omega);have A:=aFa t s (most:Int) 0 0;rw [K] at A⊢;go_enter func12,ntmps12;go_wp2_with fail;refine a8.out.mono ?_;rintro b w1 ⟨rfl,n⟩;have d:=lhd n;clear n;have l:=T.out.vb (Vis.of_below d.out);obtain ⟨aS,a9,aB,aL,aE,r,P⟩:=kA l s;have Q:=l.vb (Vis.of_below r);have i:=d.out.trans (r.mono d.out.size);have O:(t:List UInt8).length<=127:=oM;have C:=dF a9 A Q P oM (I.out.below (i.mono G) c f g).tab c O;obtain ⟨X,v⟩:=hqq2 C i;have av:=v.out.size;clear l Q C r i P O;go_wp2_with fail;refine X.out.mono ?_;rintro b e ⟨ai,al,ad,ae,m,F,rfl,k,D,a1,V,_,_⟩;have j:=(LFS.of_below B gs own v.out).trans D;have z:=j.below G;obtain ⟨W,Z,Y⟩:=hqq3 z k j;have a7:=k.size;clear k D j z;unfold kH;have q:Below e.heap.size e (e.alloc (.cells #[.int .i64 o] 3)):=bR.alloc nL _;have E:=cR 1 (jD e o) oM (fun aU R=>by simp at R;subst R;exact ⟨by omega,by omega⟩) ((I.out.below W.out c f g).below (q.mono a7) c f g);obtain ⟨a0,M⟩:=hqq2 E q;clear E q a1 V;go_wp2_with fail;refine a0.out.mono ?_;rintro b ax ⟨rfl,y⟩;have u:=lhd (M.out.trans (y.mono M.out.size));clear y;go_wp2_with fail;go_ret;exact ⟨m,F,by kernel_rfl,Z.out.vb (Vis.of_below u.out),Y.out.trans (LFS.of_below B gs m u.out)⟩
   by_cases aN:H= [108,111,99,97,116,101]
   · subst aN;rw [zBw dC,zBx rfl];have b4:=lC t s;have aY:=pQ t s;have A:=aAd t s (most:Int) 0 0;obtain ⟨b1,b5⟩:=eqx (dD t s);rw [b5] at A b4 aY⊢;go_enter func12,ntmps12;go_wp2_with fail;refine a8.out.mono ?_;rintro b w1 ⟨rfl,n⟩;have d:=lhd n;clear n;obtain ⟨b9,aH⟩:=eqx b1.length;have l:=T.out.vb (Vis.of_below d.out);obtain ⟨aS,a9,aB,aL,aE,r,P⟩:=kA l s;have Q:=l.vb (Vis.of_below r);have i:=d.out.trans (r.mono d.out.size);have O:(t:List UInt8).length<=127:=oM;have C:=dF a9 A Q P oM (I.out.below (i.mono G) c f g).tab c O;obtain ⟨X,v⟩:=hqq2 C i;have av:=v.out.size;clear l Q C r i P O;go_wp2_with fail;refine X.out.mono ?_;rintro b e ⟨ai,al,ad,ae,m,F,rfl,k,D,a1,V,_,_⟩;have j:=(LFS.of_below B gs own v.out).trans D;have z:=j.below G;obtain ⟨W,Z,Y⟩:=hqq3 z k j;have a7:=k.size;clear k D j z;have aZ:Rd e e.heap.size 1 ad b9 ((jX b1).map zv):=by have:=V.rd;unfold jX;rw [zCh];rw [<-aH];exact this
     have E:=cR ae aZ oM (fun o K=>by
        obtain ⟨ba,b6,rfl⟩:=zAy.1 K;have:=aY ba b6;omega) (I.out.below W.out c f g)
     have a0:=lhd E;clear E aZ a1 V;unfold kH;rw [aH];clear aH;go_wp2_with fail;refine a0.out.mono ?_;rintro b ax ⟨rfl,y⟩;have u:=lhd y;clear y;go_wp2_with fail;go_ret;exact ⟨m,F,by kernel_rfl,Z.out.vb (Vis.of_below u.out),Y.out.trans (LFS.of_below B gs m u.out)⟩
   rw [zBw aM,zBw aN];have bk:(H== [99,111,117,110,116])=false:=(by rw [zCb];exact aM);have bl:(H== [108,111,99,97,116,101])=false:=(by rw [zCb];exact aN);have aX:=rK s;have aD:=fun w1 (am:Below w.heap.size w w1)=>aFr s oM (I.out.below (am.mono G) c f g).mx;obtain ⟨first,ao⟩:=eqx ((cV s).1);obtain ⟨J,an⟩:=eqx ((cV s).2.1);obtain ⟨bb,aJ⟩:=eqx ((cV s).2.2);rw [ao,an,aJ] at aD;rw [ao,an] at aX;rw [ao,an,aJ];have ab:=fun w1=>sM first w1 oM
   have aq:=fun w1=>sM J w1 oM;have bf:J.length<=100000:=oM;have aA:=lhd aD;clear aD ao an aJ aX;cases ar:jA first with
   | none=>
     rw [ar] at ab;have aj:=lhd ab;clear ab aq;go_enter func12,ntmps12;go_wp2_with fail;refine a8.out.mono ?_;rintro b w1 ⟨rfl,n⟩;have d:=lhd n;clear n;go_wp2_with fail;refine (aA.out w1 d.out).mono ?_;rintro b ac ⟨rfl,a5⟩;have a2:=lhd (d.out.trans (a5.mono d.out.size));clear a5;go_wp2_with fail;refine (aj.out ac).mono ?_;rintro b aT ⟨rfl,a6⟩;have a3:=lhd (a2.out.trans (a6.mono a2.out.size));clear a6;simp only [Option.getD_none,Option.getD_some,Option.isSome_none,Option.isSome_some];go_wp2_with fail;go_ret;exact ⟨own,gl,rfl,T.out.vb (Vis.of_below a3.out),LFS.of_below B gs own a3.out⟩
   | some N=>
     rw [ar] at ab;have be:=(oC ar).2.2.2.2;have aj:=lhd ab;clear ab ar;cases bb with
     | false=>
       clear aq;dsimp only;rw [zBx rfl];go_enter func12,ntmps12;go_wp2_with fail;refine a8.out.mono ?_;rintro b w1 ⟨rfl,n⟩;have d:=lhd n;clear n;go_wp2_with fail;refine (aA.out w1 d.out).mono ?_;rintro b ac ⟨rfl,a5⟩;have a2:=lhd (d.out.trans (a5.mono d.out.size));clear a5;go_wp2_with fail;refine (aj.out ac).mono ?_;rintro b aT ⟨rfl,a6⟩;have a3:=lhd (a2.out.trans (a6.mono a2.out.size));clear a6;simp only [Option.getD_none,Option.getD_some,Option.isSome_none,Option.isSome_some];go_wp2_with fail;go_ret;exact ⟨own,gl,rfl,T.out.vb (Vis.of_below a3.out),LFS.of_below B gs own a3.out⟩
     | true=>
       dsimp only;rw [zBw dC];obtain ⟨bc,a⟩:=eqx (aAc rate (most:Int) (t,ak) H N J);rw [a];unfold aAc aBV at a;dsimp only at a;go_enter func12,ntmps12;go_wp2_with fail;refine a8.out.mono ?_;rintro b w1 ⟨rfl,n⟩;have d:=lhd n;clear n;go_wp2_with fail;refine (aA.out w1 d.out).mono ?_;rintro b ac ⟨rfl,a5⟩;have a2:=lhd (d.out.trans (a5.mono d.out.size));clear a5;go_wp2_with fail;refine (aj.out ac).mono ?_;rintro b aT ⟨rfl,a6⟩;have a3:=lhd (a2.out.trans (a6.mono a2.out.size));clear a6;simp only [Option.getD_none,Option.getD_some,Option.isSome_none,Option.isSome_some];go_wp2_with fail;refine (aq aT).mono ?_;rintro b bt ⟨rfl,aW⟩;have p:=lhd (a3.out.trans (aW.mono a3.out.size));clear aW aq;by_cases aO:H= [105,110,115,101,114,116]
       · subst aO;rw [zBx rfl] at a;have a4:=iV J 1 (N:Int) 0 aG;have L:=fV t J (most:Int) 1 (N:Int) 0;obtain ⟨U,S,A⟩:∃U S,doM t (most:Int) 1 (N:Int) 0 J=(U,S):=⟨_,_,rfl⟩;rw [A] at a4 L a;dsimp only at a4 L a;have l:=T.out.vb (Vis.of_below p.out);obtain ⟨aS,a9,aB,aL,aE,r,P⟩:=kA l J;have Q:=l.vb (Vis.of_below r);have i:=p.out.trans (r.mono p.out.size);have O:(U:List UInt8).length<=127:=oM;have C:=dF a9 A Q P oM (I.out.below (i.mono G) c f g).tab c O;obtain ⟨X,v⟩:=hqq2 C i;have av:=v.out.size;clear l Q C r i P O;go_wp2_with fail;refine X.out.mono ?_;rintro b e ⟨ai,al,ad,ae,m,F,rfl,k,D,a1,V,_,_⟩;have j:=(LFS.of_below B gs own v.out).trans D;have z:=j.below G;obtain ⟨W,Z,Y⟩:=hqq3 z k j;have a7:=k.size;clear k D j z;obtain ⟨o,K⟩:=eqx S.code;unfold kH;rw [K] at L a⊢;clear K;have q:Below e.heap.size e (e.alloc (.cells #[.int .i64 o] 3)):=bR.alloc nL _;have E:=cR 1 (jD e o) oM (fun aU R=>by simp at R;subst R;exact ⟨by omega,by omega⟩) ((I.out.below W.out c f g).below (q.mono a7) c f g);obtain ⟨a0,M⟩:=hqq2 E q;clear E q a1 V;go_wp2_with fail;refine a0.out.mono ?_;rintro b ax ⟨rfl,y⟩;have u:=lhd (M.out.trans (y.mono M.out.size));clear y;go_wp2_with fail;go_ret;rw [<-a];exact ⟨m,F,by kernel_rfl,Z.out.vb (Vis.of_below u.out),Y.out.trans (LFS.of_below B gs m u.out)⟩
       rw [zBw aO] at a;have bm:(H== [105,110,115,101,114,116])=false:=(by rw [zCb];exact aO);by_cases aP:H= [115,101,116]
       · subst aP;rw [zBx rfl] at a;have a4:=iV J 3 (N:Int) 0 aG;have L:=fV t J (most:Int) 3 (N:Int) 0;obtain ⟨U,S,A⟩:∃U S,doM t (most:Int) 3 (N:Int) 0 J=(U,S):=⟨_,_,rfl⟩;rw [A] at a4 L a;dsimp only at a4 L a;have l:=T.out.vb (Vis.of_below p.out);obtain ⟨aS,a9,aB,aL,aE,r,P⟩:=kA l J;have Q:=l.vb (Vis.of_below r);have i:=p.out.trans (r.mono p.out.size);have O:(U:List UInt8).length<=127:=oM;have C:=dF a9 A Q P oM (I.out.below (i.mono G) c f g).tab c O;obtain ⟨X,v⟩:=hqq2 C i;have av:=v.out.size;clear l Q C r i P O;go_wp2_with fail;refine X.out.mono ?_;rintro b e ⟨ai,al,ad,ae,m,F,rfl,k,D,a1,V,_,_⟩;have j:=(LFS.of_below B gs own v.out).trans D;have z:=j.below G;obtain ⟨W,Z,Y⟩:=hqq3 z k j;have a7:=k.size;clear k D j z;obtain ⟨o,K⟩:=eqx S.code;unfold kH;rw [K] at L a⊢;clear K;have q:Below e.heap.size e (e.alloc (.cells #[.int .i64 o] 3)):=bR.alloc nL _;have E:=cR 1 (jD e o) oM (fun aU R=>by simp at R;subst R;exact ⟨by omega,by omega⟩) ((I.out.below W.out c f g).below (q.mono a7) c f g);obtain ⟨a0,M⟩:=hqq2 E q;clear E q a1 V;go_wp2_with fail;refine a0.out.mono ?_;rintro b ax ⟨rfl,y⟩;have u:=lhd (M.out.trans (y.mono M.out.size));clear y;go_wp2_with fail;go_ret;rw [<-a];exact ⟨m,F,by kernel_rfl,Z.out.vb (Vis.of_below u.out),Y.out.trans (LFS.of_below B gs m u.out)⟩
       rw [zBw aP] at a;have bn:(H== [115,101,116])=false:=(by rw [zCb];exact aP);cases au:jA J with
       | none=>
         rw [au] at a;simp only [Option.getD_none,Option.isSome_none];go_wp2_with fail
         all_goals
          go_ret;rw [<-a];exact ⟨own,gl,by kernel_rfl,T.out.vb (Vis.of_below p.out),LFS.of_below B gs own p.out⟩
       | some aw=>
         rw [au] at a;have bh:=(oC au).2.2.2.2;clear au;dsimp only at a;simp only [Option.getD_some,Option.isSome_some];by_cases aQ:H= [100,101,108,101,116,101]
         · subst aQ;rw [zBx rfl] at a;have a4:=iV [] 2 (N:Int) (aw:Int) aG;have L:=fV t [] (most:Int) 2 (N:Int) (aw:Int);obtain ⟨U,S,A⟩:∃U S,doM t (most:Int) 2 (N:Int) (aw:Int) []=(U,S):=⟨_,_,rfl⟩;rw [A] at a4 L a;dsimp only at a4 L a;have l:=T.out.vb (Vis.of_below p.out);have i:=p.out;have C:=dF 0 A l aIJ oM (I.out.below (i.mono G) c f g).tab c oM;obtain ⟨X,v⟩:=hqq2 C i;have av:=v.out.size;clear l C i;go_wp2_with fail;refine X.out.mono ?_;rintro b e ⟨ai,al,ad,ae,m,F,rfl,k,D,a1,V,_,_⟩;have j:=(LFS.of_below B gs own v.out).trans D;have z:=j.below G;obtain ⟨W,Z,Y⟩:=hqq3 z k j;have a7:=k.size;clear k D j z;obtain ⟨o,K⟩:=eqx S.code;unfold kH;rw [K] at L a⊢;clear K;have q:Below e.heap.size e (e.alloc (.cells #[.int .i64 o] 3)):=bR.alloc nL _;have E:=cR 1 (jD e o) oM (fun aU R=>by simp at R;subst R;exact ⟨by omega,by omega⟩) ((I.out.below W.out c f g).below (q.mono a7) c f g);obtain ⟨a0,M⟩:=hqq2 E q;clear E q a1 V;go_wp2_with fail;refine a0.out.mono ?_;rintro b ax ⟨rfl,y⟩;have u:=lhd (M.out.trans (y.mono M.out.size));clear y;go_wp2_with fail;go_ret;rw [<-a];exact ⟨m,F,by kernel_rfl,Z.out.vb (Vis.of_below u.out),Y.out.trans (LFS.of_below B gs m u.out)⟩
         rw [zBw aQ] at a;have bo:(H== [100,101,108,101,116,101])=false:=(by rw [zCb];exact aQ);by_cases aR:H= [116,97,107,101]
         · subst aR;rw [zBx rfl] at a;have b0:=aIM N aw (T.out.vb (Vis.of_below p.out)) oM oM (I.out.below (p.out.mono G) c f g) c f g;have b3:=lhd b0;clear b0;go_wp2_with fail;refine b3.out.mono ?_;rintro b bu ⟨m,F,rfl,af,ag⟩;obtain ⟨ay,az⟩:=hqq2 af ((LFS.of_below B gs own p.out).trans ag);clear af ag;go_wp2_with fail;go_ret;rw [<-a];exact ⟨m,F,by kernel_rfl,ay.out,az.out⟩
         rw [zBw aR] at a;have bp:(H== [116,97,107,101])=false:=(by rw [zCb];exact aR);go_wp2_with fail;go_ret;rw [<-a];exact ⟨own,gl,by kernel_rfl,T.out.vb (Vis.of_below p.out),LFS.of_below B gs own p.out⟩
end
end Go.Proofs.YtcoooelofcejbaaGreatDoor
