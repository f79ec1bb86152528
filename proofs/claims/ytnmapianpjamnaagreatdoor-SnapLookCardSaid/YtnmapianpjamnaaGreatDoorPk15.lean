/- Lemmas of the walk. Conditions: each its own. -/
import Derived.Test.YtnmapianpjamnaaGreatDoorPk13
import Derived.Test.YtnmapianpjamnaaGreatDoorPk14
import Derived.Test.YtnmapianpjamnaaGreatDoorProg
import Derived.Test.YtnmapianpjamnaaGreatDoorShl
import Derived.Test.YtnmapianpjamnaaGreatDoorSht
set_option linter.all false
set_option maxRecDepth 100000
set_option maxHeartbeats 1000000
open Go.Proofs.Tryz
namespace Go.Proofs.YtnmapianpjamnaaGreatDoor
section
open Go.RowKit Go.Shelf
def ShelfRow.same {n w':World} {e:Nat} {m:Value} {f:List Nat} {lv k:Nat} (p:ShelfRow n e m f lv k) (j:∀a d b,Bk n a d b->Bk w' a d b):ShelfRow w' e m f lv k:=by
 obtain ⟨o,q,g⟩:=p;exact ⟨o,aA q fun a b _ c=>j _ _ _ c,fun l i=>⟨(g l i).1,(g l i).2.same fun a d b _ c=>j _ _ _ c⟩⟩
def WalkAt.same {g w':World} {b gk:Nat} {c:List Nat} (l:WalkAt g b gk c) (a:∀d f e,Bk g d f e->Bk w' d f e):WalkAt w' b gk c:=by
 obtain ⟨k,j,n,⟨m,i,s,o,p⟩,q⟩:=l;exact ⟨k,j,a _ _ _ n,⟨m,i,s,a _ _ _ o,fun lv r=>(p lv r).same a⟩,a _ _ _ q⟩
def LvW (a:World) (b d:Nat) (c:List Nat):Prop:=∃gk e f g,Bk a d 109 #[.pointer (some ⟨gk,0,none⟩),e,f,g]/\WalkAt a b gk c
def LvW.vis {e w':World} {a c:Nat} {b:List Nat} (f:LvW e a c b) (d:Vis e w'):LvW w' a c b:=by
 obtain ⟨gk,j,k,l,g,i⟩:=f;exact ⟨gk,j,k,l,d.bk g dC dC,i.vis d⟩
def LvW.same {i w':World} {a e:Nat} {b:List Nat} (j:LvW i a e b) (f:∀c g d,Bk i c g d->Bk w' c g d):LvW w' a e b:=by
 obtain ⟨gk,m,n,o,k,l⟩:=j;exact ⟨gk,m,n,o,f _ _ _ k,l.same f⟩
def LvW.lt {b:World} {c a:Nat} {d:List Nat} (e:LvW b c a d):a < b.heap.size:=by
 obtain ⟨gk,i,j,k,f,g⟩:=e;exact f.lt
def LiveAt.lvw {e:World} {a c gk j i:Nat} {n o p:Value} {f k l:Nat} {b:List Nat} {g:List (Nat×Nat)} {m:List Bool} (d:LiveAt e a c gk j i n o p f k l b g m):LvW e a c b:=⟨gk,_,_,_,d.blk,d.walk⟩
def cB (d f:Nat) (b:List Nat) (a:Nat) (c:World) (j:LvW c d f b) (l:b.length=a+1) (o:a<=1000000):
 Calls prog 47 #[f] c fun e i=>e=.returned (.int .i64 (a:Int))/\c=i:=by
 obtain ⟨gk,p,q,r,g,k⟩:=j;have m:=g.cell 0;have n:IntKind.i64.wrap (((a+1:Nat):Int) - 1)=(a:Int):=by rw [IntKind.wrap_i64];omega
 clear g;go_enter func47,ntmps47;go_wp2_with fail;refine (mU d gk b _ k).mono ?_;rintro e i ⟨rfl,rfl⟩;rw [l];go_wp2_with fail;go_ret;exact ⟨cZ oM,rfl⟩
def yF (b:List Nat) (a e:Nat):dZ b a e<=b.length:=by
 unfold dZ;have j:=(List.take_sublist e b).count_le a;have k:b.countP (fun c=>decide (c < a))+b.count a<=b.length:=by
  induction b with
  | nil=>simp
  | cons c i g=>
    have:=g ((List.take_sublist e i).count_le a);rw [zBm,List.count_cons];by_cases d:c < a;have:¬c=a:=oM;simp [d,this];omega;by_cases f:c=a;simp [d,f];omega;simp [d,f];omega
 omega
end
section
def nU (e:List Nat) (c d:Nat):sufLt e c d↔aN e c < aN e d∨(aN e c=aN e d/\sufLt e (c+1) (d+1)):=by
 constructor
 · rintro ⟨j,b,m,f,g⟩;rcases b with _ | b;exact .inl g
   · refine .inr ⟨f 0 oM,j,b,by omega,fun a i=>?_,?_⟩
     · have:=f (a+1) oM;rwa [show c+(a+1)=c+1+a by omega,show d+(a+1)=d+1+a by omega] at this
     · rwa [show c+(b+1)=c+1+b by omega,show d+(b+1)=d+1+b by omega] at g
 · rintro (k |⟨l,j,b,m,f,g⟩);exact ⟨1,0,by omega,fun a i=>absurd i oM,k⟩
   · refine ⟨j+1,b+1,by omega,fun a i=>?_,?_⟩
     · rcases a with _ | a;exact l
       · have:=f a oM;rwa [show c+(a+1)=c+1+a by omega,show d+(a+1)=d+1+a by omega]
     · rwa [show c+(b+1)=c+1+b by omega,show d+(b+1)=d+1+b by omega]
def yV {g:Nat->Nat->Prop} {a:Nat->Bool} {c:List Nat} (p:c.Pairwise g) (m:∀d b,g d b->a b=true->a d=true):c.take (c.countP a)=c.filter a:=by
 induction c with
 | nil=>rfl
 | cons d f r=>
   obtain ⟨j,k⟩:=List.pairwise_cons.1 p;rw [zBm,List.filter_cons];by_cases e:a d=true
   · simp only [e,if_true];rw [List.take_succ_cons,r k]
   · have i:∀b∈f,¬a b=true:=fun b q o=>e (m d b (j b q) o);have l:f.countP a=0:=List.countP_eq_zero.2 i;have n:f.filter a= []:=List.filter_eq_nil_iff.2 i;simp [e,l,n]
def IsSuf.count {b c:List Nat} (d:IsSuf b c) (a:Nat->Bool):c.countP a=(List.range b.length).countP a:=d.perm.countP_eq a
def gK {a:List Nat} (b:0 < a.length):dK a 0=a.getD (a.length - 1) 0:=by
 unfold dK;rw [zBi,zBt oM]
def gL {a:List Nat} {b:Nat} (c:b+1 < a.length):dK a (b+1)=a.getD b 0:=by
 unfold dK;rw [show b+1+a.length - 1=b+a.length by omega,Nat.add_mod_right,zBt oM]
def fS {a:List Nat} {b:Nat} (c:b < a.length):aN a b=((a.getD b 0:Nat):Int):=by
 rw [aCK c,zAb,zAa c];rfl
def kB {m:Nat} (b:Nat->Bool) (c:Nat->Bool) (d:b 0=c m) (e:∀a,a < m->b (a+1)=c a):(List.range (m+1)).countP b=(List.range (m+1)).countP c:=by
 rw [List.range_succ_eq_map,zBm,List.countP_map,<-List.range_succ_eq_map,List.range_succ,List.countP_append,zBm,List.countP_nil,zBi,d];congr 1;refine List.countP_congr fun a f=>?_;have g:a < m:=by simpa using f
 simp [Function.comp,e a g]
def aAh {α:Type} (b:List α) (c d:α->Bool) (e:∀a∈b,¬(c a=true/\d a=true)):b.countP (fun a=>c a||d a)=b.countP c+b.countP d:=by
 induction b with
 | nil=>rfl
 | cons a b g=>
   rw [zBm,zBm,zBm,g (fun i f=>e i (by simp [f]))];have:=e a (by simp);cases j:c a <;> cases k:d a <;> simp_all <;> omega
structure EndOk (l:List Nat) (m:Nat):Prop where
 len:l.length=m+1
 last:l.getD m 0=0
 pos:∀p,p < m->0 < l.getD p 0
def fV (a:List UInt8):EndOk (aE a) a.length:=by
 refine ⟨aK a,?_,fun c b=>?_⟩
 · unfold aE nS;rw [zAb,zAo (by simp)];simp
 · unfold aE nS;rw [zAb,zAn (by simpa using b),zAf,zAa b];simp
end
section
open Go.RowKit
noncomputable def ltP (a:List Nat) (b c:Nat):Bool:=@decide (sufLt a c b) (Classical.propDecidable _)
def kZ (a:List Nat) (b c:Nat):ltP a b c=true↔sufLt a c b:=by
 unfold ltP;exact @decide_eq_true_iff _ (Classical.propDecidable _)
def qF {c b:List Nat} (i:IsSuf c b) (a:Nat) (k:a < b.length):b.countP (ltP c b[a])=a:=by
 have n:(b.take a).countP (ltP c b[a])=a:=by rw [List.countP_eq_length.2 fun m g=>?_];rw [zAj];omega;obtain ⟨e,f,rfl⟩:=zBn.1 g;rw [zAj] at f;rw [List.getElem_take,kZ];exact zAr.1 i.sorted e a oM k oM
 have o:(b.drop a).countP (ltP c b[a])=0:=List.countP_eq_zero.2 fun m g d=>by obtain ⟨e,f,rfl⟩:=zBn.1 g;rw [zAw] at f;rw [List.getElem_drop,kZ] at d;rcases zBa e with j | j;subst j;exact sufLt.asymm d d;exact sufLt.asymm d (zAr.1 i.sorted a (a+e) k oM oM)
 have l:b.countP (ltP c b[a])=(b.take a++b.drop a).countP (ltP c b[a]):=congrArg (List.countP _) (zAu a b).symm;rw [l,List.countP_append];omega
def sV {a d:List Nat} (e:IsSuf a d) (b:Nat->Bool) (j:∀g i,sufLt a g i->b i=true->b g=true) (f:Nat):((aL a d).take (d.countP b)).count f=(List.range a.length).countP (fun c=>decide (dK a c=f)&&b c):=by
 rw [aL,<-List.map_take,yV e.sorted j,<-e.count,List.count_eq_countP,List.countP_map,List.countP_filter];refine List.countP_congr fun c _=>?_;simp [Function.comp,and_comm]
def lf {a e:List Nat} {g:Nat} (f:IsSuf a e) (o:EndOk a g) {l m b:Nat} (q:l < e.length) (y:m < e.length) (x:e[l]=b+1) (z:e[m]=b):dZ (aL a e) (a.getD b 0) l=m:=by
 have i:=o.len;have A:b < g:=by have:=f.lt (zBj q);omega
 have B:=o.pos b A;obtain ⟨d,r⟩:=eqx (a.getD b 0);rw [r] at B⊢;have p:=qF f l q;have n:=qF f m y;rw [x] at p;rw [z] at n;have s:=sV f (ltP a (b+1)) (fun c F C u=>by rw [kZ] at u⊢;exact C.trans u) d;rw [p] at s;rw [f.count] at n;unfold dZ;rw [s];have v:(aL a e).countP (fun c=>decide (c < d))=(List.range (g+1)).countP (fun b=>decide (a.getD b 0 < d)):=by
  rw [aL,List.countP_map,f.count,i];refine kB _ _ ?_ fun b D=>?_
  · show decide (dK a 0 < d)=_;rw [gK oM,i,zBb]
  · show decide (dK a (b+1) < d)=_;rw [gL oM]
 have w:(List.range a.length).countP (fun c=>decide (dK a c=d)&&ltP a (b+1) c)=(List.range (g+1)).countP (fun c=>decide (a.getD c 0=d)&&ltP a (b+1) (c+1)):=by
  rw [i];refine kB _ _ ?_ fun c t=>?_;show (decide (dK a 0=d)&&_)=(decide (a.getD g 0=d)&&_);rw [gK oM,i,zBb,o.last];have:decide (0=d)=false:=(by simp;omega);rw [this];rfl
  · show (decide (dK a (c+1)=d)&&_)=_;rw [gL oM]
 rw [v,w,<-aAh,<-n,i];refine List.countP_congr fun c t=>?_;have E:c < g+1:=(by simpa using t);rw [kZ,nU,fS (by omega:c < a.length),fS (by omega:b < a.length),r];simp only [Bool.or_eq_true,zBd,zBz,kZ];constructor;rintro (j |⟨j,k⟩);exact .inl oM;exact .inr ⟨by omega,k⟩;rintro (j |⟨j,k⟩);exact .inl oM;exact .inr ⟨by omega,k⟩;intro c _;simp only [zBd,zBz];rintro ⟨j,k,_⟩;omega
def tY {b d:List Nat} {e:Nat} (f:EndOk b e) {a c:Nat} (g:a < d.length) (i:d[a]=c+1) (k:c < e):(aL b d)[a]'(by rw [dB];exact g)=b.getD c 0:=by
 have j:=f.len;unfold aL;rw [List.getElem_map,i,gL oM]
def IsSuf.row {d b:List Nat} (f:IsSuf d b) {p:Nat} (g:p < d.length):∃a,∃c:a < b.length,b[a]=p:=by
 obtain ⟨a,c,e⟩:=zBn.1 (f.mem g);exact ⟨a,c,e⟩
def yO (a:List Nat) (b lv:Nat) (d:b < a.length):(aR a lv (aX a[b] lv))[fK a b a[b] lv]?=some (eP a[b] lv):=by
 unfold aR fK;have c:a=a.take b++a[b]::a.drop (b+1):=by rw [<-zAx d,zAu]
 generalize e:a[b]=s at c⊢;generalize a.take b=A at c⊢;rw [c,List.filter_append,List.filter_cons,zBw (by simp),zAz,List.countP_eq_length_filter,zAo (by simp)];simp
def TC (lv a:Nat):Nat:=16+512*lv+a
def aDf {lv a c b:Nat} (e:a < 512) (f:b < 512) (d:TC lv a=TC c b):lv=c/\a=b:=by
 unfold TC at d;omega
def aDo {lv a:Nat} (c:lv < 9) (d:a < 2 ^ lv):a < 512:=by
 have:2 ^ lv<=2 ^ 9:=zBo dC oM;have b:(2:Nat)^ 9=512:=dC;omega
def pZ (own:Nat->Nat) (d c b a:Nat):Nat:=if a < d then own a else if a < c then b else 0
structure WaveS (w:World) (B:Nat) (own:Nat->Nat) (gv:Nat) (S:Nat->Value) (Ls:Nat->List Nat) (n v:Int):Prop where
 blk:Bk w gv 135 (wcells S n v)
 base:B<=gv/\own gv=2
 rows:∀lv,lv < 9->∃G:Nat->Nat,w.ownsRow B 143 3 (S lv) (2 ^ lv) (cC G lv (2 ^ lv))/\(∀b,(S lv).ownBlock=some b->own b=2)/\∀p,p < 2 ^ lv->TreeE w (fun b=>own b=TC lv p) (G p) (aR (Ls lv) lv p)
 bnd:∀b,own b≠0->B<=b/\b < w.heap.size
def WaveE (f:World) (b:Nat) (own:Nat->Nat) (d:Nat) (a:List Nat):Prop:=∃c e,WaveS f b own d c (fun _=>a) (a.length:Int) e
def WaveS.vis {l w':World} {d:Nat} {own:Nat->Nat} {i:Nat} {f:Nat->Value} {e:Nat->List Nat} {k u:Int} (a:WaveS l d own i f e k u) (b:Vis l w'):∃c,WaveS w' d own i f e k c:=by
 obtain ⟨c,q⟩:=b.waveC a.blk;refine ⟨c,q,a.base,fun lv r=>?_,fun g j=>⟨(a.bnd g j).1,zAl (a.bnd g j).2 b.size⟩⟩;obtain ⟨m,n,o,p⟩:=a.rows lv r;exact ⟨m,b.own n dC dC,o,fun t s=>(p t s).vis b⟩
def WaveE.vis {e w':World} {b:Nat} {own:Nat->Nat} {d:Nat} {c:List Nat} (a:WaveE e b own d c) (i:Vis e w'):WaveE w' b own d c:=by
 obtain ⟨f,k,a⟩:=a;obtain ⟨j,g⟩:=a.vis i;exact ⟨f,j,g⟩
def WaveE.at {j:World} {d:Nat} {own:Nat->Nat} {g:Nat} {e:List Nat} (a:WaveE j d own g e):WaveAt j d g e:=by
 obtain ⟨k,o,a⟩:=a;refine ⟨a.base.1,k,o,a.blk,fun lv n=>?_⟩;obtain ⟨c,l,p,f⟩:=a.rows lv n;refine ⟨c,l,fun b i=>⟨?_,(f b i).at⟩⟩;have m:own (c b)=TC lv b:=(f b i).fg;exact (a.bnd (c b) (by rw [m];unfold TC;omega)).1
def WaveS.edit {f m:World} {t:Nat} {own:Nat->Nat} {y:Nat} {u:Nat->Value} {q:Nat->List Nat} {H a8 R:Int} (g:WaveS f t own y u q H a8) {lv j E:Nat} (a4:lv < 9) (a6:j < 2 ^ lv) {p:Nat->Nat} (Y:f.ownsRow t 143 3 (u lv) (2 ^ lv) (cC p lv (2 ^ lv)))
 (N:own E < 16) (a2:∀w,¬Bk f E 143 w) {K:List Bool} (ht:TreeE m (Gw (fun a=>own a=TC lv j) f.heap.size) (p j) K) (G:Keep (fun I=>own I=TC lv j∨I=y∨I=E) f m) (F:Bk m y 135 (wcells u H R))
 {C:List Nat} (a0:aR C lv j=K) (a1:∀c,c≠j->aR C lv c=aR (q lv) lv c):
 WaveS m t (pZ own f.heap.size m.heap.size (TC lv j)) y u (fun b=>if b=lv then C else q b) H R:=by
 have al:t<=f.heap.size:=zAk g.base.1 (zCi g.blk.lt);have B:∀a,a < f.heap.size->pZ own f.heap.size m.heap.size (TC lv j) a=own a:=fun a F=>by unfold pZ;rw [zBw F]
 refine ⟨F,⟨g.base.1,by rw [B _ g.blk.lt];exact g.base.2⟩,fun b Q=>?_,fun a l=>?_⟩
 · obtain ⟨o,x,L,M⟩:=g.rows b Q;refine ⟨o,aA x fun a w A r=>G.bk r fun d=>?_,fun a A=>?_,fun c s=>?_⟩;rcases d with d | d | d;rw [L a A] at d;unfold TC at d;omega;subst d;exact absurd (aU r g.blk).1 dC;subst d;exact a2 w r;rw [B _ (x.lt a A).2];exact L a A
   · have P:(b≠lv∨c≠j)->TreeE m (fun a=>pZ own f.heap.size m.heap.size (TC lv j) a=TC b c) (o c) (aR (q b) b c):=fun a5=>by
        have a7:=(M c s).keep G fun a an w O r i d=>by rcases d with d | d | d;rw [i] at d;obtain ⟨e,n⟩:=aDf (aDo Q s) (aDo a4 a6) d;rcases a5 with z | z;exact z e;exact z n;subst d;rw [(aU r g.blk).1] at O;exact absurd O dC;subst d;rw [i] at N;unfold TC at N;omega
        have am:TreeE f (fun a=>own a=TC b c) (o c) (aR (q b) b c):=M c s;refine a7.mono fun a l i=>?_;have a3:a < f.heap.size:=(g.bnd a (by rw [i];unfold TC;omega)).2;rw [B a a3];exact i
     by_cases e:b=lv
     · subst e;rw [zBw rfl];by_cases n:c=j
       · subst n;rw [a0]
         have Z:o c=p c:=by
           have z:=x.1;have e:=(fE o b (2 ^ b) c s).1;have n:=(fE p b (2 ^ b) c s).1
           have X:cC o b (2 ^ b)=cC p b (2 ^ b):=by
             rcases x.2 with ⟨J,S⟩|⟨aj,af,ah,J,S,T,a9,aa,ab,U⟩;have:=Nat.two_pow_pos b;omega
             · rcases Y.2 with ⟨k,v⟩|⟨ak,ag,ai,k,v,V,ac,ad,ae,W⟩;have:=Nat.two_pow_pos b;omega
               · rw [J] at k;injection k with k _ _;injection k with k;injection k with k _;subst k;obtain ⟨_,rfl⟩:=aU T V;rw [<-U,<-W]
           rw [X,n] at e;injection e with e;injection e with e;injection e with e;injection e with e _;exact e.symm
         rw [Z];refine ht.mono fun a l i=>?_;rcases i with i | i;rw [B a (g.bnd a (by rw [i];unfold TC;omega)).2];exact i
         · unfold pZ;rw [zBv oM,zBw l]
       rw [a1 c n];exact P (.inr n)
     rw [zBv e];exact P (.inl e)
 unfold pZ at l;by_cases D:a < f.heap.size;rw [zBw D] at l;exact ⟨(g.bnd a l).1,zAl D G.size⟩;rw [zBv D] at l;by_cases v:a < m.heap.size;exact ⟨by omega,v⟩;rw [zBv v] at l;exact absurd rfl l
def WaveS.far {q r:World} {f:Nat} {own:Nat->Nat} {l:Nat} {j:Nat->Value} {i:Nat->List Nat} {o p:Int} (b:WaveS q f own l j i o p) {g:Nat->Prop} (d:Keep g q r) (e:∀a,g a->own a≠2/\own a < 16):WaveS r f own l j i o p:=by
 refine ⟨d.bk b.blk (fun c=>by have:=e _ c;have:=b.base.2;omega),b.base,fun lv y=>?_,fun a m=>⟨(b.bnd a m).1,zAl (b.bnd a m).2 d.size⟩⟩;obtain ⟨s,u,k,v⟩:=b.rows lv y;exact ⟨s,aA u fun a t w n=>d.bk n (fun c=>by have:=e _ c;have:=k a w;omega),k,fun A z=>(v A z).keep d fun a C t B n x c=>by
  have:=e a c;rw [x] at this;unfold TC at this;omega⟩
def WaveE.far {g i:World} {c:Nat} {own:Nat->Nat} {f:Nat} {e:List Nat} (b:WaveE g c own f e) {d:Nat->Prop} (l:Keep d g i) (k:∀a,d a->own a≠2/\own a < 16):WaveE i c own f e:=by
 obtain ⟨j,m,b⟩:=b;exact ⟨j,m,b.far l k⟩
def WaveS.paint {c:World} {d:Nat} {own own':Nat->Nat} {e:Nat} {j:Nat->Value} {i:Nat->List Nat} {n o:Int} (b:WaveS c d own e j i n o) (f:∀a,a < c.heap.size->2<=own a->own' a=own a) (r:∀a,own' a≠0->d<=a/\a < c.heap.size):WaveS c d own' e j i n o:=by
 refine ⟨b.blk,⟨b.base.1,by rw [f e b.blk.lt (by rw [b.base.2];omega)];exact b.base.2⟩,fun lv t=>?_,r⟩;obtain ⟨p,k,l,q⟩:=b.rows lv t;refine ⟨p,k,fun a g=>?_,fun v u=>(q v u).mono fun a s m=>?_⟩;rw [f a (k.lt a g).2 (by rw [l a g];omega)];exact l a g;rw [f a s (by rw [m];unfold TC;omega)];exact m
def WaveE.paint {b:World} {c:Nat} {own own':Nat->Nat} {f:Nat} {e:List Nat} (d:WaveE b c own f e) (i:∀a,a < b.heap.size->2<=own a->own' a=own a) (j:∀a,own' a≠0->c<=a/\a < b.heap.size):WaveE b c own' f e:=by
 obtain ⟨g,k,d⟩:=d;exact ⟨g,k,d.paint i j⟩
def aBT (e gk d:Nat) (lv v:Int) (m:Value) (c:List Bool) (b:Nat) (a:World) (ht:TreeAt a e c) (j:Bk a gk 3 #[(b:Int)]) (k:Bk a d 4 #[m]) (o:b < c.length):
 Calls prog 173 #[.agg #[e,.int .i64 lv,.int .i64 v],gk,d] a fun n w=>n=.returned (.tuple #[])/\
  ∃w1,VisK (fun g=>g=e) a w1/\Bk w1 d 4 #[m]/\w=w1.setCell d (.bool (c.getD b false)):=by
 have y:a.cell? gk=some (.int .i64 (b:Int)):=(j.cell 0).trans rfl;have B:=j.lt;have C:=k.lt;obtain ⟨x,i⟩:=eqx (c.getD b false);rw [i];obtain ⟨r,u,Hn,s⟩:=hqq4 i ht k o;clear ht j k i o;go_enter func173,ntmps173;go_wp2_with fail;refine (uV e c b _ (u.out.below (bR.alloc nL _)) s.out).mono ?_;rintro n w1 ⟨rfl,p⟩;rw [r.out];have l:VisK (fun g=>g=e) a w1:=(VisK.of_below (bR.alloc nL _)).trans p;have f:=l.1.bk Hn.out dC dC;have z:w1.cell? d=some m:=(f.cell 0).trans rfl;have A:=f.frozen 0;obtain ⟨q,t⟩:=hqq2 l f;clear p l f;go_wp2_with fail;go_end0;exact ⟨rfl,w1,q.out,t.out,rfl⟩
def aAy (b e gk c:Nat) (v:Nat->Value) (A aA lv i:Int) (a8:Value) (t:List Bool) (r:Nat) (w0 d:World) (H:Bk d b 135 (wcells v A aA)) (R:TreeAt w0 e t) (S:Vis w0 d) (ao:w0.heap.size<=c) (N:Bk d gk 3 #[(r:Int)]) (E:Bk d c 4 #[a8]) (au:r < t.length):
 Calls prog 115 #[b,.agg #[e,.int .i64 lv,.int .i64 i],.func (.func 173) #[] #[gk,c]] d fun j U=>j=.returned (.tuple #[])/\
  VisF (fun a=>a=c) d U/\Keep (fun a=>a=b∨a=e∨a=c) d U/\Bk U c 4 #[.bool (t.getD r false)]:=by
 have ht:=R.vis S;obtain ⟨o,L⟩:=eqx (t.getD r false);rw [L];obtain ⟨ag,aj,af⟩:=hqq3 L R S;clear L R S;obtain ⟨ay,P⟩:=eqx (Obj.cells #[e,.int .i64 lv,.int .i64 i] 143);have a1:=(Below.refl d.heap.size d).alloc nL ay;have Q:=Bk.new d 143 #[e,.int .i64 lv,.int .i64 i];rw [P] at Q;have aM:=N.lt;have aN:=E.lt;have aO:=H.lt;have ax:=Bk.ne E H dC;obtain ⟨I,Hn,V,X,n,W,ah⟩:=hqq7 ht E N H a1 Q P;clear ht N E H a1 Q P;go_enter func115,ntmps115;go_wp2_with fail;rw [ah.out];refine (aBT e gk c lv i a8 t r _ (I.out.below n.out) (V.out.alloc _) (Hn.out.alloc _) au).mono ?_;rintro j s ⟨rfl,w1,q,a3,rfl⟩;rw [ag.out];obtain ⟨m,a5⟩:=((Vis.of_below n.out).trans q.1).waveC X.out;have z:=a5.far (p:=c) (fun g=>ax g.symm) (.bool o);have av:=I.out.vis ((Vis.of_below n.out).trans q.1);have y:TreeAt (w1.setCell c (.bool o)) e t:=aj.out.vis (((af.out.trans (Vis.of_below n.out)).trans q.1).fresh (p:=c) ao _);obtain ⟨B,T⟩:=y.visits;have u:=(q.1.bk W.out dC dC).far (p:=c) (fun g=>absurd (show d.heap.size=c from g) oM) (.bool o);have G:=a3.set 0 (.bool o);have M:VisF (fun a=>a=c) d (w1.setCell c (.bool o)):=VisF.put (F:=fun a=>a=c) (VisF.of_vis ((Vis.of_below n.out).trans q.1)) (p:=c) (.inl rfl) _;have O:Keep (fun a=>a=b∨a=e∨a=c) d (w1.setCell c (.bool o)):=Keep.setCell (F:=fun a=>a=b∨a=e∨a=c) ((Keep.of_below n.out).trans (q.2.mono fun a _ j=>.inr (.inl j))) (p:=c) (.inl (.inr (.inr rfl))) _;obtain ⟨C,a0⟩:=eqx (w1.setCell c (.bool o));rw [a0] at z y T u G M O⊢;have az:C.cell? d.heap.size=some (.pointer (some e)):=(u.cell 0).trans rfl;obtain ⟨J,ai,ae,ac,ad,ak,al⟩:=hqq7 z u G M O y T;have aw:=y.lt;have aL:=u.lt;have aq:=Bk.ne z u dC;have ap:=Bk.ne z G dC;have ar:e≠b:=by rintro rfl;obtain ⟨_,D⟩:=ak.out.blk;exact absurd (aU D J.out).1 dC
 clear z u G M O y T a0 a5 av a3 q n I Hn V X W az;go_wp2_with fail;refine wp_region_any kR ?_;refine dF [9,10,11,12,13,14,15,16,17,18] (fun a=>a=b) 10 [3,10] (fun s=>Bk s b 135 (wcells v A m)) (fun _ s=>Bk s b 135 (wcells v A (IntKind.i64.wrap (m+B)))) [is b,is b,is (.pointer (some ⟨b,10,none⟩)),is (.int .i64 m),is d.heap.size,is e,is (.int .i64 B),is (.int .i64 (IntKind.i64.wrap (m+B))),is b,is (.pointer (some ⟨b,10,none⟩)),dU] _ _ rfl kR kR (J.out) (fun s aR g _ an=>Bk.below g an g.lt) (fun _ _ _ g r=>Bk.below g r g.lt) tA1 ?_ ?_
 · refine bN ?_;refine pH3 0 (.pointer (some b)) ?_;refine pV3 0 9 ?_;refine pV3 1 10 ?_;refine sC3 (fun _ k _ K _ _ _ l _ _ _ w=>?_) ?_
   · have x:=K rfl;have aF:_=_:=l 2 11 kR rfl;have aD:k.cell? ⟨b,10,none⟩=some (.int .i64 m):=(x.cell 10).trans (aT _ _ _).2.2.2.2.2.2.2.2.2.2;go_simp;exact kq w rfl
   refine pH3 4 (.pointer (some d.heap.size)) ?_;refine pL3 4 13 (fun k f=>have f:Keep (fun a=>a=b) C k:=kD f;(((f.bk ai.out (fun g=>aq (show d.heap.size=b from g).symm)).cell 0).trans rfl:k.cell? d.heap.size=some (.pointer (some e)))) ?_;refine sC3 (fun _ k f _ _ _ _ l _ _ _ w=>?_) ?_
   · replace f:Keep (fun a=>a=b) C k:=kD f;have aG:_=_:=l 5 14 kR rfl;go_simp;refine (fM e B k ((f.cell aw ar).trans al.out)).mono ?_;rintro j aS ⟨rfl,am⟩;exact w _ _ (aC am) rfl
   refine pW3 3 12 6 15 ?_;refine pV3 0 9 ?_;refine pV3 8 17 ?_;refine sC3 (fun _ k _ K _ _ _ l _ _ _ w=>?_) ?_
   · have x:=K rfl;have aI:_=_:=l 9 18 kR rfl;have aH:_=_:=l 7 16 kR rfl;have aE:k.cell? ⟨b,10,none⟩=some (.int .i64 m):=(x.cell 10).trans (aT _ _ _).2.2.2.2.2.2.2.2.2.2;have aK:=x.frozen 10;go_simp;refine w (.bool true) _ (cK (Keep.setCell (F:=fun a=>a=b) (Keep.refl _ _) (p:=⟨b,10,none⟩) (.inl rfl) _)) ?_;rw [<-bS v A m];exact x.set 10 _
   exact aP
 · intro aJ a7 f l a2;replace f:Keep (fun a=>a=b) C a7:=kD f;obtain ⟨aQ,a6⟩:∃aB,(fun _ s=>Bk s b 135 (wcells v A (IntKind.i64.wrap (m+B)))) aB a7:=a2 10 dC;simp only [zqq];clear l a2;have a4:=Vis.of_wave f J.out a6;have Y:=VisF.trans ac.out (VisF.of_vis a4);have D:=ad.out.trans (f.mono fun a _ j=>.inl j);have Z:=f.bk ae.out (fun j=>ap (show c=b from j).symm);obtain ⟨a9,aa,ab⟩:=hqq3 Y D Z;clear a4 Y D Z a6 f;go_wp2_with fail;go_end0;exact ⟨rfl,a9.out,aa.out,ab.out⟩
def TabW.vb {a:Nat} {b d:World} (e:TabW b) (i:VB a b d) (j:0 < a) (g:0 < b.heap.size):TabW d:=
 fun c f=>(i.2.cell (p:=⟨0,c,none⟩) g (by show ¬(a<=0);omega)).trans (e c f)
def uY (e l p A B:Nat) (lv:Nat) (T:Int) (z:List Bool) (r q m:Nat) (c:World) (ht:TreeAt c l z) (J:Bk c p 3 #[(q:Int)]) (N:Bk c A 3 #[(m:Int)]) (Q:Bk c B 3 #[(lv:Int)]) (ah:lv < 9) (ai:m < 257) (M:z[r]?=some (eP m lv)) (I:(z.take r).count (eP m lv)=q) (E:TabW c) (ad:0 < e) (ae:e<=l):
 Calls prog 222 #[.agg #[l,(lv:Int),.int .i64 T],p,A,B] c fun D au=>D=.returned (.tuple #[])/\
  ∃w1,VB e c w1/\Bk w1 p 3 #[(q:Int)]/\au=w1.setCell p (.int .i64 (r:Int)):=by
 have am:=J.lt;have an:=N.lt;have ao:=Q.lt;have W:0 < c.heap.size:=E.pos;obtain ⟨n,v⟩:=eqx (eP m lv);rw [v] at M I;obtain ⟨Y,L⟩:=eqx (Obj.cells #[l,(lv:Int),.int .i64 T] 143);have k:=(Below.refl c.heap.size c).alloc nL Y;have x:=Bk.new c 143 #[l,(lv:Int),.int .i64 T];rw [L] at x;have ap:=x.lt;obtain ⟨s,H⟩:=eqx (c.alloc Y);have P:=ht.below k;have K:=J.below k am;have O:=N.below k an;have R:=Q.below k ao;have G:=E.below k W;rw [H] at k x P K O R G ap;have X:=k.size;obtain ⟨a3,a7,a4,aa,U,a8,ab,a1,a0⟩:=hqq9 v M I P K O R G k;obtain ⟨a9,a6,a2,a5⟩:=hqq4 x L H X;clear v M I ht J N Q E k x L P K O R G H X;go_enter func222,ntmps222;go_wp2_with fail;rw [a6.out,a2.out];refine wp_region_any kR ?_;refine dO e 7 [5,6,7,8,9,10,11] (fun _=>False) 6 [] (fun _=>True) (is (r:Int)) [is c.heap.size,is l,is (q:Int),is (m:Int),is (lv:Int),is (.bool n),dU] _ _ rfl dC kR kR kR (trivial) (fun _ _ _ _ _=>trivial) (nB _ _) tA0 ?_ ?_
 · refine dG ?_;refine pH3 4 (.pointer (some c.heap.size)) ?_;refine sC3 (fun _ b a _ _ _ _ j _ _ _ d=>?_) ?_
   · replace a:VFB e (fun _=>False) s b:=fD a;have aB:_=_:=j 0 5 kR rfl;have S:b.cell? c.heap.size=some (.pointer (some l)):=((a.1.bk a9.out dC dC (fun g=>g)).cell 0).trans rfl;go_simp;exact d _ _ (aD vR) rfl
   refine sC3 (fun o b a _ _ _ w _ _ _ _ d=>?_) ?_
   · replace a:VFB e (fun _=>False) s b:=fD a;have ax:o (.tmp 1)=.pointer (some p):=w 1 kR;have S:b.cell? p=some (.int .i64 (q:Int)):=((a.1.bk U.out dC dC (fun g=>g)).cell 0).trans rfl;go_simp;exact d _ _ (aD vR) rfl
   refine sC3 (fun o b a _ _ _ w _ _ _ _ d=>?_) ?_
   · replace a:VFB e (fun _=>False) s b:=fD a;have az:o (.tmp 2)=.pointer (some A):=w 2 kR;have S:b.cell? A=some (.int .i64 (m:Int)):=((a.1.bk a8.out dC dC (fun g=>g)).cell 0).trans rfl;go_simp;exact d _ _ (aD vR) rfl
   refine sC3 (fun o b a _ _ _ w _ _ _ _ d=>?_) ?_
   · replace a:VFB e (fun _=>False) s b:=fD a;have aA:o (.tmp 3)=.pointer (some B):=w 3 kR;have S:b.cell? B=some (.int .i64 (lv:Int)):=((a.1.bk ab.out dC dC (fun g=>g)).cell 0).trans rfl;go_simp;exact d _ _ (aD vR) rfl
   refine sC3 (fun _ b _ _ _ _ _ j _ _ _ d=>?_) ?_
   · have aF:_=_:=j 3 8 kR rfl;have aG:_=_:=j 4 9 kR rfl;go_simp;refine (kC m lv b ai ah).mono ?_;rintro D av ⟨rfl,ag⟩;rw [a3.out];exact d _ _ (aD (VisK.of_below ag)) rfl
   refine sC3 (fun _ b a _ _ _ _ j _ _ _ d=>?_) ?_
   · replace a:VFB e (fun _=>False) s b:=fD a;have aC:_=_:=j 1 6 kR rfl;have aE:_=_:=j 2 7 kR rfl;have ay:_=_:=j 5 10 kR rfl;go_simp;have t:=VFB.to_vb a (fun n _ g=>g);have aj:=aa.out.vis t.1;have af:=a1.out.vb t ad (zAl W a5.out);refine (oU l z r q n b aj a7.out a4.out af oM).mono ?_;rintro D av ⟨rfl,ak⟩;exact d _ _ (aD (ak.mono fun n v=>by rcases v with rfl;exact ae)) rfl
   exact aP
 · intro o y u a j V;replace a:VFB e (fun _=>False) s y:=fD a;have ac:o (.tmp 11)=.int .i64 (r:Int):=j 6 11 dC rfl;obtain ⟨ar,Z⟩:=V 6 dC;have aq:(is (r:Int)) ar y:=Z;clear Z V;simp only [zqq];rw [ac];clear j;have t:=VFB.to_vb a (fun n _ g=>g);have C:=t.1.bk U.out dC dC;have aw:y.cell? p=some (.int .i64 (q:Int)):=(C.cell 0).trans rfl;have aH:=C.frozen 0;have al:=(VisK.of_below (F:=fun n=>e<=n) a0.out).trans t;have aI:=C.lt;clear t a aq;change wpAny prog Region.Mode.any _ _ (1+u) (cE 7 8) _ y;rw [zCo 1 u];refine dI (f:=u) (i:=7) kR ?_;refine eE rfl rfl ?_;generalize d:wpAny prog _ _ _ u _=K5;go_simp;subst d;refine dW kR ?_;go_wp2_with fail;go_end0;exact ⟨rfl,y,al,C,rfl⟩
def aAx (l a f d L M:Nat) (u:Nat->Value) (A aS j:Int) (lv:Nat) (v:List Bool) (i Y B:Nat) (w0 c:World) (I:Bk c a 135 (wcells u A aS)) (V:TreeAt w0 f v) (W:Vis w0 c) (aE:w0.heap.size<=d) (G:Bk c d 3 #[(Y:Int)]) (U:Bk c L 3 #[(B:Int)]) (Q:Bk c M 3 #[(lv:Int)]) (aI:lv < 9) (aJ:B < 257) (aa:v[i]?=some (eP B lv)) (a8:(v.take i).count (eP B lv)=Y) (N:TabW c) (ax:0 < l) (aA:l<=a) (az:l<=f) (ay:l<=d):
 Calls prog 115 #[a,.agg #[f,(lv:Int),.int .i64 j],.func (.func 222) #[] #[d,L,M]] c fun q Z=>q=.returned (.tuple #[])/\
  VisF (fun b=>b=d) c Z/\Keep (fun b=>l<=b) c Z/\Bk Z d 3 #[(i:Int)]:=by
 have ht:=V.vis W;obtain ⟨au,am,ap,an,al,ar⟩:=hqq6 V W aa a8 N U;have b8:=U.lt;have aN:0 < c.heap.size:=N.pos;clear V W aa a8 N U;obtain ⟨aQ,S⟩:=eqx (Obj.cells #[f,(lv:Int),.int .i64 j] 143);have a6:=(Below.refl c.heap.size c).alloc nL aQ;have T:=Bk.new c 143 #[f,(lv:Int),.int .i64 j];rw [S] at T;have b5:=Q.lt;have b6:=G.lt;have b7:=I.lt;have aO:=Bk.ne G I dC;obtain ⟨J,Hn,a0,a2,m,a1,ao⟩:=hqq7 ht G Q I a6 T S;clear ht Q G I a6 T S;go_enter func115,ntmps115;go_wp2_with fail;rw [ao.out];refine (uY l f d L M lv j v i Y B _ (J.out.below m.out) (Hn.out.alloc _) (ar.out.alloc _) (a0.out.alloc _) aI aJ ap.out an.out (al.out.below m.out aN) ax az).mono ?_;rintro q s ⟨rfl,w1,r,a9,rfl⟩;obtain ⟨o,ac⟩:=((Vis.of_below m.out).trans r.1).waveC a2.out;have z:=ac.far (p:=d) (fun g=>aO g.symm) (.int .i64 (i:Int));have aK:=J.out.vis ((Vis.of_below m.out).trans r.1);have y:TreeAt (w1.setCell d (.int .i64 (i:Int))) f v:=au.out.vis (((am.out.trans (Vis.of_below m.out)).trans r.1).fresh (p:=d) aE _);obtain ⟨C,X⟩:=y.visits;have t:=(r.1.bk a1.out dC dC).far (p:=d) (fun g=>absurd (show c.heap.size=d from g) oM) (.int .i64 (i:Int));have H:=a9.set 0 (.int .i64 (i:Int));have P:VisF (fun b=>b=d) c (w1.setCell d (.int .i64 (i:Int))):=VisF.put (F:=fun b=>b=d) (VisF.of_vis ((Vis.of_below m.out).trans r.1)) (p:=d) (.inl rfl) _;have R:Keep (fun b=>l<=b) c (w1.setCell d (.int .i64 (i:Int))):=Keep.setCell (F:=fun b=>l<=b) ((Keep.of_below m.out).trans r.2) (p:=d) (.inl ay) _;obtain ⟨D,a5⟩:=eqx (w1.setCell d (.int .i64 (i:Int)));rw [a5] at z y X t H P R⊢;have aR:D.cell? c.heap.size=some (.pointer (some f)):=(t.cell 0).trans rfl;obtain ⟨K,aq,ak,ai,aj,av,aw⟩:=hqq7 z t H P R y X;have aL:=y.lt;have b4:=t.lt;have aG:=Bk.ne z t dC;have aF:=Bk.ne z H dC;have aH:f≠a:=by rintro rfl;obtain ⟨_,E⟩:=av.out.blk;exact absurd (aU E K.out).1 dC
 clear z t H P R y X a5 ac aK a9 r m J Hn a0 a2 a1 aR;go_wp2_with fail;refine wp_region_any kR ?_;refine dF [9,10,11,12,13,14,15,16,17,18] (fun b=>b=a) 10 [3,10] (fun s=>Bk s a 135 (wcells u A o)) (fun _ s=>Bk s a 135 (wcells u A (IntKind.i64.wrap (o+C)))) [is a,is a,is (.pointer (some ⟨a,10,none⟩)),is (.int .i64 o),is c.heap.size,is f,is (.int .i64 C),is (.int .i64 (IntKind.i64.wrap (o+C))),is a,is (.pointer (some ⟨a,10,none⟩)),dU] _ _ rfl kR kR (K.out) (fun s ba g _ aD=>Bk.below g aD g.lt) (fun _ _ _ g aM=>Bk.below g aM g.lt) tA1 ?_ ?_
 · refine bN ?_;refine pH3 0 (.pointer (some a)) ?_;refine pV3 0 9 ?_;refine pV3 1 10 ?_;refine sC3 (fun _ k _ O _ _ _ n _ _ _ w=>?_) ?_
   · have x:=O rfl;have aY:_=_:=n 2 11 kR rfl;have aW:k.cell? ⟨a,10,none⟩=some (.int .i64 o):=(x.cell 10).trans (aT _ _ _).2.2.2.2.2.2.2.2.2.2;go_simp;exact kq w rfl
   refine pH3 4 (.pointer (some c.heap.size)) ?_;refine pL3 4 13 (fun k e=>have e:Keep (fun b=>b=a) D k:=kD e;(((e.bk aq.out (fun g=>aG (show c.heap.size=a from g).symm)).cell 0).trans rfl:k.cell? c.heap.size=some (.pointer (some f)))) ?_;refine sC3 (fun _ k e _ _ _ _ n _ _ _ w=>?_) ?_
   · replace e:Keep (fun b=>b=a) D k:=kD e;have aZ:_=_:=n 5 14 kR rfl;go_simp;refine (fM f C k ((e.cell aL aH).trans aw.out)).mono ?_;rintro q bb ⟨rfl,aB⟩;exact w _ _ (aC aB) rfl
   refine pW3 3 12 6 15 ?_;refine pV3 0 9 ?_;refine pV3 8 17 ?_;refine sC3 (fun _ k _ O _ _ _ n _ _ _ w=>?_) ?_
   · have x:=O rfl;have b1:_=_:=n 9 18 kR rfl;have b0:_=_:=n 7 16 kR rfl;have aX:k.cell? ⟨a,10,none⟩=some (.int .i64 o):=(x.cell 10).trans (aT _ _ _).2.2.2.2.2.2.2.2.2.2;have b3:=x.frozen 10;go_simp;refine w (.bool true) _ (cK (Keep.setCell (F:=fun b=>b=a) (Keep.refl _ _) (p:=⟨a,10,none⟩) (.inl rfl) _)) ?_;rw [<-bS u A o];exact x.set 10 _
   exact aP
 · intro b2 ae e n a7;replace e:Keep (fun b=>b=a) D ae:=kD e;obtain ⟨b9,ad⟩:∃aV,(fun _ s=>Bk s a 135 (wcells u A (IntKind.i64.wrap (o+C)))) aV ae:=a7 10 dC;simp only [zqq];clear n a7;have ab:=Vis.of_wave e K.out ad;have a3:=VisF.trans ai.out (VisF.of_vis ab);have E:=aj.out.trans (e.mono fun b _ (q:b=a)=>by rw [q];exact aA);have a4:=e.bk ak.out (fun q=>aF (show d=a from q).symm);obtain ⟨af,ag,ah⟩:=hqq3 a3 E a4;clear ab a3 E a4 ad e;go_wp2_with fail;go_end0;exact ⟨rfl,af.out,ag.out,ah.out⟩
end
end Go.Proofs.YtnmapianpjamnaaGreatDoor
