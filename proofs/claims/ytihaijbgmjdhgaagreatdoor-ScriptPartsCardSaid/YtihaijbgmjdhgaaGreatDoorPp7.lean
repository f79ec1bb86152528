/- Lemmas of the walk. Conditions: each its own. -/
import Derived.Test.YtihaijbgmjdhgaaGreatDoorPp2
import Derived.Test.YtihaijbgmjdhgaaGreatDoorPp4
import Derived.Test.YtihaijbgmjdhgaaGreatDoorProg
set_option linter.all false
set_option maxRecDepth 100000
set_option maxHeartbeats 2000000
namespace Go.Proofs.YtihaijbgmjdhgaaGreatDoor
open Tryz
section
theorem qX {a b:Nat} (c:a≠b):((a:Int)==(b:Int))=false:=by rw [zBz];omega
theorem uT {a b:List Nat} {k c:Nat} (e:a.length=c) (f:b.length=c) (d:a.take k=b.take k) (g:c<=k):a=b:=by
 rw [zAg oM,zAg oM] at d;exact d
end
section
open Go.RowKit
theorem vA (u:Nat) (f AD:Option Addr) (a c nd cd A B:Nat) (T D:List UInt8) (j:List Nat) (r:Nat) (w:World) (H:Bk w u 63 #[.slice f a c]) (y:Rd w A 1 f a (T.map bv)) (Y:A<=w.heap.size) (a8:a<=c)
 (v:Rd w B 1 AD nd (D.map bv)) (Z:B<=w.heap.size) (F:iS T D=j) (G:j.length=r) (ak:a<=1099511627776) (al:nd<=1099511627776):
 Calls prog 68 #[u,.slice AD nd cd] w fun t o=>∃g l,t=.returned (.slice g r l)/\Made o w.heap.size 3 1 g r l (j.map nv)/\Below w.heap.size w o:=by
 obtain ⟨ad,a4,aa,ab,ac⟩:=info_parts uV;have O:T.length=a:=by simpa using y.1
 have N:D.length=nd:=by simpa using v.1
 obtain ⟨X,S⟩:=hqq2 (y.mono Y) (v.mono Z);have I:∀k:Nat,k<=a+1 - nd->¬(k+nd<=a)->fC T D k=j:=fun k ai aj=>by rw [<-F,iS,O,N];congr 1;omega
 obtain ⟨U,R⟩:=hqq2 I G;have a2:=H.lt;clear y v F G I O N;go_enter func68,ntmps68;go_wp2;go_loopw [5,6] (fun af z wr=>∃k:Nat,k<=a+1 - nd/\z=.int .i64 k/\wr.ownsRow w.heap.size 3 1 af (fC T D k).length ((fC T D k).map nv)/\Below w.heap.size w wr) (fun _ z _=>a+1 -(intOf z).toNat)
 case atStart=>exact ⟨0,zAp _,rfl,World.ownsRow_nil _ _ _ _,Below.refl _ _⟩
 case round=>
  obtain ⟨k,a5,rfl,e,b⟩:=hrel;have M:=b.size;have m:=(H.below b a2);have ah:wr.cell? u=some (.slice f a c):=(m.cell 0).trans rfl;by_cases a6:k+nd<=a
  · have L:=X.out.below b;have hcut:=eO (P:=prog) 22 5 1 underlying22 fU f a c k oM;have s:=L.cut (k:=k) (cap:=c) oM a8;rw [zBk,<-List.map_drop] at s;obtain ⟨C,E⟩:=hqq2 s (S.out.below b);have K:=rA T D k;have a3:decide ((k:Int)+(nd:Int)<=(a:Int))=true:=(by simp;omega);obtain ⟨ag,i⟩:=hqq2 m e;clear L s e m;cases n:D.isPrefixOf (T.drop k) with
    | true=>
      have d:=xL T D k n;have q:=lhd d;obtain ⟨ae,x⟩:=eqx ((fC T D k).length);rw [x] at K i;have V:=lhd x;clear d x;go_wp2_with fail;refine (pO _ _ _ _ _ _ _ _ (T.drop k) D _ C.out E.out oM).mono ?_;rintro t o ⟨rfl,rfl⟩;rw [n];go_wp2_with (at_builtin;refine aY _ rfl (.tmp 27) (.tmp 29) _ rfl w.heap.size 3 ad (.int .i64 0) 1 8 underlying39 a4 aa ab ac rfl dC _ ae _ rfl i.out rfl rfl (by simp [Value.oneCell']) (by unfold maxLen;omega) oM M ?_;intro an ao a9 J am a0);have a1:=aL b i.out J M;clear J a0;go_roundw
      case rel=>refine ⟨k+1,by omega,by go_num,?_,a1⟩;rw [q.out,zAi,V.out,zAy];exact a9
      case measure=>simp [intOf];omega
    | false=>
      have d:=aAw T D k n;have q:=lhd d;clear d K;go_wp2_with fail;refine (pO _ _ _ _ _ _ _ _ (T.drop k) D _ C.out E.out oM).mono ?_;rintro t o ⟨rfl,rfl⟩;rw [n];go_wp2;go_roundw
      case rel=>refine ⟨k+1,by omega,by go_num,?_,b⟩;rw [q.out];exact i.out
      case measure=>simp [intOf];omega
  · have a3:decide ((k:Int)+(nd:Int)<=(a:Int))=false:=(by simp;omega);rw [U.out k a5 a6,R.out] at e;obtain ⟨g,l,rfl,a7⟩:=aF e;clear e m;go_wp2;go_ret;exact ⟨g,l,rfl,a7,b⟩
def aDf (most:Int) (w c:World) (d:Ending):Prop:=∃a b,d=.returned (.tuple #[.pointer (some ⟨a,0,none⟩),.int .i64 0])/\Below w.heap.size w c/\w.heap.size<=a/\w.heap.size<=b/\a≠b/\
 Bk c a 65 #[.pointer (some ⟨b,0,none⟩),.int .i64 most]/\Bk c b 63 #[.slice none 0 0]
theorem yP (most:Int) (w:World) (c:0<=most) (d:most<=2147483648):
 Calls prog 11 #[.int .i64 most] w fun a b=>aDf most w b a:=by
 have e:¬(most < 0):=oM;have f:¬(most > 2147483648):=oM;go_enter func11,ntmps11;go_wp2;go_ret2;exact ⟨w.heap.size+1,w.heap.size,rfl,(bR.alloc nL _).alloc (by simp) _,by omega,zAs _,by omega,by simpa using Bk.new (w.alloc (.cells #[.slice none 0 0] 63)) 65 #[w.heap.size,.int .i64 most],(Bk.new _ _ _).alloc _⟩
theorem yL (A B:Option Addr) (a N e O I J:Nat) (b c:List Nat) (w:World) (n:Rd w I 1 A a (b.map nv)) (o:Rd w J 1 B e (c.map nv)) (a3:a<=1099511627776) (a4:e<=1099511627776):
 Calls prog 33 #[.slice A a N,.slice B e O] w fun U Z=>U=.returned (.bool (decide (b=c)))/\Below w.heap.size w Z:=by
 have G:b.length=a:=by simpa using n.1
 have H:c.length=e:=by simpa using o.1
 obtain ⟨K,L,f,g⟩:=hqq4 n o G H;clear n o G H;by_cases q:a=e
 · subst q;go_enter func33,ntmps33;go_wp2;go_loopw [13] (fun x wr=>∃k:Nat,k<=a/\x=.int .i64 k/\b.take k=c.take k/\∃X,wr=w.drewN X) (fun x _=>a -(intOf x).toNat)
   case atStart=>exact ⟨0,zAp _,rfl,rfl,0,rfl⟩
   case round=>
    obtain ⟨k,a2,rfl,j,a5,rfl⟩:=hrel;by_cases F:k < a
    · obtain ⟨y,t⟩:∃y,b[k]?=some y:=⟨b[k]'(by have:=f.out;omega),zAa (by have:=f.out;omega)⟩;obtain ⟨z,v⟩:∃z,c[k]?=some z:=⟨c[k]'(by have:=g.out;omega),zAa (by have:=g.out;omega)⟩;obtain ⟨b1,a6,a8,rfl,a0,r,R⟩:=K.out.get F;obtain ⟨b2,a7,a9,rfl,a1,s,S⟩:=L.out.get F;rw [zAf,t] at r;rw [zAf,v] at s;simp only [Option.map_some,Option.some.injEq] at r s;subst r;subst s;unfold nv iv at R S;obtain ⟨M,C,E⟩:=hqq3 j t v;clear j t v;by_cases u:y=z
      · subst u;go_wp2;go_quiet (fail);go_wp2;go_roundw
        case rel=>refine ⟨k+1,by omega,by go_num,?_,_,rfl⟩;rw [zAu,zAu,M.out,C.out,E.out]
        case measure=>simp [intOf];omega
      · have Y:=qX u
        have d:b≠c:=fun m=>u (by
         have i:=C.out;rw [m,E.out] at i;injection i with i;exact i.symm)
        have l:=lhd d;clear d;go_wp2;go_quiet (fail);go_wp2;go_ret;exact ⟨bF (by rw [zBw l.out]),below_drewN (below_drewN bR _) _⟩
    · have V:a<=k:=oM;have d:=lhd (uT f.out g.out j V);clear j;go_wp2;go_ret;exact ⟨bF (by rw [zBx d.out]),below_drewN bR _⟩
 · have d:b≠c:=fun m=>q (by rw [<-f.out,<-g.out,m]);have l:=lhd d;have Y:=qX q;clear d;go_enter func33,ntmps33;go_wp2;go_ret;exact ⟨bF (by rw [zBw l.out]),Below.refl _ _⟩
theorem aCp (e f g i:Int) (y z A B:Option Addr) (S Z U a0 s a1 t a2 C E F G:Nat) (j l:List UInt8) (q r:List Nat) (w:World) (L:Rd w C 1 y S (j.map bv)) (M:Rd w E 1 z U (l.map bv)) (N:Rd w F 1 A s (q.map nv)) (O:Rd w G 1 B t (r.map nv))
 (b1:C<=w.heap.size) (b2:E<=w.heap.size) (J:F<=w.heap.size) (K:G<=w.heap.size) (a4:s<=1099511627776) (a5:t<=1099511627776):
 Calls prog 16 #[.agg #[.int .i64 e,.int .i64 g,.slice y S Z,.slice A s a1],.agg #[.int .i64 f,.int .i64 i,.slice z U a0,.slice B t a2]] w fun m o=>m=.returned (.bool (decide (e=f/\g=i/\j=l/\q=r)))/\Below w.heap.size w o:=by
 have b:∀u v,Below w.heap.size w ((w.alloc u).alloc v):=fun u v=>((Below.refl w.heap.size w).alloc nL u).alloc (by simp) v;obtain ⟨H,I,X,Y⟩:=hqq4 (L.mono b1) (M.mono b2) (N.mono J) (O.mono K);clear L M N O b1 b2 J K;by_cases c:e=f
 · by_cases d:g=i
   · by_cases n:j=l
     · have x:(e==f)=true:=(by rw [zCl];exact c);have V:(g==i)=true:=(by rw [zCl];exact d);have a:=lhd (And.intro c (And.intro d n));clear c d n;go_enter func16,ntmps16;go_wp2_with fail;refine (kM _ _ _ _ _ _ _ _ j l _ (H.out.below (b _ _)) (I.out.below (b _ _))).mono ?_;rintro m o ⟨rfl,rfl⟩;rw [zBx a.out.2.2];go_wp2_with fail;refine (yL _ _ _ _ _ _ _ _ q r _ (X.out.below (b _ _)) (Y.out.below (b _ _)) a4 a5).mono ?_;rintro m o ⟨rfl,R⟩;have a3:=(b _ _).trans (R.mono (b _ _).size);clear R;go_wp2_with fail;go_ret;exact ⟨bF (by simp [a.out.1,a.out.2.1,a.out.2.2]),a3⟩
     · have x:(e==f)=true:=(by rw [zCl];exact c);have V:(g==i)=true:=(by rw [zCl];exact d);have a:=lhd n;clear c d n;go_enter func16,ntmps16;go_wp2_with fail;refine (kM _ _ _ _ _ _ _ _ j l _ (H.out.below (b _ _)) (I.out.below (b _ _))).mono ?_;rintro m o ⟨rfl,rfl⟩;rw [zBw a.out];go_wp2_with fail;go_ret;exact ⟨bF (by simp [a.out]),b _ _⟩
   · have x:(e==f)=true:=(by rw [zCl];exact c);have V:(g==i)=false:=(by rw [zBz];exact d);have a:=lhd d;clear c d;go_enter func16,ntmps16;go_wp2_with fail;go_ret;exact ⟨bF (by simp [a.out]),b _ _⟩
 · have x:(e==f)=false:=(by rw [zBz];exact c);have a:=lhd c;clear c;go_enter func16,ntmps16;go_wp2_with fail;go_ret;exact ⟨bF (by simp [a.out]),b _ _⟩
theorem xU (T D:List UInt8) (most kind p k:Int):(doM T most kind p k D).2.places.length<=T.length+1:=by
 unfold doM;by_cases a:kind=1
 · rw [zBv a];split
   · simp
   · split <;> simp
 rw [zBu a];by_cases b:kind=2
 · rw [zBv b];split <;> simp
 rw [zBu b];by_cases e:kind=5
 · rw [zBv e];split <;> simp
 rw [zBu e];by_cases c:kind=3
 · rw [zBv c];split <;> simp
 rw [zBu c];by_cases d:kind=4
 · rw [zBv d];simp
 rw [zBu d];by_cases f:kind=6
 · rw [zBv f];simp
 rw [zBu f];by_cases g:kind=7;rw [zBv g];have:=rA T D (T.length+1 - D.length);simp only [iS];omega;rw [zBu g];by_cases i:kind=8
 · rw [zBv i];simp
 rw [zBu i];simp
end
section
open Go.RowKit Go
section
variable {P : Program} {ops : Array Oper} {Q : Exit -> Act -> World -> Prop} {md : Region.Mode}
theorem aAk {c:Array Bool} {a J:Nat} (d:a < c.size):(c.setIfInBounds a true).getD J false=(c.getD J false||decide (a=J)):=by
 by_cases b:a=J
 · subst b;rw [aE _ _ d];simp
 · rw [getD_set_ne false b];simp [b]
theorem tT (e m:Nat) (a6:List Nat) (H:Bool->World->Prop) (a1:Bool->Nat->World->World->Prop) (R:Bool->Nat->World->Prop) (M:Nat->Value->World->Prop) (A:Act)
 (a5:World) (aD:(ops.toList.take e).filterMap (·.dst)=a6) (aJ:e<=ops.size) (aa:eL md ops A.tmps.size=true) (aP:((List.range ops.size).all fun k=>decide (k < e)||(List.range e).all fun a=>upB md ops ops.size k a)=true) (av:H false a5) (ax:∀a,R false a a5)
 (au:∀c b w z,b < e->(b=m->c=false)->H c w->a1 c b w z->H (c||decide (b=m)) z)
 (aw:∀c a b w z,b < e->a≠b->(b=m->c=false)->upB md ops ops.size b a=false->R c a w->H c w->a1 c b w z->R (c||decide (b=m)) a z)
 (aN:∀c a b G w z,b < e->a≠b->(b=m->c=false)->kK md ops a b=false->upB md ops ops.size a b=false->M a G w->H c w->a1 c b w z->M a G z)
 (aO:∀c b j,b < e->ops[b]?=some j->(b=m->c=false)->(upB md ops ops.size b m=true->c=true)->bS P ops Q md (H c) (a1 c) (R c) M A b j)
 (aF:∀(c:Bool) (aj:Operand->Value) w S,(m < e->c=true)->H c w->(∀a c,a < e->((ops[a]?).bind (·.dst))=some c->M a (aj (.tmp c)) w)->wpAny P md ops Q (ops.size - e+S) (bG e ops.size) (cD aj a6 A) w):
 wpAny P md ops Q ops.size (Array.replicate ops.size false) A a5:=by
 have ao:∀o w S (c:Bool),(m < e->c=true)->H c w->o.tmps.size=A.tmps.size->o.defers=A.defers->
  (∀u,(∀(k:Nat) (p:Oper),k < e->ops[k]?=some p->p.dst≠some u)->o.tmps.getD u undef=A.tmps.getD u undef)->
  (∀a j,a < e->ops[a]?=some j->∃G,(∀c,j.dst=some c->o.tmps.getD c undef=G)/\M a G w)->wpAny P md ops Q (ops.size - e+S) (bG e ops.size) o w:=fun o w S c i U ae aB ac aQ=>by
  have r:=aF c o.eval w S i U fun a c n i=>by
   cases l:ops[a]? with
   | none=>rw [l] at i;cases i
   | some j=>
     rw [l] at i;obtain ⟨G,r,x⟩:=aQ a j n l;have:=r c i;change M a (o.tmps.getD c undef) w;rw [this];exact x
  rw [<-gU o A a6 ae aB fun u F=>ac u fun k p s f i=>F ?_] at r;exact r;rw [<-aD];refine List.mem_filterMap.2 ⟨p,?_,i⟩;have aI:(ops.toList.take e)[k]?=some p:=(by rw [zBq,zBv s,Array.getElem?_toList];exact f);exact zAd aI
 have aS:∀g:Array Bool,g.size=ops.size->Region.ready md ops g= []->∀a,a < ops.size->g.getD a false=true:=by
  intro g O ad a
  induction a using Nat.strongRecOn with
  | _ a ah=>
    intro n;cases E:g.getD a false with
    | true=>rfl
    | false=>
      exfalso;have a4:a∈Region.ready md ops g:=(by refine mem_ready.2 ⟨?_,ops[a],zAq n,fun q t L=>?_⟩;have a8:a < g.size:=oM;simp [a8] at E⊢;exact E;have:=(bV aa (zAq n)).1 q t L;exact ah q.on this oM);rw [ad] at a4;cases a4
 have aR:∀I g o w,g.size=ops.size->g.toList.count false<=I->Loose7 md ops (H (g.getD m false)) (R (g.getD m false)) M A g o w->(∀k,e<=k->g.getD k false=false)->wpAny P md ops Q I g o w:=by
  intro I
  induction I with
  | zero=>
    intro g o w O E d a0
    have C:∀a,a < ops.size->g.getD a false=true:=by
        intro a n;have a8:a < g.size:=oM;cases N:g.getD a false with
        | true=>rfl
        | false=>
          exfalso;have:false∈g.toList:=(by simp [a8] at N;exact N ▸(by simp));have:=List.count_pos_iff.2 this;omega
    have aL:e=ops.size:=by
        rcases zBd e ops.size with r | r
        · have x:=C e r;rw [a0 e nL] at x;cases x
        omega
    have t:g=bG e ops.size:=by
        apply Array.ext
        · simp [bG,O]
        intro a r x;have v:=C a oM;simp [r] at v;simp [bG,v];omega
    have v:=ao o w 0 _ (fun am=>C m oM) d.world d.size d.defers (fun u F=>d.old u fun k p f i=>absurd i (F k p (by have:=(zAh.1 f).1;omega) f)) fun a j n l=>d.val a j l (C a (zAh.1 l).1);rw [<-t,<-aL,Nat.sub_self] at v;exact v
  | succ I ah=>
    intro g o w O E d a0;by_cases C:∀a,a < e->g.getD a false=true
    · have t:g=bG e ops.size:=by
       apply Array.ext
       · simp [bG,O]
       intro a r x;rcases zBd a e with y | y;have v:=C a y;simp [r] at v;simp [bG,v];exact y;have v:=a0 a y;simp [r] at v;simp [bG,v];omega
      have aU:ops.size - e<=I+1:=(by rw [t,lN _ _ aJ] at E;exact E);have v:=ao o w (I+1 -(ops.size - e)) _ (fun am=>C m am) d.world d.size d.defers (fun u F=>d.old u fun k p f i=>by
       rcases zBd k e with y | y;exact absurd i (F k p y f)
       · exact a0 k y) fun a j n l=>d.val a j l (C a n)
      rw [<-t,show ops.size - e+(I+1 -(ops.size - e))=I+1 by omega] at v;exact v
    refine ⟨fun ad=>absurd (fun a n=>aS g O ad a oM) C,fun b aH=>?_⟩;obtain ⟨ak,j,l,V⟩:=mem_ready.1 aH;have Z:b < ops.size:=(zAh.1 l).1;have K:b < g.size:=oM;have B:g.getD b false=false:=(by simp [K] at ak⊢;exact ak);have a3:b < e:=(by rcases zBd b e with y | y;exact y;exfalso;refine C fun a n=>?_;have al:=zBe.1 aP b (zCf.2 Z);have ar:¬(b < e):=oM;simp only [ar,decide_false,Bool.false_or] at al;exact cO d.shut _ b a j l V (zBe.1 al a (zCf.2 n)));have a2:b=m->g.getD m false=false:=fun q=>by rw [<-q];exact B
    refine aO (g.getD m false) b j a3 l a2 (fun af=>?_) o w d.world (d.pre b j l B) d.size d.defers (fun u F=>d.old u fun k p f i=>?_) (fun q t L p c f i=>by obtain ⟨G,r,x⟩:=d.val q.on p f (V q t L);rw [r c i];exact x) _ fun G z U ay=>?_;exact cO d.shut _ b m j l V af
    · rcases lB F f i with rfl |⟨q,t,L,aG⟩;exact B
      · cases s:g.getD k false with
        | false=>rfl
        | true=>
          have:=d.shut k p f s q t L;rw [aG,B] at this;cases this
    · have aM:=aAk (J:=m) K;refine ah _ _ _ (by simpa using O) ?_ ?_ (fun k s=>by rw [getD_set_ne false (by omega:b≠k)];exact a0 k s);have N:g.toList[b]'(by simpa using K)=false:=(by simp [K] at B⊢;exact B);rw [Array.toList_setIfInBounds,List.count_set (by simpa using K),N];simp;have a4:false∈g.toList:=N ▸ zBi _;have:=List.count_pos_iff.2 a4;rw [<-Array.count_toList];omega
      · rw [aM]
        have ae:(o.put j.dst G).tmps.size=A.tmps.size:=by
          rw [<-d.size];cases j.dst with
          | none=>rfl
          | some c=>simp [Act.put]
        refine ⟨au _ b w z a3 a2 d.world U,fun a p f n=>?_,ae,?_,fun u F=>?_,fun a p f n=>?_,fun k p f s q t L=>?_⟩
        · have ap:a≠b:=fun q=>by rw [q,aE _ _ K] at n;cases n
          rw [getD_set_ne false ap.symm] at n;refine aw _ a b w z a3 ap a2 ?_ (d.pre a p f n) d.world U;cases ag:upB md ops ops.size b a with
          | false=>rfl
          | true=>
            have:=cO d.shut _ b a j l V ag;rw [n] at this;cases this
        · rw [<-d.defers];cases j.dst <;> rfl
        · have aK:j.dst≠some u:=fun i=>by have:=F b j l i;rw [aE _ _ K] at this;cases this
          have ac:=d.old u fun k p f i=>by
            have:=F k p f i;cases s:g.getD k false with
            | false=>rfl
            | true=>
              by_cases aq:b=k
              · subst aq;rw [B] at s;cases s
              · rw [getD_set_ne false aq,s] at this;cases this
          rw [<-ac];cases ab:j.dst with
          | none=>rfl
          | some c=>
            have a7:c≠u:=fun d=>aK (by rw [ab,d]);simp [Act.put,zAm,a7]
        · rcases cE _ _ _ n with rfl | X
          · rw [l] at f;injection f with f;subst f;refine ⟨G,fun c i=>?_,ay⟩;have aC:=((bV aa l).2 c i).1;rw [i];have:c < o.tmps.size:=(by rw [d.size];exact aC);simp [Act.put,zAm,this]
          · by_cases a9:a=b
            · subst a9;rw [B] at X;cases X
            obtain ⟨aT,af,N⟩:=d.val a p f X
            have az:kK md ops a b=false:=by
              cases E:kK md ops a b with
              | false=>rfl
              | true=>
                exfalso;unfold kK at E;rw [f] at E;obtain ⟨q,t,x⟩:=List.any_eq_true.1 E;simp only [zBc,zCl] at x;have:=d.shut a p f X q (Array.mem_toList_iff.1 t) x.1;rw [x.2,B] at this;cases this
            have aA:upB md ops ops.size a b=false:=by
              cases ag:upB md ops ops.size a b with
              | false=>rfl
              | true=>
                have:=cO d.shut _ a b p f (d.shut a p f X) ag;rw [B] at this;cases this
            refine ⟨aT,fun c i=>?_,aN _ _ _ _ _ _ a3 a9 a2 az aA N d.world U⟩;rw [<-af c i];cases ab:j.dst with
            | none=>rfl
            | some ai=>
              have a7:ai≠c:=fun d=>a9 (((bV aa l).2 ai ab).2 a p f (d ▸ i));simp [Act.put,zAm,a7]
        rcases cE _ _ _ s with rfl | s;rw [l] at f;injection f with f;subst f;have r:=V q t L;by_cases Y:k=q.on;rw [<-Y];exact aE _ _ K _;rw [getD_set_ne false Y];exact r;have r:=d.shut k p f s q t L;by_cases Y:b=q.on;rw [<-Y];exact aE _ _ K _;rw [getD_set_ne false Y];exact r
 have an:(Array.replicate ops.size false).getD m false=false:=by
  rw [zAm];rcases zBd m ops.size with d | d
  · simp [d]
  rw [Array.getElem?_eq_none (by simpa using d)];rfl
 refine aR _ _ _ _ (by simp) (by simp) ⟨by rw [an];exact av,fun b _ _ _=>by rw [an];exact ax b,rfl,rfl,fun _ _=>rfl,fun a j l n=>?_,fun k p f s=>?_⟩ (fun k s=>by
  rw [zAm];rcases zBd k ops.size with d | d
  · simp [d]
  · rw [Array.getElem?_eq_none (by simpa using d)];rfl)
 · have Z:a < ops.size:=(zAh.1 l).1;simp [Z] at n
 · have Z:k < ops.size:=(zAh.1 f).1;simp [Z] at s
end
section
variable {P : Program} (w : World)
theorem nM (n:Nat) (q A d:TypeId) (e:TypeInfo) (C:Value) (m F:Nat) (z:P.underlying q=some (.slice d)) (y:P.info? d=some e) (a4:e.zero=some C)
 (a2:e.size=m) (N:e.bytes=F) (a5:C.cells.size=m) (ab:0 < m)
 (c a:Nat) (f:Array Value) (L:Bk w c d f) (x:f.size=a*m) (U:n<=c) (Z:a<=maxLen)
 (K:Nat) (t:Option Addr) (b u:Nat) (l:List Value) (o:Rd w K m t b l)
 (G:a+b<=maxLen) (O:(a+b)*F<=140737488355328) (M:n<=w.heap.size):
 ∃s B,(Builtin.append_ #[q,q] A #[.slice (some c) a a,.slice t b u]).run P w=.ok s B/\B.ownsRow n d m s (a+b) (f.toList++l)/\Below w.heap.size w B/\
  (s.ownBlock=some c∨s.ownBlock=some w.heap.size):=by
 subst a2;subst N;have j:w.ownsRow n d e.size (.slice (some c) a a) a f.toList:=by refine ⟨by simp [x],.inr ⟨c,a,f,rfl,U,L,zAs _,Z,x,?_⟩⟩;exact zAg (by simp [x])
 rcases zAz b with v | v
 · subst v;have X:l= []:=zBj (by simpa using o.1);subst X;refine ⟨.slice (some c) a a,w,?_,by simpa using j,Below.refl _ _,.inl rfl⟩;rcases t with _ | a8;exact gE w n q A d e e.size z y _ a _ j u
   · simp [Builtin.append_,run_underlying z,sizeOf,typeInfo,y,Builtin.lenOf,Builtin.firstCells,loadCells,loadCellsFrom,storeCells]
 · obtain ⟨E,I,rfl,a9,R⟩:=o.2 v;have Y:∀i r,l[i]?=some r->w.cell? ((⟨E,I,none⟩:Addr).add i)=some r:=fun i r a3=>by rw [eI];exact R i r a3
   have a0:∀i J,f.toList[i]?=some J->w.cell? ((⟨c,0,none⟩:Addr).add i)=some J:=j.cells (g:=c) rfl;have aa:a+b<=9223372036854775807:=(by simp only [maxLen] at G;omega);have a1:=run_append_grow (P:=P) w q A d e C z y a4 ⟨c,0,none⟩ a a f.toList j.1 a0 ⟨E,I,none⟩ b u l o.1 Y oM oM (growslice_fits oM O);have V:=grownCap_ge w (a+b) a d;have S:grownCap w (a+b) a d<=maxLen:=grownCap_le_maxLen w (a+b) a d G;have H:(f.toList++l).length=(a+b)*e.size:=(by rw [zAi,j.1,o.1,Nat.add_mul]);refine ⟨_,_,a1,⟨H,.inr ⟨w.heap.size,_,_,rfl,M,heap_alloc_new w.drew _,V,S,?_,?_⟩⟩,(Below.refl w.heap.size w).drew.alloc nL _,.inr rfl⟩;have a6:=j.1;have a7:=o.1;simp only [Array.size_append,List.size_toArray,size_zeroCells,a5,a6,a7,<-Nat.add_mul];congr 1;omega;simp only [Array.toList_append,zCj];rw [<-zCj,<-H];exact List.take_left
theorem nW {n:Oper} {j:Act} {v:Act->World->Prop} {Q:Exit->Act->World->Prop} (y z:Operand) (o:TypeId)
 (O:n.op=.call { callee:=.builtin .append,args:=#[y,z],argTypes:=#[o,o] })
 (l:Nat) (e:TypeId) (g:TypeInfo) (t:Value) (b r:Nat) (Y:P.underlying o=some (.slice e)) (M:P.info? e=some g) (a0:g.zero=some t)
 (V:g.size=b) (I:g.bytes=r) (a1:t.cells.size=b) (X:0 < b)
 (f a:Nat) (m:Array Value) (U:j.eval y=.slice (some f) a a) (G:Bk w f e m) (K:m.size=a*b) (L:l<=f) (N:a<=maxLen)
 (u:Nat) (q:Option Addr) (c x:Nat) (s:List Value) (Z:j.eval z=.slice q c x) (R:Rd w u b q c s)
 (F:a+c<=maxLen) (J:(a+c)*r<=140737488355328) (H:l<=w.heap.size)
 (A:∀d i,i.ownsRow l e b d (a+c) (m.toList++s)->Below w.heap.size w i->(d.ownBlock=some f∨d.ownBlock=some w.heap.size)->v (j.put n.dst d) i):n.wp P j w v Q:=by
 obtain ⟨d,i,S,B,C,E⟩:=nM (P:=P) w l o n.type e g t b r Y M a0 V I a1 X f a m G K L N u q c x s R F J H;unfold Oper.wp execOp;simp only [O,resolve,invoke,builtin,Sem.run_bind,Sem.run_pure,Result.andThen_ok,List.map_toArray,List.map_cons,List.map_nil,U,Z,S];exact A d i B C E
end
end
section
open Go.RowKit
def RdN (w:World) (g i:Nat) (c:Option Addr) (d:Nat) (j:List Value):Prop:=Rd w w.heap.size i c d j/\(0 < d->∀a,c=some a->g<=a.block/\∃e b f,w.heap[a.block]?=some (.cells e b f)/\(b=5∨b=3))
theorem RdN.keepF {i:Nat->Prop} {w q:World} {f o n:Nat} {g:Option Addr} {r:List Value} (b:RdN w f o g n r) (k:Keep i w q) (m:∀j,i j->j < f):RdN q f o g n r:=
 ⟨Rd.keepF b.1 k nL fun e a d c=>by have:=(b.2 e a d).1;have:=m _ c;omega,fun e a d=>by
  obtain ⟨v,s,t,u,l,x⟩:=b.2 e a d;exact ⟨v,s,t,u,(k.block _ (zAh.1 l).1 fun c=>by have:=m _ c;omega).trans l,x⟩⟩
theorem RdN.below {w g:World} {d f e:Nat} {a:Option Addr} {i:List Value} (b:RdN w d f a e i) (k:Below w.heap.size w g):RdN g d f a e i:=⟨(b.1.below k).mono k.size,fun s j r=>by
 obtain ⟨o,l,m,n,c,q⟩:=b.2 s j r;exact ⟨o,l,m,n,(k.block _ (zAh.1 c).1).trans c,q⟩⟩
theorem RdN.mono {w:World} {f g j i:Nat} {b:Option Addr} {l:List Value} (a:RdN w f j b i l) (m:g<=f):RdN w g j b i l:=⟨a.1,fun e c d=>⟨zAk m (a.2 e c d).1,(a.2 e c d).2⟩⟩
theorem RdN.nil (w:World) (c d:Nat) (a:Option Addr):RdN w c d a 0 []:=⟨Rd.nil _ _ _ _,fun b=>absurd b oM⟩
structure RefF (w W:World) (gx nd cd:Nat) (AD:Option Addr) (T D:List UInt8) (most kind p k:Int):Prop where
 low:Below w.heap.size w W
 step:Bk W w.heap.size 44 #[.int .i64 kind,.int .i64 p,.int .i64 k,.slice AD nd cd]
 res:Bk W (w.heap.size+1) 41 #[.int .i64 0,.int .i64 0,.slice none 0 0,.slice none 0 0]
 mod:Bk W gx 38 #[.string ⟨T.toArray⟩,.int .i64 most]
 rD:Rd W w.heap.size 1 AD nd (D.map bv)
 gxl:gx < w.heap.size
section
variable {w W W' : World} {gx nd cd : Nat} {AD : Option Addr} {T D : List UInt8} {most kind p k : Int}
theorem RefF.grow (a:RefF w W gx nd cd AD T D most kind p k) (b:Grow W W'):RefF w W' gx nd cd AD T D most kind p k:=
 ⟨a.low.trans (Below.mono b a.low.size),a.step.below b a.step.lt,a.res.below b a.res.lt,a.mod.below b a.mod.lt,a.rD.below (Below.mono b a.low.size),a.gxl⟩
end
def vB (a:List Stp) (b c:Nat):Bool:=(a.all fun d=>decide (d.n<=60))&&decide (b<=c)
theorem aCx (m:Option Addr) (c F x e:Nat) (b:List Stp) (w:World) (t:Rd w x 4 m c (aR b)) (q:b.length=c) (I:c<=maxLen) (r:∀a∈b,a.n<=maxLen):
 Calls prog 18 #[.slice m c F,(e:Int)] w fun G M=>G=.returned (.bool (vB b c e))/\w=M:=by
 obtain ⟨B,i,y⟩:=hqq3 t q r;unfold maxLen at I;clear t q r;go_enter func18,ntmps18;go_wp2;go_loopw [5] (fun l wr=>∃k:Nat,k<=c/\l=.int .i64 k/\(∀a∈b.take k,a.n<=60)/\w=wr) (fun l _=>c -(intOf l).toNat)
 case atStart=>exact ⟨0,zAp _,rfl,by simp,rfl⟩
 case round=>
  obtain ⟨k,U,rfl,g,rfl⟩:=hrel;by_cases V:k < c
  · obtain ⟨a,d⟩:∃a,b[k]?=some a:=⟨b[k]'(by have:=i.out;omega),zAa (by have:=i.out;omega)⟩;obtain ⟨E,K,rfl,R,o⟩:=B.out.2 oM;have O:w.cell? ⟨E,K+k*4+3,none⟩=some (.slice a.A a.n a.c):=(by rw [Nat.add_assoc];exact o (k*4+3) _ ((dH b k 3 a d oM).trans rfl));have J:=y.out a (zAd d);unfold maxLen at J;have s:b.take (k+1)=b.take k++ [a]:=(by rw [zAu,d];rfl);obtain ⟨A,z,C⟩:=hqq3 g s d;clear o g s d;by_cases H:a.n<=60
    · have L:decide ((a.n:Int) > 60)=false:=(by simp;omega);go_wp2;go_roundw
      case rel=>refine ⟨k+1,by omega,by go_num,?_,trivial⟩;intro N v;rw [z.out] at v;rcases zCk.1 v with f | f;exact A.out N f;rw [List.mem_singleton.1 f];exact H
      case measure=>simp [intOf];omega
    · have L:decide ((a.n:Int) > 60)=true:=(by simp;omega);have j:vB b c e=false:=(by unfold vB;have:(b.all fun a=>decide (a.n<=60))=false:=(by rw [List.all_eq_false];exact ⟨a,zAd C.out,by simp;omega⟩);rw [this,Bool.false_and]);go_wp2;go_ret;exact ⟨bF j.symm,rfl⟩
  · have S:c<=k:=oM;have u:b.take k=b:=zAg (by have:=i.out;omega);rw [u] at g;have j:vB b c e=decide (c<=e):=(by unfold vB;rw [zBe.2 (fun a d=>zBx (g a d)),Bool.true_and]);clear u g;go_wp2;go_ret;exact ⟨bF (by rw [j] <;>(by_cases f:c<=e <;> simp [f] <;> omega)),rfl⟩
theorem aAB {c:List Stp} {d e:Nat} (a:vB c d e=true):d<=e/\∀b∈c,b.n<=60:=by
 unfold vB at a;rw [zBc] at a;exact ⟨of_decide_eq_true a.2,fun b f=>of_decide_eq_true (zBe.1 a.1 b f)⟩
end
end Go.Proofs.YtihaijbgmjdhgaaGreatDoor
