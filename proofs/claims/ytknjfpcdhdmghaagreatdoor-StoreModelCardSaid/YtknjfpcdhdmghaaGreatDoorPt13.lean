/- Lemmas of the walk. Conditions: each its own. -/
import Derived.Test.YtknjfpcdhdmghaaGreatDoorPt12
set_option linter.all false
set_option maxRecDepth 100000
set_option maxHeartbeats 4000000
open Go.Proofs.Tryz
namespace Go.Proofs.YtknjfpcdhdmghaaGreatDoor
open Go.RowKit
def oD:(prog.info? 5).map (λa=>(a.zero,a.size,a.bytes))=some (some (.int .u8 0),1,1):=by kernel_rfl
def aCJ {j:Option Addr} {a:Nat} (c:Nat) {k:Nat} {l:List UInt8} {w:World} (i:Rd w k 1 j a (l.map bv)) (hB:k<=w.heap.size) (B:a<=1099511627776):
 Calls prog 53 #[.slice j a c] w λo w'=>∃e f,o=.returned (.slice e a f)/\Made w' w.heap.size 5 1 e a f (l.map bv)/\Below w.heap.size w w':=by
 obtain ⟨z,r,v,x,y⟩:=info_parts oD;have C:∀(w:World) (b:Option Addr) (a c:Nat),(binOp .eql 22 (.slice b a c) (.slice none 0 0)).run prog w=.ok (.bool b.isNone) w:=λw b a c=>Lib.run_eql_slice_nil w _ _ b a c _ _ underlying22;rcases j with _ | b
 .have u:a=0:=by
   rcases zBa a with d | d;exact d
   .obtain ⟨_,_,d,_⟩:=i.2 d;cases d
  subst u;have s:l= []:=(by have:=i.1;simp only [zBc,zFH] at this;exact zBk this);subst s;go_enter func53,ntmps53;go_wp2;go_ret;exact ⟨none,0,rfl,⟨ki _ _ _ _,Rd.nil _ _ _ _,zAs _,zAp _⟩,kg _ _⟩
 .have n:=i;clear i;go_enter func53,ntmps53;go_wp2_with (at_builtin;refine bE _ rfl (.tmp 5) (.tmp 6) _ rfl w.heap.size 5 z (.int .u8 0) 1 1 underlying22 r v x y rfl dC (.slice (some w.heap.size) 0 0) 0 [] rfl (kX w 5 1) w.heap.size (some b) a c _ rfl ((n.mono hB).alloc nL _) (jI _) zx oM zs ?_;intro D E m q A);have p:=aX ((kg w.heap.size w).alloc nL _) (kX w 5 1) q zs;rw [zBi,zDH] at m;obtain ⟨e,f,rfl,t⟩:=aR m;go_wp2;go_ret;exact ⟨e,f,rfl,t,p⟩
def aEO {a:Nat} (w) (p:a<=1099511627776):
 Calls prog 92 #[(),(a:Int)] w λd w'=>∃c,d=.returned c/\w'.ownsRow w.heap.size 5 1 c 0 []/\Below w.heap.size w w':=by
 obtain ⟨m,e,k,q,l⟩:=info_parts oD;rcases zBa a with b | b
 .subst b;go_enter func92,ntmps92;go_wp2;go_ret;exact ⟨_,rfl,ki _ _ _ _,kg _ _⟩
 .have i:=Lib.run_append_nil_zeros (P:=prog) w 22 3 22 5 m (.int .u8 0) .i64 .i64 underlying22 underlying3 e k a b oM oM (by rw [l];omega);have o:=grownCap_ge w a 0 5;have f:=grownCap_le_maxLen w a 0 5 zx;generalize grownCap w a 0 5=cp at*
  have j:(Builtin.zeroCells (Value.int .u8 0).cells a++Builtin.zeroCells (Value.int .u8 0).cells (cp - a)).size=cp*1:=(by simp [Builtin.zeroCells,Value.cells];omega);have n:¬((a:Int) < 0):=oM;go_enter func92,ntmps92;go_wp2_with (at_builtin;refine Lib.wpList_append_run _ rfl (.tmp 20) (.tmp 21) _ _ rfl _ _ rfl rfl _ _ i ?_);go_ret;exact ⟨_,rfl,zFK _ _ _ nL f j,bR.drew.alloc nL _⟩
structure MoSl where
 A:Option Addr
 n:Nat
 c:Nat
 l:List UInt8
def aLf (a:MoSl):Value:=.slice a.A a.n a.c
def dG (a:List MoSl):List UInt8:=a.flatMap (·.l)
def uN {b:List MoSl} {a} {c:MoSl} (d:b[a]?=some c):dG (b.take (a+1))=dG (b.take a)++c.l:=by
 rw [zAv,d];simp [dG]
def yP (a:List MoSl) (b):(dG (a.take b)).length<=(dG a).length:=by
 have:dG a=dG (a.take b)++dG (a.drop b):=by unfold dG;rw [<-zDI,zAu]
 rw [this,zAi];omega
def aBA {F e} (Q) {B} {ss:List MoSl} {T N} (u:dG ss=T) (I:T.length=N) {w} (z:Rd w B 1 F e (ss.map aLf)) (C:∀b∈ss,Rd w B 1 b.A b.n (b.l.map bv)) (hB:B<=w.heap.size) (ac:e<=1099511627776) (a0:N<=1099511627776):
 Calls prog 56 #[.slice F e Q] w λH w'=>∃r s,H=.returned (.slice r N s)/\Made w' w.heap.size 5 1 r N s (T.map bv)/\Below w.heap.size w w':=by
 obtain ⟨a8,X,a5,a6,a7⟩:=info_parts oD;have k:ss.length=e:=by simpa using z.1
 have J:∀a,(dG (ss.take a)).length<=1099511627776:=λa=>by have:=yP ss a;rw [u] at this;omega
 have L:∀a b,ss[a]?=some b->b.l.length=b.n/\(dG (ss.take (a+1))).length=(dG (ss.take a)).length+b.n:=λa b d=>by
  have m:=(C b (zAd d)).1;have f:b.l.length=b.n:=by simpa using m
  rw [uN d,zAi,f];exact ⟨rfl,rfl⟩
 have G:=(z.mono hB);have O:=(λb d=>(C b d).mono hB);clear z C;go_enter func56,ntmps56;go_wp2;go_loopw [3,11] (λE j wr=>∃a:Nat,a<=e/\j=.int .i64 a/\E=.int .i64 ((dG (ss.take a)).length:Int)/\w=wr) (λ_ j _=>e -(intOf j).toNat)
 case atStart=>exact ⟨0,zAp _,rfl,by simp [dG],rfl⟩
 case round=>
  obtain ⟨a,Y,rfl,rfl,rfl⟩:=hrel;by_cases y:a < e
  .obtain ⟨b,d⟩:∃b,ss[a]?=some b:=⟨ss[a]'(zj k),zAa (zj k)⟩;obtain ⟨P,a9,aa,rfl,U,i,v⟩:=G.get y;rw [zAf,d] at i;simp at i;subst i;unfold aLf at v;obtain ⟨m,f⟩:=L a b d;have t:=J (a+1);generalize K:(dG (ss.take a)).length=D at*
   rw [f] at t;clear m d K;have ad:¬((D:Int)+b.n < 0):=oM;go_wp2;go_roundw
   case rel=>exact ⟨a+1,by omega,by go_num,by rw [f];go_num,trivial⟩
   case measure=>exact zr
  .have x:a=e:=oM;have W:e<=a:=oM;have q:ss.take a=ss:=zAg (zj k);rw [q,u,I];clear x q;go_wp2_with fail;refine (aEO _ a0).mono ?_;rintro H w1 ⟨ae,rfl,a1,S⟩;go_wp2_with fail;go_loopw [6,27] (λE j wr=>∃a:Nat,a<=e/\j=.int .i64 a/\wr.ownsRow w.heap.size 5 1 E (dG (ss.take a)).length ((dG (ss.take a)).map bv)/\Below w.heap.size w wr) (λ_ j _=>e -(intOf j).toNat)
   case atStart=>exact ⟨0,zAp _,rfl,a1,S⟩
   case round=>
    obtain ⟨a,Y,rfl,p,o⟩:=hrel;have M:=o.size;by_cases y:a < e
    .obtain ⟨b,d⟩:∃b,ss[a]?=some b:=⟨ss[a]'(zj k),zAa (zj k)⟩;obtain ⟨P,a9,aa,rfl,U,i,v⟩:=(G.below o).get y;rw [zAf,d] at i;simp at i;subst i;unfold aLf at v;have a3:=((O b (zAd d)).below o);obtain ⟨m,f⟩:=L a b d;have t:=J (a+1);have a4:=(uN d);generalize K:(dG (ss.take a)).length=D at*
     rw [f] at t;clear m d;go_wp2_with (at_builtin;refine bE _ rfl (.tmp 31) (.tmp 32) _ rfl w.heap.size 5 a8 (.int .u8 0) 1 1 underlying22 X a5 a6 a7 rfl dC _ D _ rfl p w.heap.size b.A b.n b.c _ rfl a3 (jI _) zx oM M ?_;intro af ag a2 V ab);have R:=aX o p V M;go_roundw
     case rel=>refine ⟨a+1,by omega,by go_num,?_,R⟩;rw [f,a4,zAz];exact a2
     case measure=>exact zr
    .have x:a=e:=oM;have W:e<=a:=oM;have q:ss.take a=ss:=zAg (zj k);rw [q,u,I] at p;obtain ⟨r,s,rfl,Z⟩:=aR p;clear x q p;go_wp2;go_ret;exact ⟨r,s,rfl,Z,o⟩
def lG:∀w,(sizeOf 5).run prog w=.ok 1 w:=λw=>by
 obtain ⟨e,a,c,b,d⟩:=info_parts oD;simp [sizeOf,typeInfo,a,b]
def tT (b:Option Addr) {c:Option Addr} (i m:Nat) {j:Nat} (n k:Nat) {l:Nat} {a d:List UInt8} {w:World} (e:Rd w k 1 b i (a.map bv)) (f:Rd w l 1 c j (d.map bv)):
 Calls prog 49 #[.slice b i m,.slice c j n] w λo w'=>o=.returned (.bool (decide (a=d)))/\w=w':=by
 have p:=fR e;have q:=fR f;clear e f;go_enter func49,ntmps49;go_wp2;go_ret;exact ⟨bH (by rw [zEd];simp),rfl⟩
def aBe {l p:Option Addr} {d:Nat} (i:Nat) {b:Nat} (u:Nat) {s t:Nat} {c e:List UInt8} {w:World} (j:Rd w s 1 l d (c.map bv)) (m:Rd w t 1 p b (e.map bv)) (z:d<=i):
 Calls prog 91 #[.slice l d i,.slice p b u] w λq w'=>q=.returned (.bool (e.isPrefixOf c))/\w=w':=by
 have r:c.length=d:=by simpa using j.1
 have o:e.length=b:=by simpa using m.1
 by_cases x:b<=d
 .have hcut:=jH (P:=prog) 22 5 1 underlying22 lG l d i b oM;have y:=(j.aj (k:=b) (cap:=i) x);have v:=zy ((b:Int)<=d);have n:decide ((c.take b)=e)=e.isPrefixOf c:=(by rw [zEd];simp only [zCa,zEn];constructor;intro f;rw [<-f];exact List.take_prefix _ _;intro f;rw [<-o];exact (List.prefix_iff_eq_take.1 f).symm);clear j r o;go_enter func91,ntmps91;go_wp2_with fail;refine (tT (a:=(c.take b)) _ _ _ _ _ (by have:=y;rwa [zBl,<-zDw] at this) m).mono ?_;rintro q w' ⟨rfl,rfl⟩;go_wp2;go_ret;exact ⟨bH (by rw [<-n]),rfl⟩
 .have v:=zn ((b:Int)<=d);have n:e.isPrefixOf c=false:=by
   cases f:e.isPrefixOf c with
   | false=>rfl
   | true=>
    have:=(zEn.1 f).length_le;omega
  clear j m r o;go_enter func91,ntmps91;go_wp2;go_ret;exact ⟨bH (by simp [n]),rfl⟩
def mC (gp:Nat) (j) (b k:Nat) {p:Int} (a:Int) (w) (n:w.cell? gp=some (.slice j b k)) (q:b<=1099511627776) (r:-9223372036854775808<=p/\p<=9223372036854775807) (o:-9223372036854775808<=a/\a<=9223372036854775807):
 Calls prog 51 #[gp,(p:Int),(a:Int)] w λm w'=>m=.returned (.bool (dK b p a))/\w=w':=by
 unfold dK;by_cases e:0<=p
 .by_cases f:0<=a
  .by_cases i:p<=(b:Int)
   .have c:=zy (p>=0);have d:=zy (a>=0);have l:=zy (p<=(b:Int));go_enter func51,ntmps51;go_wp2;go_ret;exact ⟨bH (by simp [e,f,i]),rfl⟩
   .have c:=zy (p>=0);have d:=zy (a>=0);have l:=zn (p<=(b:Int));go_enter func51,ntmps51;go_wp2;go_ret;exact ⟨bH (by simp [i]),rfl⟩
  .have c:=zy (p>=0);have d:=zn (a>=0);go_enter func51,ntmps51;go_wp2;go_ret;exact ⟨bH (by simp [f]),rfl⟩
 .have c:=zn (p>=0);go_enter func51,ntmps51;go_wp2;go_ret;exact ⟨bH (by simp [e]),rfl⟩
def plV (gp d b:Nat) (T:List UInt8):Value->World->Prop:=λ_ w=>∃a c,Bk w gp 89 #[.slice a b c]/\Made w d 5 1 a b c (T.map bv)
def aHM (gp d e T):Stb (plV gp d e T):=λ_ _ _ ⟨c,f,a,i⟩ b=>⟨c,f,kf a b a.lt,i.below b⟩
def Rd.ct {w g c a} (b:Bk w g c a) {n} (d:a.size=n:=by rfl):Rd w w.heap.size 1 (some ⟨g,0,none⟩) n a.toList:=by
 refine ⟨by simp [d],λ_=>⟨g,0,rfl,b.lt,λf i e=>?_⟩⟩;rw [zBi,b.cell f];rw [<-e];simp
def tA {gp:Nat} {A AD:Option Addr} {n c nd:Nat} (i:Nat) {p k N B:Nat} {T D T2:List UInt8} {w:World} (o:Bk w gp 89 #[.slice A n c]) (V:Rd w w.heap.size 1 A n (T.map bv)) (S:0 < n->∀s,A=some s->s.block≠gp) (a3:n<=c) (M:Rd w B 1 AD nd (D.map bv)) (hB:B<=w.heap.size) (O:0 < nd->∀s,AD=some s->s.block≠gp) {q:Nat} (ay:p+k=q) (U:q<=n) (K:T.take p++(D++T.drop q)=T2) (Z:T2.length=N) (aw:n<=1099511627776) (aq:N<=1099511627776):
 Calls prog 52 #[gp,(p:Int),(k:Int),.slice AD nd i] w λJ w'=>(J=.returned (.tuple #[]))/\Keep (λa=>a=gp) w w'/\∃E G,Bk w' gp 89 #[.slice E N G]/\Made w' w.heap.size 5 1 E N G (T2.map bv):=by
 have Q:=o.lt;have a0:dG [⟨dH A c 0 1,p,c,T.take p⟩,⟨AD,nd,i,D⟩,⟨dH A c q 1,n - q,c - q,T.drop q⟩]=T2:=by rw [<-K];simp [dG]
 have a6:∀b,Keep (λa=>a=gp) w b->∀C∈([⟨dH A c 0 1,p,c,T.take p⟩,⟨AD,nd,i,D⟩,⟨dH A c q 1,n - q,c - q,T.drop q⟩]:List MoSl),Rd b b.heap.size 1 C.A C.n (C.l.map bv):=by
  intro b R C m;have W:=Rd.o V R nL S;have a1:=Rd.o M R hB O;have H:=W.aj (k:=p) (cap:=c) oM;have I:=W.cut (k:=q) (cap:=c) U a3;rw [zBl,<-zDw] at H;rw [zBl,<-zEb] at I;rcases zDf.1 m with rfl | m;exact H;rcases zDf.1 m with rfl | m;exact a1;rcases zDf.1 m with rfl | m;exact I
  .cases m
 have au:=jH (P:=prog) 22 5 1 underlying22 lG A n c p oM;have av:=iC (P:=prog) 22 5 1 underlying22 lG A n c q U;clear K V M S O;go_enter func52,ntmps52;go_wp2;refine wp_region_any kR<|bM (pre:=(λw1=>Bk w1 gp 89 #[.slice A n c])) (pJ:=(plV gp w.heap.size N T2)) [8,9,10,11,12,13,14,15,16,17,18,19,20,21,22,23,24,25,26,27] (λa=>a=gp) 20 [4,11,20] [is gp,is gp,is gp,is gp,is (.slice A n c),is (p:Int),is (.slice (dH A c 0 1) p c),is (.slice AD nd i),is gp,is gp,is gp,is (.slice A n c),is (p:Int),is (k:Int),is (q:Int),is (.slice (dH A c q 1) (n - q) (c - q)),pT (λa=>a=gp) 22 #[.slice (dH A c 0 1) p c,.slice AD nd i,.slice (dH A c q 1) (n - q) (c - q)] λg=>.slice (some ⟨g,0,none⟩) 3 3,jD w.heap.size 5 1 N (T2.map bv),is gp,is gp,cO] _ rfl kR kR (o) (λw1 aC z _ a2=>kf z a2 z.lt) (aHM _ _ _ _) (by repeat' (first | exact gK _ _ | exact fB _ | exact zT _ _ _ _ | exact mT (λa o=>by subst o;exact Q) _ _ _ _ |(refine zAe.2 ⟨?_,?_⟩)|(intro p a4;cases a4))) ?_ ?_
 .refine aL<|pH3 0 (.pointer (some gp))<|pH3 0 (.pointer (some gp))<|pV3 1 9<|pV3 2 10<|sC3 (λ_ b _ u _ _ _ d _ _ _ f=>?_) ?_
  .have j:=u rfl;have ad:_=_:=d 3 11 kR rfl;have aa:b.cell? gp=some (.slice A n c):=(j.cell 0).trans rfl;go_simp;exact kq f rfl
  refine pH3 1 (.int .i64 p)<|pW3 4 12 5 13<|pH3 3 (.slice AD nd i)<|pH3 0 (.pointer (some gp))<|pV3 8 16<|pV3 9 17<|sC3 (λ_ b _ u _ _ _ d _ _ _ f=>?_) ?_
  .have j:=u rfl;have ag:_=_:=d 10 18 kR rfl;have ab:b.cell? gp=some (.slice A n c):=(j.cell 0).trans rfl;go_simp;exact kq f rfl
  refine pH3 1 (.int .i64 p)<|pH3 2 (.int .i64 k)<|sC3 (λ_ _ _ _ _ _ _ d _ _ _ f=>?_) ?_
  .have ah:_=_:=d 12 20 kR rfl;have ai:_=_:=d 13 21 kR rfl;go_simp;exact f _ _ (aE bR) (cS zu)
  refine pW3 11 19 14 22<|sC3 (λ_ b e _ _ _ _ d _ _ _ f=>?_) ?_
  .replace e:Keep (λa=>a=gp) w b:=kD e;have ae:_=_:=d 6 14 kR rfl;have af:_=_:=d 7 15 kR rfl;have aj:_=_:=d 15 23 kR rfl;go_simp;exact f _ _ (aE (bR.alloc nL _)) ⟨_,rfl,kd _ _ _,λz=>by have:=e.size;have ap:b.heap.size=gp:=z;omega⟩
  refine sC3 (λy b e _ _ _ _ d _ _ _ f=>?_) ?_
  .replace e:Keep (λa=>a=gp) w b:=kD e;have a7:(pT (λa=>a=gp) 22 #[.slice (dH A c 0 1) p c,.slice AD nd i,.slice (dH A c q 1) (n - q) (c - q)] λg=>.slice (some ⟨g,0,none⟩) 3 3) (y (.tmp 24)) b:=d 16 24 kR rfl;obtain ⟨ao,ak,v,ax⟩:=a7;have a5:=Rd.ct (n:=3) v;have ar:=e;go_simp;refine (aBA (B:=b.heap.size) (ss:=[⟨dH A c 0 1,p,c,T.take p⟩,⟨AD,nd,i,D⟩,⟨dH A c q 1,n - q,c - q,T.drop q⟩]) (T:=T2) (N:=N) (w:=b) _ a0 Z a5 (a6 b e) nL oM oM).mono ?_;rintro J aD ⟨r,t,rfl,x,v⟩;exact f _ _ (aE v) ⟨r,t,rfl,x.mono e.size⟩
  refine pV3 0 8<|pV3 18 26<|sC3 (λy b _ u _ _ _ d _ _ _ f=>?_) ?_
  .have j:=u rfl;have am:_=_:=d 19 27 kR rfl;have a8:(jD w.heap.size 5 1 N (T2.map bv)) (y (.tmp 25)) b:=d 17 25 kR rfl;obtain ⟨r,t,al,x⟩:=a8;have ac:b.cell? gp=some (.slice A n c):=(j.cell 0).trans rfl;have an:=j.frozen 0;go_simp;refine f (.bool true) _ (aW (ka (F:=λa=>a=gp) (ke _ _) (p:=gp) (.inl rfl) _)) ⟨r,t,?_,?_⟩;exact j.set 0 _;exact x.o (ka (F:=λa=>a=gp) (ke _ _) (p:=gp) (.inl rfl) _) (λa o=>by subst o;exact Q)
  exact aB
 .intro y Y e d L;replace e:Keep (λa=>a=gp) w Y:=kD e;obtain ⟨az,X⟩:∃a9,(plV gp w.heap.size N T2) a9 Y:=L 20 dC;simp only [zqq];clear d L;obtain ⟨r,t,v,x⟩:=X;go_wp2;exact bodyPost_end (results_none rfl _ _ _) rfl ⟨rfl,e,r,t,v,x⟩
def aEU {gp A AD n c nd} (J) {r s T D L N w} (v:Bk w gp 89 #[.slice A n c]) (p:Rd w r 1 A n (T.map bv)) (K:r<=w.heap.size) (a0:n<=c) (m:Rd w s 1 AD nd (D.map bv)) (M:s<=w.heap.size) (u:dY T D=L) (O:L.length=N) (ab:n<=1099511627776) (ac:nd<=1099511627776):
 Calls prog 54 #[gp,.slice AD nd J] w λl w'=>∃e f,l=.returned (.slice e N f)/\Made w' w.heap.size 3 1 e N f (L.map nv)/\Below w.heap.size w w':=by
 obtain ⟨a5,W,a2,a3,a4⟩:=info_parts xX;have G:T.length=n:=by simpa using p.1
 have F:D.length=nd:=by simpa using m.1
 have I:=(p.mono K);have H:=(m.mono M);have V:∀a:Nat,a<=n+1 - nd->¬(a+nd<=n)->fY T D a=L:=λa a9 aa=>by rw [<-u,dY,G,F];congr 1;omega
 have S:=v.lt;clear p m u G F;go_enter func54,ntmps54;go_wp2;go_loopw [5,6] (λa7 q wr=>∃a:Nat,a<=n+1 - nd/\q=.int .i64 a/\wr.ownsRow w.heap.size 3 1 a7 (fY T D a).length ((fY T D a).map nv)/\Below w.heap.size w wr) (λ_ q _=>n+1 -(intOf q).toNat)
 case atStart=>exact ⟨0,zAp _,rfl,ki _ _ _ _,kg _ _⟩
 case round=>
  obtain ⟨a,X,rfl,d,b⟩:=hrel;have E:=b.size;have x:=(v.below b S);have a8:wr.cell? gp=some (.slice A n c):=(x.cell 0).trans rfl;by_cases Y:a+nd<=n
  .have C:=I.below b;have hcut:=iC (P:=prog) 22 5 1 underlying22 lG A n c a oM;have j:=C.cut (k:=a) (cap:=c) oM a0;rw [zBl,<-zEb] at j;have t:=(H.below b);have z:=wR T D a;have U:=zy ((a:Int)+nd<=n);clear C;cases i:D.isPrefixOf (T.drop a) with
   | true=>
    have o:=aAA i;obtain ⟨a6,B⟩:=eqx ((fY T D a).length);rw [B] at z d;go_wp2_with fail;refine (aBe _ _ j t oM).mono ?_;rintro l w' ⟨rfl,rfl⟩;rw [i];go_wp2_with (at_builtin;refine bP _ rfl (.tmp 27) (.tmp 29) _ rfl w.heap.size 3 a5 (.int .i64 0) 1 8 underlying27 W a2 a3 a4 rfl dC _ a6 _ rfl d rfl rfl (by simp [Value.oneCell']) zx oM E ?_;intro ae af a1 y ad Q);have R:=aX b d y E;clear y Q;go_roundw
    case rel=>refine ⟨a+1,by omega,by go_num,?_,R⟩;rw [o,zAi,B,zAz];exact a1
    case measure=>exact zr
   | false=>
    have o:=wQ T D a i;clear z;go_wp2_with fail;refine (aBe _ _ j t oM).mono ?_;rintro l w' ⟨rfl,rfl⟩;rw [i];go_wp2;go_roundw
    case rel=>refine ⟨a+1,by omega,by go_num,?_,b⟩;rw [o];exact d
    case measure=>exact zr
  .have U:=zn ((a:Int)+nd<=n);rw [V a X Y,O] at d;obtain ⟨e,f,rfl,Z⟩:=aR d;clear d x;go_wp2;go_ret;exact ⟨e,f,rfl,Z,b⟩
def aNB (aA:Int) (w w':World) (a:Ending):Prop:=∃g gp,a=.returned (.tuple #[.pointer (some ⟨g,0,none⟩),o0])/\Below w.heap.size w w'/\w.heap.size<=g/\w.heap.size<=gp/\g≠gp/\
 Bk w' g 91 #[.pointer (some ⟨gp,0,none⟩),(aA:Int)]/\Bk w' gp 89 #[()]
def aOY (aA w) (b:0<=aA) (c:aA<=2147483648):
 Calls prog 15 #[(aA:Int)] w λa w'=>aNB aA w w' a:=by
 have d:¬(aA < 0):=oM;have e:¬(aA > 2147483648):=oM;go_enter func15,ntmps15;go_wp2;go_ret2;exact ⟨w.heap.size+1,w.heap.size,rfl,(bR.alloc nL _).alloc zs _,by omega,zAs _,by omega,by simpa using kd (w.alloc (.cells #[()] 89)) 91 #[w.heap.size,(aA:Int)],(kd _ _ _).alloc _⟩
def aHp {x y:Option Addr} {b:Nat} (E:Nat) {f:Nat} (F:Nat) {C D:Nat} {c d:List Nat} {w:World} (z:Rd w C 1 x b (c.map nv)) (A:Rd w D 1 y f (d.map nv)) (P:b<=1099511627776) (Q:f<=1099511627776):
 Calls prog 50 #[.slice x b E,.slice y f F] w λI w'=>I=.returned (.bool (decide (c=d)))/\Below w.heap.size w w':=by
 have j:c.length=b:=by simpa using z.1
 have k:d.length=f:=by simpa using A.1
 by_cases m:b=f
 .subst m;go_enter func50,ntmps50;go_wp2;go_loopw [13] (λt wr=>∃a:Nat,a<=b/\t=.int .i64 a/\c.take a=d.take a/\∃K,wr=w.drewN K) (λt _=>b -(intOf t).toNat)
  case atStart=>exact ⟨0,zAp _,rfl,rfl,0,rfl⟩
  case round=>
   obtain ⟨a,O,rfl,n,R,rfl⟩:=hrel;by_cases B:a < b
   .obtain ⟨u,q⟩:∃u,c[a]?=some u:=⟨c[a]'(zj j),zAa (zj j)⟩;obtain ⟨v,s⟩:∃v,d[a]?=some v:=⟨d[a]'(zj k),zAa (zj k)⟩;obtain ⟨b1,S,V,rfl,M,o,G⟩:=z.get B;obtain ⟨b2,U,W,rfl,N,p,H⟩:=A.get B;rw [zAf,q] at o;rw [zAf,s] at p;simp only [zEq,zEB] at o p;subst o;subst p;unfold nv iv at G H;by_cases r:u=v
    .subst r;go_wp2;go_quiet (fail);go_wp2;go_roundw
     case rel=>refine ⟨a+1,by omega,by go_num,?_,_,rfl⟩;rw [zAv,zAv,n,q,s]
     case measure=>exact zr
    .have L:=rK r
     have e:c≠d:=λl=>r (by
      have i:=q;rw [l,s] at i;injection i with i;exact i.symm)
     go_wp2;go_quiet (fail);go_wp2;go_ret;exact ⟨bH (by rw [zBy e]),km (km bR _) _⟩
   .have J:b<=a:=oM;have e:=(xW j k n J);clear n;go_wp2;go_ret;exact ⟨bH (by rw [zBz e]),km bR _⟩
 .have e:c≠d:=λl=>m (by rw [<-j,<-k,l]);have L:=rK m;go_enter func50,ntmps50;go_wp2;go_ret;exact ⟨bH (by rw [zBy e]),kg _ _⟩
def aMd (d e f i:Int) (t u v x:Option Addr) (N S O U o V p W y z A B:Nat) (m n:List UInt8) (E F:List Nat) (w:World) (I:Rd w y 1 t N (m.map bv)) (J:Rd w z 1 u O (n.map bv)) (K:Rd w A 1 v o (E.map nv)) (L:Rd w B 1 x p (F.map nv))
 (b1:y<=w.heap.size) (b2:z<=w.heap.size) (G:A<=w.heap.size) (H:B<=w.heap.size) (X:o<=1099511627776) (Y:p<=1099511627776):
 Calls prog 19 #[.agg #[(d:Int),(f:Int),.slice t N S,.slice v o V],.agg #[(e:Int),(i:Int),.slice u O U,.slice x p W]] w λk w'=>k=.returned (.bool (decide (d=e/\f=i/\m=n/\E=F)))/\Below w.heap.size w w':=by
 have a:∀q r,Below w.heap.size w ((w.alloc q).alloc r):=λq r=>((kg w.heap.size w).alloc nL q).alloc zs r;have C:=(I.mono b1);have D:=(J.mono b2);have Q:=(K.mono G);have R:=(L.mono H);clear I J K L b1 b2 G H;by_cases b:d=e
 .by_cases c:f=i
  .by_cases l:m=n
   .have s:(d==e)=true:=(by rw [zCr];exact b);have P:(f==i)=true:=(by rw [zCr];exact c);have j:=(And.intro b (And.intro c l));clear b c l;go_enter func19,ntmps19;go_wp2_with fail;refine (tT _ _ _ _ _ (C.below (a _ _)) (D.below (a _ _))).mono ?_;rintro k w' ⟨rfl,rfl⟩;rw [zBz j.2.2];go_wp2_with fail;refine (aHp _ _ (Q.below (a _ _)) (R.below (a _ _)) X Y).mono ?_;rintro k w' ⟨rfl,M⟩;have hB:=(a _ _).trans (M.mono (a _ _).size);clear M;go_wp2_with fail;go_ret;exact ⟨bH (by simp [j.1,j.2.1,j.2.2]),hB⟩
   .have s:(d==e)=true:=(by rw [zCr];exact b);have P:(f==i)=true:=(by rw [zCr];exact c);clear b c;go_enter func19,ntmps19;go_wp2_with fail;refine (tT _ _ _ _ _ (C.below (a _ _)) (D.below (a _ _))).mono ?_;rintro k w' ⟨rfl,rfl⟩;rw [zBy l];go_wp2_with fail;go_ret;exact ⟨bH (by simp [l]),a _ _⟩
  .have s:(d==e)=true:=(by rw [zCr];exact b);have P:(f==i)=false:=(by rw [zCb];exact c);clear b;go_enter func19,ntmps19;go_wp2_with fail;go_ret;exact ⟨bH (by simp [c]),a _ _⟩
 .have s:(d==e)=false:=(by rw [zCb];exact b);go_enter func19,ntmps19;go_wp2_with fail;go_ret;exact ⟨bH (by simp [b]),a _ _⟩
structure MS (w0 w:World) (g gp:Nat) (T:List UInt8) (aA:Int):Prop where
 low:Below w0.heap.size w0 w
 g0:w0.heap.size<=g
 ds:w0.heap.size<=gp
 ne:g≠gp
 mod:Bk w g 91 #[gp,(aA:Int)]
 pl:PlS w gp T
section
variable {w0 w w' : World} {g gp : Nat} {T : List UInt8} {aA : Int}
def MS.grow (a:MS w0 w g gp T aA) (b:Below w.heap.size w w'):MS w0 w' g gp T aA:=⟨a.low.trans (zDV b a.low.size),a.g0,a.ds,a.ne,a.mod.below b a.mod.lt,a.pl.keep b⟩
def MS.alloc (b:MS w0 w g gp T aA) (a:Obj):MS w0 (w.alloc a) g gp T aA:=b.grow (bR.alloc nL a)
def MS.size (a:MS w0 w g gp T aA):w0.heap.size<=w.heap.size:=a.low.size
def PlS.lt (a:PlS w gp T):gp < w.heap.size:=by
 obtain ⟨c,d,b,_⟩:=a;exact b.lt
end
def aIQ {gp:Nat} {d:Option Addr} {a f e:Nat} {T:List UInt8} {w:World} (j:Bk w gp 89 #[.slice d a f]) (n:Rd w e 1 d a (T.map bv)) (hB:e<=w.heap.size) (m:a<=1099511627776):
 Calls prog 48 #[gp] w λi w'=>∃b c,i=.returned (.slice b a c)/\Made w' w.heap.size 5 1 b a c (T.map bv)/\Below w.heap.size w w':=by
 have o:w.cell? gp=some (.slice d a f):=(j.cell 0).trans rfl;go_enter func48,ntmps48;go_wp2_with fail;refine (aCJ _ n hB m).mono ?_;rintro i w' ⟨b,c,rfl,l,k⟩;go_wp2_with fail;go_ret;exact ⟨b,c,rfl,l,k⟩
def aIW {g gp:Nat} (c:Option Addr) {n:Nat} (f:Nat) {d:Nat} (T:List UInt8) {aA:Int} {w:World} (k:Bk w g 91 #[gp,(aA:Int)]) (i:Bk w gp 89 #[.slice c n f]) (o:Rd w d 1 c n (T.map bv)) (hB:d<=w.heap.size) (m:n<=1099511627776):
 Calls prog 18 #[g] w λe w'=>∃a b,e=.returned (.slice a n b)/\Made w' w.heap.size 5 1 a n b (T.map bv)/\Below w.heap.size w w':=by
 have p:w.cell? g=some (.pointer (some gp)):=(k.cell 0).trans rfl;go_enter func18,ntmps18;go_wp2_with fail;refine (aIQ i o hB m).mono ?_;rintro e w' ⟨a,b,rfl,l,j⟩;go_wp2_with fail;go_ret;exact ⟨a,b,rfl,l,j⟩
section
variable {w0 w w' : World} {g gp : Nat} {T : List UInt8} {aA : Int}
end
end Go.Proofs.YtknjfpcdhdmghaaGreatDoor
