/- Lemmas of the walk. Conditions: each its own. -/
import Derived.Test.YtknjfpcdhdmghaaGreatDoorPt7
set_option linter.all false
set_option maxRecDepth 100000
set_option maxHeartbeats 4000000
namespace Go.Proofs.YtknjfpcdhdmghaaGreatDoor
open Tryz
open Go.RowKit
def aJo (b:Nat) (c:List Bool):Value->World->Prop:=λv w=>∃a,v=.tuple #[.pointer (some ⟨a,0,none⟩),o0]/\Bk w a 250 (dL c)/\b<=a
def aL0 (b:Nat) (c:List Bool):Value->World->Prop:=λv w=>∃a,v=.pointer (some ⟨a,0,none⟩)/\Bk w a 250 (dL c)/\b<=a
def aIs (a b):tO (λ_=>False) (aJo a b):=λ_ _ _ ⟨c,e,f,g⟩ i=>⟨c,e,i.d f (λd=>d),g⟩
def aIt (a b):tO (λ_=>False) (aL0 a b):=λ_ _ _ ⟨c,e,f,g⟩ i=>⟨c,e,i.d f (λd=>d),g⟩
def aIy:∀w,(sizeOf 4).run prog w=.ok 1 w:=λw=>by kernel_rfl
def aNL {a b c:Nat} (e:a*b=c) (f:c<=4000000):IntKind.i64.wrap (a*b)=((c:Nat):Int):=by
 have d:(a:Int)*b=(c:Nat):=by rw [<-e];exact (Int.natCast_mul a b).symm
 rw [d,wI0];omega
def aNM {a b c:Nat} (e:a / b=c) (f:c<=4000000):IntKind.i64.wrap (a/b)=((c:Nat):Int):=by
 have d:(a:Int)/b=(c:Nat):=by rw [<-e];exact (Int.natCast_ediv a b).symm
 rw [d,wI0];omega
def aN4 {w:World} {d n c a b:Nat} {A:Option Addr} {f:List Bool} (g:Rd w d 1 A n (f.map Value.bool)) (i:a<=b) (j:b<=n) (k:n<=c):Rd w d 1 (dH A c a 1) (b - a) (((f.take b).drop a).map Value.bool):=by
 have e:=(g.cut_hi j).cut (cap:=c) i oM;rw [zBl,zBl,<-zDw,<-zEb] at e;exact e
def aG9 {F:Nat->Prop} {gt n:Nat} {xs:List Value} {fr:List Nat} {rt v:Int} {A:Option Addr} {c f L e o m:Nat} (j l y z:Nat) {N d:List Bool} {w:World} (p:TS w F gt n xs fr rt v) (U:∀t,w.heap.size<=t->F t) (am:n<=100000) (X:aD3 n fr) (Y:Rd w L 1 A c (N.map Value.bool)) (hB:L<=w.heap.size) (al:c<=f) (W:c<=2000) (aU:0 < e) (aW:e<=1000) (ht:m=o+1) (ap:m<=e) (s:c*o=y) (q:c*m=z) (J:y / e=j) (u:z / e=l) (ak:l - j<=128) (T:(N.take l).drop j=d) (ah:d.length<=128):
 Calls prog 237 #[gt,.slice A c f,(o:Int),(m:Int),(e:Int)] w λC w'=>∃x E,C=.returned (.int .i64 (x:Nat))/\aHy F gt n xs fr rt v (lH (d.length:Int) ((d.count true:Nat):Int) E) w x w'/\Bk w' E 250 (dL d)/\w.heap.size<=E:=by
 have a0:j<=l:=by rw [<-J,<-u,<-s,<-q];exact zEV (zGf _ oM)
 have aq:l<=c:=by rw [<-u,<-q];exact Nat.div_le_of_le_mul (by rw [zFY];exact zEk _ ap)
 have aY:y<=2000*1000:=by rw [<-s];exact Nat.mul_le_mul W oM
 have aZ:z<=2000*1000:=by rw [<-q];exact Nat.mul_le_mul W oM
 have ag:¬(e:Int)=0:=oM;have aX:¬e=0:=oM;have aV:((e:Int)==0)=false:=zCb.2 ag;have b0:(m:Int) -o=1:=oM;have hcut:=kN (P:=prog) 131 4 1 underlying131 aIy A c f j l a0 oM;replace s:=lhd s;replace q:=lhd q;obtain ⟨a9,ab,aa,ac,a5,a3,a8,a6,a7⟩:=hqq9 J u a0 aq T p (Y.mono hB) U X;have aG:=lhd ht;clear p Y U X J u T ht;go_enter func237,ntmps237;go_wp2_with fail;refine wp_region_any kR<|bM (pJ:=(cO)) [20,21,22,23,24,25,26,27,28,29,30,31,32,33,34,19,35,36,11,12] (λ_=>False) 19 [] [is (.slice A c f),is (.slice A c f),is (c:Int),is (o:Int),is (.int .i64 (y:Nat)),is (e:Int),is (j:Int),is (.slice A c f),is (c:Int),is (m:Int),is (.int .i64 (z:Nat)),is (e:Int),is (l:Int),is (.slice (dH A f j 1) (l - j) (f - j)),aJo w.heap.size d,aJo w.heap.size d,aL0 w.heap.size d,is o0,aL0 w.heap.size d,cO] _ rfl kR kR (trivial) (λ_ _ _ _ _=>trivial) (λ_ _ _ _ _=>trivial) (by repeat' (first | exact gK _ _ | exact fB _ | exact aIs _ _ | exact aIt _ _ |(refine zAe.2 ⟨?_,?_⟩)|(intro b1 I;cases I))) ?_ ?_
 .refine aL<|pH3 1 (.slice A c f)<|pH3 1 (.slice A c f)<|pV3 1 21<|pH3 2 (.int .i64 o)<|sC3 (λ_ _ _ _ _ _ _ a _ _ _ b=>?_) ?_
  .have aI:_=_:=a 2 22 kR rfl;have aJ:_=_:=a 3 23 kR rfl;go_simp;exact b _ _ (aE bR) (cS (aNL s oM))
  refine pH3 4 (.int .i64 e)<|sC3 (λ_ _ _ _ _ _ _ a _ _ _ b=>?_) ?_
  .have aK:_=_:=a 4 24 kR rfl;have aM:_=_:=a 5 25 kR rfl;go_simp;exact b _ _ (aE bR) (cS (aNM a9 oM))
  refine pH3 1 (.slice A c f)<|pV3 7 27<|pH3 3 (.int .i64 m)<|sC3 (λ_ _ _ _ _ _ _ a _ _ _ b=>?_) ?_
  .have aO:_=_:=a 8 28 kR rfl;have aP:_=_:=a 9 29 kR rfl;go_simp;exact b _ _ (aE bR) (cS (aNL q oM))
  refine pH3 4 (.int .i64 e)<|sC3 (λ_ _ _ _ _ _ _ a _ _ _ b=>?_) ?_
  .have aQ:_=_:=a 10 30 kR rfl;have aR:_=_:=a 11 31 kR rfl;go_simp;exact b _ _ (aE bR) (cS (aNM ab oM))
  refine sC3 (λ_ _ _ _ _ _ _ a _ _ _ b=>?_) ?_
  .have aH:_=_:=a 0 20 kR rfl;have aN:_=_:=a 6 26 kR rfl;have aS:_=_:=a 12 32 kR rfl;go_simp;exact kq b rfl
  refine sC3 (λ_ k g _ _ _ _ a _ _ _ b=>?_) ?_
  .replace g:Keep (λ_=>False) w k:=kD g;have aT:_=_:=a 13 33 kR rfl;go_simp;have an:=g.rd a8 nL (λ_ _ p=>p);have Z:=aN4 an aa ac al;rw [a5.out] at Z;refine (gQ (f - j) Z g.size ak).mono ?_;rintro C b4 ⟨rfl,af,aj⟩;exact b _ _ (aE aj) ⟨_,rfl,af,g.size⟩
  refine sC3 (λi k _ _ _ _ _ a _ _ _ b=>?_) ?_
  .have av:(aJo w.heap.size d) (i (.tmp 34)) k:=a 14 34 kR rfl;go_simp;exact b _ _ (aE bR) av
  refine sC3 (λi k _ _ _ _ _ a _ _ G b=>?_) ?_
  .have K:(aJo w.heap.size d) (i (.tmp 19)) k:=a 15 19 kR rfl;go_simp;obtain ⟨r,D,S,V⟩:=K;subst G;rw [D];go_simp;exact b _ _ (aE bR) ⟨r,rfl,S,V⟩
  refine sC3 (λi k _ _ _ _ _ a _ _ G b=>?_) ?_
  .have K:(aJo w.heap.size d) (i (.tmp 19)) k:=a 15 19 kR rfl;go_simp;obtain ⟨r,D,S,V⟩:=K;subst G;rw [D];go_simp;exact kq b rfl
  refine sC3 (λi k _ _ _ _ _ a _ _ _ b=>?_) ?_
  .have aw:(aL0 w.heap.size d) (i (.tmp 35)) k:=a 16 35 kR rfl;go_simp;exact b _ _ (aE bR) aw
  refine sC3 (λ_ _ _ _ _ _ _ a _ _ _ b=>?_) ?_
  .have O:_=_:=a 17 36 kR rfl;go_simp;exact b _ _ (aE bR) trivial
  exact aB
 .intro i B g a Q;replace g:Keep (λ_=>False) w B:=kD g;have au:(aL0 w.heap.size d) (i (.tmp 11)) B:=a 18 11 rfl;have O:i (.tmp 36)=.int .i64 0:=a 17 36 rfl;obtain ⟨b2,ax⟩:∃aD,(cO) aD B:=Q 19 dC;simp only [zqq];rw [O];clear a Q;obtain ⟨r,ad,R,ai⟩:=au;rw [ad];have H:Below w.heap.size w B:=g.e nL (λ_ _ p=>p);have ao:=g.size;obtain ⟨a2,a4,M⟩:=hqq3 H (a3.out.below H) R;clear g H R;go_wp2_with fail;refine (aBl a4 (λt ae=>a6 t (zAk ao ae)) am a7 M ah).mono ?_;rintro C b3 ⟨x,rfl,I⟩;go_wp2_with fail;go_ret;obtain ⟨ar,aF,fr',ay,az,aA,aC,a1⟩:=I;exact ⟨x,r,rfl,⟨ar,aF,fr',ay,az,aA,aC,(LK.below a2).trans a1⟩,a1.a r _ zs M,ai⟩
def aNI (F:Nat->Prop) (gt n:Nat) (e:List Nat) (xs:List Value) (rt v:Int) (g:Nat) (f:Tr) (w:World) (i:Ending) (w':World):Prop:=
 ∃(a:LT) (b:Nat) (c:List Value),i=.returned (.int .i64 (a.num:Nat))/\TS w' F gt b c [] rt v/\a.er=f/\a.In w' c/\(a.nums++e).Perm (List.range b)/\b+1=n+2*g/\a.blks.Nodup/\(∀d,d∈a.blks->w.heap.size<=d)/\ButL [] xs c/\LK F [] w w'
def aH4 {n a b fr'} (c:Got n [] a b fr'):a=n/\b=n+1/\fr'= []:=by
 rcases c with ⟨d,_,_⟩|⟨_,e,f,g⟩
 .simp at d
 exact ⟨by omega,by omega,by assumption⟩
def aET (n):aD3 n []:=⟨List.nodup_nil,λc b=>by simp at b,λa=>absurd rfl a⟩
def aLN (a b c d):(Tr.cut a b c d).length<=a.length:=by
 unfold Tr.cut;rw [zAw,zAj];exact zAk (Nat.sub_le _ _) (Nat.min_le_right _ _)
def aJn {F gt n a c d xs rt v b w w'} (i:d.Perm (List.range n)) (g:aHy F gt n xs [] rt v (lH (b.length:Int) ((b.count true:Nat):Int) c) w a w') (j:Bk w' c 250 (dL b)) (u:w.heap.size<=c) (l:xs.length=n*8):
 aNI F gt n d xs rt v 1 (.lf b) w (.returned (.int .i64 (a:Nat))) w':=by
 obtain ⟨y,t,fr',o,p,q,r,s⟩:=g;obtain ⟨rfl,rfl,rfl⟩:=aH4 o;refine ⟨.lf a c b,a+1,t,rfl,p,rfl,⟨q,j⟩,?_,by omega,by simp [LT.blks],?_,?_,s⟩;show ([a]++d).Perm (List.range (a+1));rw [zDx];exact (i.cons a).trans (zFw a _).symm;intro z k;simp [LT.blks] at k;omega;intro m f x e;refine r m f ?_ e;have:=e.lt l;omega
def rO {w:World} {xs:List Value}:∀ {e:LT},e.In w xs->∀a,a∈e.blks->a < w.heap.size
 | .lf _ _ _,c,a,d=>by have b:a∈ [_]:=d;rw [zDa] at b;subst b;exact c.2.lt
 | .nd _ f g,c,a,d=>by have b:a∈f.blks++g.blks:=d;rw [zCp] at b;exact b.elim (rO c.2.1 a) (rO c.2.2 a)
def aJm {F gt n z j f s t q xs o g rt v} {p r:Tr} {a d:LT} {w w1 m C} (J:a.er=p) (K:d.er=r) (Q:a.In w1 o) (T:d.In m g) (S:(d.nums++(a.nums++q)).Perm (List.range j)) (a3:z+1=n+2*s) (a4:j+1=z+2*t) (G:a.blks.Nodup) (H:d.blks.Nodup) (L:∀c,c∈a.blks->w.heap.size<=c) (u:∀c,c∈d.blks->w1.heap.size<=c) (P:∀c,c∈a.blks->c < w1.heap.size) (a1:ButL [] xs o) (B:ButL [] o g) (x:LK F [] w w1) (y:LK F [] w1 m) (V:g.length=j*8) (b:aHy F gt j g [] rt v (ndL a.num d.num ((max a.ht d.ht+1:Nat):Int) ((a.len+d.len:Nat):Int) ((a.on+d.on:Nat):Int) a.len a.on) m f C):
 aNI F gt n q xs rt v (s+t) (.nd p r) w (.returned (.int .i64 (f:Nat))) C:=by
 obtain ⟨a6,D,fr',X,Y,Z,a0,k⟩:=b;obtain ⟨rfl,rfl,rfl⟩:=aH4 X;have l:ButL [] g D:=by intro W I a5 i;refine a0 W I ?_ i;have:=i.lt V;omega
 have R:=Q.but B y (λ_ _ b=>by simp at b) (λ_ _ b=>by simp at b);have U:=x.keep.size;refine ⟨.nd f a d,f+1,D,rfl,Y,by rw [<-J,<-K];rfl,⟨Z,R.but l k (λ_ _ b=>by simp at b) (λ_ _ b=>by simp at b),T.but l k (λ_ _ b=>by simp at b) (λ_ _ b=>by simp at b)⟩,?_,by omega,?_,?_,(a1.trans B).trans l,(x.trans y).trans k⟩;rw [zDx];refine List.Perm.trans ?_ ((S.cons f).trans (zFw f _).symm);rw [zDc];intro a7;simp only [LT.nums,zDg,zCc];omega;show (a.blks++d.blks).Nodup;rw [zDb];refine ⟨G,H,λi M E N a2=>?_⟩;have:=P i M;have:=u E N;omega;intro c O;have e:c∈a.blks++d.blks:=O;rw [zCp] at e;rcases e with e | e;exact L c e;exact zAk U (u c e)
def aJV (F gt rt v A r H u c e) (au:r<=H) (ar:r<=2000) (Y:0 < c) (an:c<=1000) (W:e.length=r) (am:∀j,j < u->¬F j) (a0:∀a,a < c->(Tr.cut e c a (a+1)).length<=128):
 ∀(m a b n:Nat) (xs:List Value) (i:List Nat) (w:World),a < b->b - a<=m+1->b<=c->TS w F gt n xs [] rt v->(∀j,w.heap.size<=j->F j)->n+2*(b - a)<=10000->i.Perm (List.range n)->Rd w u 1 A r (e.map Value.bool)->u<=w.heap.size->
 Calls prog 237 #[gt,.slice A r H,(a:Int),(b:Int),(c:Int)] w (aNI F gt n i xs rt v (b - a) (Tr.bld e c m a b) w):=by
 have P:∀(a b n:Nat) (xs:List Value) (i:List Nat) (w:World),b=a+1->b<=c->TS w F gt n xs [] rt v->(∀j,w.heap.size<=j->F j)->n+2*(b - a)<=10000->i.Perm (List.range n)->Rd w u 1 A r (e.map Value.bool)->u<=w.heap.size->
  Calls prog 237 #[gt,.slice A r H,(a:Int),(b:Int),(c:Int)] w (aNI F gt n i xs rt v (b - a) (.lf (Tr.cut e c a b)) w):=by
  intro a b n xs i w ht a1 g o B p q hB;have Z:(Tr.cut e c a b).length<=128:=by rw [ht];exact a0 a oM
  have X:=Tr.cut_len (bs:=e) (f:=a) Y a1;rw [W] at X;have ax:=g.len;refine (aG9 _ _ _ _ g o oM (aET n) q hB au ar Y an ht a1 rfl rfl rfl rfl (by rw [<-X];exact Z) (by rw [<-W];rfl) Z).mono ?_;rintro I w' ⟨az,K,rfl,C,z,ap⟩;have J:b - a=1:=oM;rw [J];exact aJn p C z ap ax
 intro m
 induction m with
 | zero=>
  intro a b n xs i w L y M g o B p q hB;exact P a b n xs i w oM M g o B p q hB
 | succ m a2=>
  intro a b n xs i w L y M g o B p q hB;unfold Tr.bld;split;exact P a b n xs i w oM M g o B p q hB
  .rename_i aM
   obtain ⟨s,l⟩:=eqx ((a+b)/ 2);rw [l];have av:¬((b:Int) -a=1):=oM;have aN:((b:Int) -a==1)=false:=zCb.2 av;have aL:((a:Int)+b)/ 2=(s:Int):=oM;have a6:=(a2 a s n xs i w oM oM oM g o oM p q hB);have aF:=g.len;have aG:n<=10000:=oM;clear P g p a0;go_enter func237,ntmps237;go_wp2_with fail;refine a6.mono ?_;rintro I w1 ⟨d,aA,aE,rfl,a9,D,E,R,S,T,x⟩;have aq:d.blks.Nodup/\(∀K,K∈d.blks->w.heap.size<=K):=⟨T,x.1⟩;have N:=x.2.2.keep;have a7:=(N.rd q hB am);have O:=N.size;have a8:=(a2 s b aA aE (d.nums++i) w1 oM oM oM a9 (λj z=>o j (zAk O z)) oM R a7 (zAk hB O));have a5:=T;clear R aq N;go_wp2_with fail;refine a8.mono ?_;rintro I aQ ⟨k,aB,a4,rfl,b2,G,U,ac,ad,ae,t⟩;have a3:=E.but t.2.1 t.2.2 (λ_ _ g=>by simp at g) (λ_ _ g=>by simp at g);obtain ⟨af,ag,ah,ai,aC,V⟩:=d.R;obtain ⟨aj,J,ak,al,aD,er⟩:=k.R;have aa:At8 a4 d.num (xA af ag d.ht d.len d.on ah ai aC):=V ▸ a3.at
   have ab:At8 a4 k.num (xA aj J k.ht k.len k.on ak al aD):=er ▸ U.at
   have aw:=t.2.2.keep.size;have aH:d.len<=2000:=(by show d.er.bits.length<=2000;rw [D,Tr.bld_bits e c m _ _ (zj l) (zj l)];exact zAk (aLN _ _ _ _) oM);have aI:k.len<=2000:=(by show k.er.bits.length<=2000;rw [G,Tr.bld_bits e c m _ _ (zj l) (zj l)];exact zAk (aLN _ _ _ _) oM);have aJ:d.ht<=100000:=(by have L:=Tr.ht_lv d.er;have y:=Tr.bld_lv e c m a s (zj l) (zj l);rw [<-D] at y;show d.er.ht<=100000;omega);have aK:k.ht<=100000:=(by have L:=Tr.ht_lv k.er;have y:=Tr.bld_lv e c m s b (zj l) (zj l);rw [<-G] at y;show k.er.ht<=100000;omega);have aO:=d.on_le;have aP:=k.on_le;have ay:=b2.len;clear a3 V er;go_wp2_with fail;refine (aFE b2 (λj z=>o j (zAk O (zAk aw z))) (zj S) (aET aB) zs zs aa ab oM oM oM oM oM oM).mono ?_;rintro I aR ⟨az,rfl,C⟩;have ao:(s - a)+(b - s)=b - a:=(zj l);have Q:=(aJm D G E U ac S ad a5 ae x.1 t.1 (rO E) x.2.1 t.2.1 x.2.2 t.2.2 ay C);rw [ao] at Q;clear C;go_wp2_with fail;go_ret;exact Q
def lI (w:World) (a:Nat) (v:Value):Nat:=match w.cell? ⟨a,(intOf v).toNat*8+2,none⟩ with
 | some (.int _ b)=>b.toNat
 | _=>0
def kS {w gt ga b cap n xs rt v} {a:LT} (e:TR w gt ga (some ⟨b,0,none⟩) cap n xs rt v) (f:a.In w xs):lI w b (.int .i64 a.num)=a.ht:=by
 obtain ⟨g,i,j,k,l,d⟩:=a.R;obtain ⟨_,_,c,_⟩:=e.at (show At8 xs a.num [_,_,_,_,_,_,_,_] from d ▸ f.at);unfold lI;rw [show (intOf (.int .i64 a.num)).toNat=a.num from rfl,c];rfl
def wV (a d:List Bool) (c:Nat) (b:Bool) (e:a.length<=c):((a++d).take c).count b=a.count b+(d.take (c - a.length)).count b:=by
 rw [zEI,zAg e,zCc]
def jJ (w:World) (gt:Nat) (v:Value) (a:Array Value):Bk ((w.setCell ⟨gt,3,none⟩ v).alloc (.cells a 236)) w.heap.size 236 a:=by
 have b:=kd (w.setCell ⟨gt,3,none⟩ v) 236 a;rwa [show (w.setCell ⟨gt,3,none⟩ v).heap.size=w.heap.size by simp [World.setCell]] at b
def aEc {b a:Nat} (c:b=a) (ht:a<=1100):wrap64 a=(b:Int):=by subst c;unfold wrap64;omega
structure AtSub (w:World) (xs:List Value) (s:LT):Prop where
 sub:s.In w xs
 le:s.er.Le
 len:s.len<=1100
def AtSub.l {w xs b} {l c:LT} (a:AtSub w xs (.nd b l c)):AtSub w xs l:=⟨a.sub.2.1,a.le.1,by have:=a.len;rw [LT.len_nd] at this;omega⟩
def AtSub.r {w xs c} {d b:LT} (a:AtSub w xs (.nd c d b)):AtSub w xs b:=⟨a.sub.2.2,a.le.2,by have:=a.len;rw [LT.len_nd] at this;omega⟩
def aFY {v:Nat} (a:v<=100000):wrap64 (v+1)=((v+1:Nat):Int):=by unfold wrap64;omega
def oht (a:Option Tr):Nat:=
 match a with
 | none=>0
 | some b=>b.ht
def RankV (gt b:Nat) (w':World):Prop:=∃a:Nat,a<=b/\w'.cell? ⟨gt,3,none⟩=some (.int .i64 a)
def RankV.of {gt v a:Nat} {b:Int} {k c d e w} (g:Bk w gt k #[c,d,e,(b:Int)]) (j:b=wrap64 (v+1)) (i:v<=100000) (f:v+1<=a):RankV gt a w:=⟨v+1,f,by rw [g.cell 3,j,aFY i];rfl⟩
def aHh {gt} {a0:Option Tr} {i} (b) {w} (a7:TreeO w gt a0) (aZ:i<=(cH a0).length):
 Calls prog 220 #[gt,(i:Int),.bool b] w λf w'=>f=.returned (.int .i64 (((cH a0).take i).count b:Nat))/\VisK (λb=>b=gt) w w'/\RankV gt (oht a0+1) w':=by
 have bD:=a7.le;obtain ⟨bs,N,aV⟩:=a7.a;have az:=VisK.E N 0;have bd:=a7.b az.1;have bE:=N.lt;have aP:w.cell? ⟨gt,3,none⟩=some bs[3]:=by rw [N.cell 3];simp [aV]
 have aS:=N.frozen 3;have bq:=lhd (show (w.setCell ⟨gt,3,none⟩ (.int .i64 0)).cell? ⟨gt,3,none⟩=some (.int .i64 0) by rw [(N.set 3 (.int .i64 0)).cell 3];simp [aV]);obtain ⟨br,ao⟩:=eqx ((cH a0).length);rw [ao] at aZ bD;have bM:max (i:Int) 0=(i:Int):=oM;have cb:min (i:Int) (br:Int)=(i:Int):=oM;obtain ⟨aE,aj,ag,bO⟩:=hqq4 az bd ao aZ;clear a7 az bd N ao;go_enter func220,ntmps220;go_wp2_with fail;clear aP aS;refine (jL aj).mono ?_;rintro f m ⟨rfl,a8⟩;rw [ag.out];clear bM;have aO:=lhd ((a8.cell (p:=⟨gt,3,none⟩) (by simpa [World.setCell] using bE)).trans bq.out);have x:=aE.below a8;have be:=aj.b (kb a8);obtain ⟨aF,bp⟩:=hqq2 x be;clear x be aE aj a8;rcases zBa i with b0 | b0
 .subst b0;go_wp2_with fail;go_ret;exact ⟨rfl,aF,0,zAp _,aO⟩
 .have bG:¬((i:Int)=0):=oM;have c1:((i:Int)==0)=false:=zCb.2 bG;obtain ⟨ga,A,cap,n,xs,rt,v,M,⟨rfl,rfl⟩|⟨B,rfl,ar,rfl,L,an⟩⟩:=bp;have:=ag.out;simp [cH] at this;omega;obtain ⟨t,bT,rfl,aX⟩:=M.ex (zj (ar.at.lt M.len));obtain ⟨R,ay⟩:=eqx (((cH (some B.er)).take i).count b);have bL:R<=1100:=(by rw [<-ay];exact zAk zBv (by rw [zAj];omega));have bS:=M.c2;have bZ:=M.a.lt;have bX:=aX.lt;obtain ⟨ai,a3,bj,aN⟩:=hqq4 (show B.ht<=1100 from zAk L.a4 an) M (show AtSub m xs B from ⟨ar,L.le,an⟩) ay;have bH:i<=B.len:=(by have:=ag.out;have f:(cH (some B.er)).length=B.len:=rfl;omega);clear M ar aX ay L an;go_wp2_with fail;go_loopw [1,7,8] (λbN I o wr=>∃(s:LT) (a k:Nat),bN=.int .i64 a/\I=.int .i64 (s.num:Nat)/\o=.int .i64 k/\AtSub m xs s/\a<=s.len/\k+(s.bits.take a).count b=R/\VisK (λb=>b=gt) m wr/\∃H:Nat,H+s.ht<=B.ht/\wr.cell? ⟨gt,3,none⟩=some (.int .i64 H)) (λ_ I _ _=>lI m t I)
  case atStart=>exact ⟨B,i,0,rfl,rfl,rfl,bj,bH,by rw [zBi];exact aN,VisK.refl _ _,0,by omega,aO⟩
  case round=>
   obtain ⟨s,a,k,rfl,rfl,rfl,q,aa,ad,P,H,bh,bg⟩:=hrel;obtain ⟨G,e⟩:=a3.b P.1;have ak:=lhd (show G=H by have f:=e.c3.symm.trans bg;injection f with f;injection f);have aB:=lhd (e.a.set 3 (.int .i64 (wrap64 (G+1))));have U:=lhd bh;clear bg bh;have bQ:=e.c1;have aP:=e.c3;have aS:=e.a.frozen 3;have c0:=e.a.lt;obtain ⟨bU,a9⟩:=fE e.row;have bY:=a9.lt;have O:=q.sub.b P.1;have c4:gt≠t:=Bk.ne e.a a9 dC;have b3:(s.num:Int) < n:=(zj (O.at.lt e.len));have aw:=kS a3 q.sub;generalize bb:s.num=g at*
   cases s with
   | lf a1 am l=>
    change a1=g at bb;subst a1;obtain ⟨aA,av⟩:=eqx l.length;obtain ⟨r,Y⟩:=eqx (l.count true);obtain ⟨bt,bu,bv,aQ,aR,bw,bx,bz⟩:=e.at (show At8 xs g [_,_,_,_,_,_,_,_] from O.1);rw [av] at aQ;rw [Y] at aR;change (g:Int) < (n:Int) at b3;have bI:l.length<=128:=q.le;have b4:a<=l.length:=aa;have bc:k+(l.take a).count b=R:=ad;have bF:gt≠wr.heap.size:=oM;have x:VisK (λb=>b=gt) wr ((wr.setCell ⟨gt,3,none⟩ (.int .i64 (wrap64 (G+1)))).alloc (.cells #[(-1:Int),(-1:Int),o0,(aA:Int),(r:Int),o0,o0,am] 236)):=(VisK.E e.a _).alloc _;have aq:=O.2;have aU:=(aq.m (p:=⟨gt,3,none⟩) (Bk.ne aq e.a dC) (.int .i64 (wrap64 (G+1)))).alloc (.cells #[(-1:Int),(-1:Int),o0,(aA:Int),(r:Int),o0,o0,am] 236);have a4:=lhd (P.trans x);have J:=lhd (aB.out.alloc (.cells #[(-1:Int),(-1:Int),o0,(aA:Int),(r:Int),o0,o0,am] 236));obtain ⟨bi,a6,aI,S,bP⟩:=hqq5 aU bc bI b4 av;clear q aa ad P e a9 O aw x aq aU bc b4 av Y;go_wp2_with fail;refine (aBW bi aI S).mono ?_;rintro f cc ⟨rfl,ap⟩;obtain ⟨I,ae⟩:=eqx (List.count true (List.take a l));have bK:I<=a:=(by rw [<-ae];exact zAk zBv (by rw [zAj];omega));have b5:(if b then I else a - I)=(l.take a).count b:=(by have K:(l.take a).length=a:=(by rw [zAj];have:=S.out;omega);have C:=tE (l.take a) b;rw [K,ae] at C;exact C);rw [ae];obtain ⟨aD,aG,aC⟩:=hqq3 b5 (a4.out.below ap) (J.out.below ap J.out.lt);have b2:a<=100000:=(zk S.out aI.out);clear ae b5 ap;go_wp2_with fail;refine (pY b _ b2 bK).mono ?_;rintro f af ⟨rfl,u⟩;rw [aD.out];have bf:=aG.below u;have a2:=lhd (aC.out.below u aC.out.lt);obtain ⟨o,y⟩:=eqx (List.count b (List.take a l));have ca:k+o=R:=(by rw [<-y];exact a6);rw [y];have ah:=lhd (aF.out.trans bf);have c7:wrap64 (k+o)=(R:Int):=(by unfold wrap64;omega);have c8:((k:Int)+o)=(R:Int):=oM;clear y bf u aD aG;go_wp2_with fail;go_ret;have V:=U.out;have D:=ai.out;exact ⟨fM (aEc aN bL),ah,RankV.of (v:=H) a2 (by rw [ak.out]) oM (Nat.succ_le_succ (zAk (Nat.le_add_right _ _) V))⟩
   | nd a1 c j=>
    change a1=g at bb;subst a1;obtain ⟨d,X⟩:=eqx c.len;obtain ⟨z,ab⟩:=eqx c.on;obtain ⟨Z,ba⟩:=eqx (c.len+j.len);obtain ⟨r,Y⟩:=eqx (c.on+j.on);obtain ⟨W,aY⟩:=eqx (max c.ht j.ht+1);obtain ⟨Q,au⟩:=eqx c.num;obtain ⟨E,ax⟩:=eqx j.num;have b1:At8 xs g (ndL Q E W Z r d z):=(by rw [<-X,<-ab,<-ba,<-Y,<-aY,<-au,<-ax];exact O.1);obtain ⟨bt,bu,bv,aQ,aR,bw,bx,bz⟩:=e.at b1;change (g:Int) < (n:Int) at b3;have c2:=q.len;have b6:=LT.len_nd g c j;have b7:=kS a3 q.l.sub;have b9:=kS a3 q.r.sub;have b8:(LT.nd g c j).ht=max c.ht j.ht+1:=rfl;have bJ:z<=d:=(by rw [<-ab,<-X];exact c.on_le);have c3:d<=1100:=oM;have b2:a<=1100:=oM;have aT:(LT.nd g c j).bits=c.bits++j.bits:=rfl;have aW:(if b then z else d - z)=c.bits.count b:=(by rw [<-ab,<-X];exact tE c.bits b);have c5:k<=1100:=oM;have bF:gt≠wr.heap.size:=oM;have x:VisK (λb=>b=gt) wr ((wr.setCell ⟨gt,3,none⟩ (.int .i64 (wrap64 (G+1)))).alloc (.cells #[(Q:Int),(E:Int),(W:Int),(Z:Int),(r:Int),(d:Int),(z:Int),.pointer none] 236)):=(VisK.E e.a _).alloc _;have a4:=lhd (P.trans x);have J:=lhd (aB.out.alloc (.cells #[(Q:Int),(E:Int),(W:Int),(Z:Int),(r:Int),(d:Int),(z:Int),.pointer none] 236));obtain ⟨aM,a6,T,aJ,aL,aK,bn,bo,a5⟩:=hqq9 q ad X au ax aw b7 b9 b8;obtain ⟨bl,aH,S,bm⟩:=hqq4 aW aT aa b6;clear q ad X ab ba Y aY au ax aw b7 b9 b8 aW aT aa b6 b1 O a9 e P x;by_cases al:a<=d
    .have bA:=zy ((a:Int)<=d);have bB:=zBz al;go_wp2_with fail;go_roundw
     case rel=>exact ⟨c,a,k,rfl,by rw [aJ.out],rfl,aM.l,by rw [T.out];exact al,by
      have:=a6.out;rw [aH.out,zDi (by have f:c.bits.length=d:=T;omega)] at this;exact this,a4,H+1,by have V:=U.out;have D:=a5.out;omega,by rw [J.cell 3,ak.out,aFY (by have V:=U.out;have D:=ai.out;omega)];rfl⟩
     case measure=>have C:=aK.out;have K:=bn.out;have L:=a5.out;rw [aJ.out] at K;show lI m t (.int .i64 Q) < lI m t (.int .i64 (g:Nat));have bC:lI m t (.int .i64 (g:Nat))=(LT.nd g c j).ht:=C;omega
    .have bA:=zn ((a:Int)<=d);have bB:=zBy al;go_wp2_with fail;refine (pY b _ oM bJ).mono ?_;rintro f af ⟨rfl,u⟩;rw [bl.out];obtain ⟨o,y⟩:=eqx (c.bits.count b);rw [y];have c9:o<=d:=(by have f:c.bits.length=d:=T;rw [<-y,<-f];exact zBv);obtain ⟨ah,a2⟩:=hqq2 (a4.out.below u) (J.out.below u J.out.lt);have ac:=(jJ wr gt (.int .i64 (wrap64 (G+1))) #[(Q:Int),(E:Int),(W:Int),(Z:Int),(r:Int),(d:Int),(z:Int),.pointer none]).below u (jJ wr gt (.int .i64 (wrap64 (G+1))) #[(Q:Int),(E:Int),(W:Int),(Z:Int),(r:Int),(d:Int),(z:Int),.pointer none]).lt;have bV:af.cell? ⟨wr.heap.size,1,none⟩=some (.int .i64 E):=(by rw [ac.cell 1];rfl);have bW:af.cell? ⟨wr.heap.size,5,none⟩=some (.int .i64 d):=(by rw [ac.cell 5];rfl);have c6:wr.heap.size < af.heap.size:=ac.lt;clear ac;have bk:=lhd y;clear u y;go_wp2_with fail;go_quiet (fail);go_wp2_with fail;go_roundw
     case rel=>exact ⟨j,a - d,k+o,congrArg (Value.int .i64) (show (a:Int) -(d:Int)=(a - d:Nat) by omega),by rw [aL.out],congrArg (Value.int .i64) (show (k:Int)+(o:Int)=(k+o:Nat) from rfl),aM.r,by
      have C:=S.out;have K:=bm.out;have L:=T.out;omega,by
      have D:=a6.out;have f:c.bits.length=d:=T;rw [aH.out,wV _ _ _ _ oM,bk.out,f] at D;rw [zDp];exact D,ah.below (km bR _),H+1,by have V:=U.out;have D:=a5.out;omega,by rw [(a2.below (km bR _) a2.lt).cell 3,ak.out,aFY (by have V:=U.out;have D:=ai.out;omega)];rfl⟩
     case measure=>have C:=aK.out;have K:=bo.out;have L:=a5.out;rw [aL.out] at K;show lI m t (.int .i64 E) < lI m t (.int .i64 (g:Nat));have bC:lI m t (.int .i64 (g:Nat))=(LT.nd g c j).ht:=C;omega
def aOr {b d:List Bool} {a:Nat} (c:a < b.length):(b++d).getD a false=b.getD a false:=by
 rw [zAb,zAb,zAn c]
def aOq {b c:List Bool} {a:Nat} (d:b.length<=a):(b++c).getD a false=c.getD (a - b.length) false:=by
 rw [zAb,zAb,zAo d]
def aCw {gt} {e:Option Tr} {b w} (c:TreeO w gt e) (r:b < (cH e).length):
 Calls prog 217 #[gt,(b:Int)] w λf w'=>f=.returned (.int .i64 0)/\VisK (λk=>k=gt) w w':=by
 obtain ⟨m,a,q⟩:=c.a;have d:=VisK.E a 0;have i:=c.b d.1;have t:=a.lt;have l:w.cell? ⟨gt,3,none⟩=some m[3]:=by rw [a.cell 3];simp [q]
 have o:=a.frozen 3;have u:¬(b:Int) < 0:=oM;obtain ⟨j,p⟩:=eqx ((cH e).length);have x:¬(j<=b):=oM;clear c a r;go_enter func217,ntmps217;go_wp2_with fail;clear l o;refine (jL i).mono ?_;rintro f y ⟨rfl,g⟩;rw [p];have s:=d.below g;clear g d i;go_wp2_with fail;go_ret;exact ⟨rfl,s⟩
def aJA {gt} {L:Option Tr} {u w} (G:TreeO w gt L) (P:u < (cH L).length):
 Calls prog 163 #[gt,(u:Int)] w λq w'=>q=.returned (.tuple #[.bool ((cH L).getD u false),o0])/\VisK (λo=>o=gt) w w':=by
 have aB:=G.le;obtain ⟨a0,a6⟩:=eqx ((cH L).getD u false);rw [a6];have aD:u<=1100:=oM;clear aB;go_enter func163,ntmps163;go_wp2_with fail;refine (aCw G P).mono ?_;rintro q g ⟨rfl,j⟩;have ao:=(G.b j.1);have al:=j;clear j G;obtain ⟨ga,A,cap,n,xs,rt,v,l,⟨rfl,rfl⟩|⟨aj,rfl,O,rfl,y,a4⟩⟩:=ao
 .have:=P;simp [cH] at this
 obtain ⟨k,aO,rfl,a8⟩:=l.ex (zj (O.at.lt l.len));have aM:=l.c2;have aT:=l.a.lt;have aR:=a8.lt;have ak:=(show AtSub g xs aj from ⟨O,y.le,a4⟩);clear O a8 y a4;go_wp2_with fail;go_loopw [1,7] (λaK Z wr=>∃(m:LT) (a:Nat),aK=.int .i64 a/\Z=.int .i64 (m.num:Nat)/\AtSub g xs m/\a < m.len/\m.bits.getD a false=a0/\VisK (λo=>o=gt) g wr) (λ_ Z _=>lI g k Z)
 case atStart=>exact ⟨aj,u,rfl,rfl,ak,P,a6,VisK.refl _ _⟩
 case round=>
  obtain ⟨m,a,rfl,rfl,i,Q,K,t⟩:=hrel;obtain ⟨Y,e⟩:=l.b t.1;have aL:=e.c1;have aN:=e.c3;have aQ:=e.a.frozen 3;have aU:=e.a.lt;obtain ⟨aP,J⟩:=fE e.row;have aS:=J.lt;have r:=i.sub.b t.1;have aY:gt≠k:=Bk.ne e.a J dC;have ac:(m.num:Int) < n:=zj (r.at.lt e.len)
  have T:=kS l i.sub;generalize ag:m.num=c at*
  cases m with
  | lf D a3 x=>
   change D=c at ag;subst D;obtain ⟨ah,ad⟩:=eqx x.length;obtain ⟨C,B⟩:=eqx (x.count true);obtain ⟨ap,aq,ar,a1,a2,au,av,aw⟩:=e.at (show At8 xs c [_,_,_,_,_,_,_,_] from r.1);rw [ad] at a1;rw [B] at a2;change (c:Int) < (n:Int) at ac;have aF:x.length<=128:=i.le;have aE:a < x.length:=Q;have aJ:x.getD a false=a0:=K;have aC:gt≠wr.heap.size:=oM;have j:VisK (λo=>o=gt) wr ((wr.setCell ⟨gt,3,none⟩ (.int .i64 (wrap64 (Y+1)))).alloc (.cells #[(-1:Int),(-1:Int),o0,(ah:Int),(C:Int),o0,o0,a3] 236)):=(VisK.E e.a _).alloc _;have N:=r.2;have aA:=(N.m (p:=⟨gt,3,none⟩) (Bk.ne N e.a dC) (.int .i64 (wrap64 (Y+1)))).alloc (.cells #[(-1:Int),(-1:Int),o0,(ah:Int),(C:Int),o0,o0,a3] 236);have E:=(t.trans j);have an:=aF;clear i Q K t e J r T j N ad B;go_wp2_with fail;refine (vV a aA an aE).mono ?_;rintro q aZ ⟨rfl,a5⟩;rw [aJ];have am:=(al.trans (E.below a5));clear a5;go_wp2_with fail;go_ret2;exact ⟨rfl,am⟩
  | nd D b f=>
   change D=c at ag;subst D;obtain ⟨d,s⟩:=eqx b.len;obtain ⟨W,S⟩:=eqx b.on;obtain ⟨ai,af⟩:=eqx (b.len+f.len);obtain ⟨C,B⟩:=eqx (b.on+f.on);obtain ⟨a9,aa⟩:=eqx (max b.ht f.ht+1);obtain ⟨V,R⟩:=eqx b.num;obtain ⟨X,U⟩:=eqx f.num;have ab:At8 xs c (ndL V X a9 ai C d W):=(by rw [<-s,<-S,<-af,<-B,<-aa,<-R,<-U];exact r.1);obtain ⟨ap,aq,ar,a1,a2,au,av,aw⟩:=e.at ab;change (c:Int) < (n:Int) at ac;have aV:=i.len;have aG:=LT.len_nd c b f;have aH:=kS l i.l.sub;have aI:=kS l i.r.sub;have ae:(LT.nd c b f).ht=max b.ht f.ht+1:=rfl;have aX:W<=d:=(by rw [<-S,<-s];exact b.on_le);have aW:d<=1100:=oM;have aD:a<=1100:=oM;have a7:(LT.nd c b f).bits=b.bits++f.bits:=rfl;have aC:gt≠wr.heap.size:=oM;have j:VisK (λo=>o=gt) wr ((wr.setCell ⟨gt,3,none⟩ (.int .i64 (wrap64 (Y+1)))).alloc (.cells #[(V:Int),(X:Int),(a9:Int),(ai:Int),(C:Int),(d:Int),(W:Int),.pointer none] 236)):=(VisK.E e.a _).alloc _;have E:=(t.trans j);clear S af B aa ab r J e t j;by_cases M:a < d
   .have ax:=zy ((a:Int) < d);have ay:=zBz M;go_wp2_with fail;go_roundw
    case rel=>exact ⟨b,a,rfl,by rw [R],i.l,by rw [s];exact M,by
     have z:=K;rw [a7,aOr (by have q:b.bits.length=d:=s;omega)] at z;exact z,E⟩
    case measure=>have H:=T;have I:=aH;have y:=ae;rw [R] at I;show lI g k (.int .i64 V) < lI g k (.int .i64 (c:Nat));have az:lI g k (.int .i64 (c:Nat))=(LT.nd c b f).ht:=H;omega
   .have ax:=zn ((a:Int) < d);have ay:=zBy M;go_wp2_with fail;go_quiet (fail);go_wp2_with fail;go_roundw
    case rel=>exact ⟨f,a - d,congrArg (Value.int .i64) (show (a:Int) -(d:Int)=(a - d:Nat) by omega),by rw [U],i.r,by
     have H:=Q;have I:=aG;have y:=s;omega,by
     have z:=K;have q:b.bits.length=d:=s;rw [a7,aOq oM,q] at z;exact z,E.below (km bR _)⟩
    case measure=>have H:=T;have I:=aI;have y:=ae;rw [U] at I;show lI g k (.int .i64 X) < lI g k (.int .i64 (c:Nat));have az:lI g k (.int .i64 (c:Nat))=(LT.nd c b f).ht:=H;omega
def aJO {F} {ga j a b:Nat} {tk fr w} (x:ArenaE w F ga tk fr) (L:tk[a]?=some true) (M:tk[b]?=some true) (aT:a≠b) (G:Bk w j 3 #[(a:Int),(b:Int)]) (aN:fr.length<=1000000):
 Calls prog 223 #[ga,.slice (some j) 2 2] w λs w'=>s=.returned (.int .i64 0)/\ArenaE w' (Gw F w.heap.size) ga ((tk.set a false).set b false) (fr++ [a,b])/\Keep F w w':=by
 have ak:=qW x L;obtain ⟨Y,A,m,k,o,f,r,a4,P,O⟩:=x;obtain ⟨aU,_⟩:=zAc.1 L;obtain ⟨aV,_⟩:=zAc.1 M;obtain ⟨b3,aP,b0,b1,b2⟩:=info_parts gI;obtain ⟨e,J⟩:=eqx tk.length;obtain ⟨d,y⟩:=eqx fr.length;rw [y] at f a4 O aN;rw [J] at f r P aU aV;obtain ⟨gt,b5,X,_,bf⟩:=kj r oM;injection X with X _ hcc;subst X hcc;have aF:w.cell? ⟨gt,a,none⟩=some (.bool true):=by refine (kh r a oM).trans ?_;rw [zAf,L];rfl
 have aq:ga≠gt:=λs=>bC r f dC (by rw [s];rfl);have aO:∃B,Bk w gt 4 B:=by
  rcases r.2 with ⟨c,_⟩|⟨ai,cap,B,c,_,W,_⟩
  .cases c
  injection c with c _ _;injection c with c;injection c with c _;subst c;exact ⟨B,W⟩
 obtain ⟨B,E⟩:=aO;have aL:=E.frozen a;have aA:w.cell? ga=some (.slice (some gt) e m):=(f.cell 0).trans rfl;have aG:w.cell? ⟨gt,b,none⟩=some (.bool true):=by refine (kh r b oM).trans ?_;rw [zAf,M];rfl
 have aH:w.cell? j=some (.int .i64 (a:Int)):=(G.cell 0).trans rfl;have bc:=f.lt;have be:=G.lt;have bg:(a:Int) < (e:Int):=oM;have bh:(b:Int) < (e:Int):=oM;have ap:j≠gt:=Bk.ne G E dC;obtain ⟨i,q⟩:=eqx (w.setCell ⟨gt,a,none⟩ (.bool false));have C:Bk i ga 183 #[.slice (some gt) e m,.slice k d o,(268435456:Int)]:=by rw [<-q];exact f.m (p:=⟨gt,a,none⟩) aq _
 have R:Bk i j 3 #[(a:Int),(b:Int)]:=by rw [<-q];exact G.m (p:=⟨gt,a,none⟩) ap _
 have Q:i.ownsRow 0 4 1 (.slice (some gt) e m) e ((tk.set a false).map Value.bool):=by rw [<-q,zGi];exact (kk r a (.bool false)).1
 have a5:i.ownsRow 0 3 1 (.slice k d o) d (fr.map sv):=by rw [<-q];exact aC a4 λz V _ g=>g.m (p:=⟨gt,a,none⟩) (Bk.ne g E dC) _
 have a0:Bk i gt 4 (B.setIfInBounds a (.bool false)):=by rw [<-q];exact E.set a _
 have N:(tk.set a false).length=e:=by rw [zAt];exact J
 have a2:(tk.set a false)[b]?=some true:=by rw [zDr aT];exact M
 have al:=qW ⟨Y,some ⟨gt,0,none⟩,m,k,o,by rw [N,y];exact C,by rw [N];exact Q,by rw [y];exact a5,by rw [N];exact P,by rw [y];exact O⟩ a2;have aB:i.cell? ga=some (.slice (some gt) e m):=(C.cell 0).trans rfl;have aD:i.cell? ⟨j,1,none⟩=some (.int .i64 (b:Int)):=(R.cell 1).trans rfl;have aE:i.cell? ⟨gt,b,none⟩=some (.bool true):=by refine (kh Q b oM).trans ?_;rw [zAf,a2];rfl
 have aK:=a0.frozen b;have ba:=C.lt;have bd:=R.lt;obtain ⟨l,u⟩:=eqx (i.setCell ⟨gt,b,none⟩ (.bool false));have D:Bk l ga 183 #[.slice (some gt) e m,.slice k d o,(268435456:Int)]:=by rw [<-u];exact C.m (p:=⟨gt,b,none⟩) aq _
 have a7:Bk l j 3 #[(a:Int),(b:Int)]:=by rw [<-u];exact R.m (p:=⟨gt,b,none⟩) ap _
 have ao:l.ownsRow 0 4 1 (.slice (some gt) e m) e (((tk.set a false).set b false).map Value.bool):=by rw [<-u,zGi];exact (kk Q b (.bool false)).1
 have a6:l.ownsRow 0 3 1 (.slice k d o) d (fr.map sv):=by rw [<-u];exact aC a5 λz V _ g=>g.m (p:=⟨gt,b,none⟩) (Bk.ne g a0 dC) _
 have Z:F gt:=OwnF.at P;have am:Keep F w l:=by rw [<-u,<-q];exact ka (F:=F) (ka (F:=F) (ke _ _) (p:=⟨gt,a,none⟩) (.inl Z) _) (p:=⟨gt,b,none⟩) (.inl Z) _
 have b7:l.cell? ⟨ga,1,none⟩=some (.slice k d o):=(D.cell 1).trans rfl;have bb:=D.lt;have an:Rd l l.heap.size 1 (some ⟨j,0,none⟩) 2 [.int .i64 (a:Int),.int .i64 (b:Int)]:=⟨rfl,λ_=>⟨j,0,rfl,a7.lt,λS bj a8=>by
  rw [zBi,a7.cell];rcases S with _ | _ | S;exact a8;exact a8
  .simp at a8⟩⟩
 obtain ⟨aw,ag,af,ad,az,au,ar,ac,ae⟩:=hqq9 D ao a6 am an u q al O;obtain ⟨U,aa,ax⟩:=hqq3 y J (bC a6 D dC);clear f r a4 P O J y E G L D a7 ao a6 am u an q al C R Q a5 a0 N M a2 aG;go_enter func223,ntmps223;go_wp2_with fail;refine wp_loop_rounds 3 ?_;rw [rounds_succ];go_wp2_with fail;refine ak.mono ?_;rintro s w1 ⟨rfl,rfl⟩;clear ak;go_wp2_with fail;rw [ar.out];clear aA aH aF aL;rw [rounds_succ];go_wp2_with fail;refine ac.out.mono ?_;rintro s bl ⟨rfl,rfl⟩;clear ac;go_wp2_with fail;rw [au.out];clear aB aD aE aK;rw [rounds_succ];go_wp2_with (at_builtin;refine bE _ rfl (.tmp 48) (.tmp 49) _ rfl 0 3 b3 (.int .i64 0) 1 8 underlying27 aP b0 b1 b2 rfl dC (.slice k d o) d _ rfl af.out _ _ _ _ _ rfl az.out (by simp [Value.oneCell']) (by unfold maxLen;omega) oM (zAp _) ?_;intro bk a9 a3 a1 aj;have K:=aw.out.grown a1 ax.out;have b9:=K.frozen 1;have b8:=K.cell 1;obtain ⟨ay,ab,av,T⟩:=hqq4 a3 a1 aj K;obtain ⟨H,I,rfl,aW⟩:=aR a3;clear a3 a1 aj K aW);go_ret;have aS:Keep F w a9:=ad.out.grown ab.out (λS aQ=>.inl (ae.out S aQ));have aM:=T.out.set 1 (.slice H (d+2) I)
 have aY:=World.ownsRow.kept ag.out ab.out (by
  rcases hh:(Value.slice k d o).ownBlock with _ | b4
  .right;simp [Value.ownBlock]
  .right;intro s;have aI:gt=b4:=(by simpa [Value.ownBlock] using s);subst aI;rcases af.out.2 with ⟨c,_⟩|⟨ai,cap,b6,c,_,W,_⟩
   .rw [c] at hh;simp [Value.ownBlock] at hh
   .rw [c] at hh;have aJ:ai=gt:=(by simpa [Value.ownBlock] using hh);subst aJ;exact bC ag.out (t:=3) W dC rfl)
 have aZ:=aC (w':=a9.setCell ⟨ga,1,none⟩ (.slice H (d+2) I)) aY λz V _ g=>g.m (Bk.ne g T.out dC) _;have aX:=aC (w':=a9.setCell ⟨ga,1,none⟩ (.slice H (d+2) I)) ay.out λz V _ g=>g.m (Bk.ne g T.out dC) _;have bi:=ad.out.size;refine ⟨rfl,⟨.inl Y,some ⟨gt,0,none⟩,m,H,I,?_,?_,?_,?_,?_⟩,?_⟩;rw [zAt,zAt,aa.out,zAi,U.out];exact aM;rw [zAt,zAt,aa.out];exact aZ;rw [zAi,U.out,zAz];exact aX;exact OwnF.slice (.inl Z);intro z f;rw [zAi,U.out] at f;rcases av.out with x | x;exact .inl (ae.out z (x.symm.trans f));have ah:=x.symm.trans f;injection ah with ah;exact .inr oM;exact ka (F:=F) aS (p:=⟨ga,1,none⟩) (.inl Y) _
section
variable {w w' : World} {F Fa : Nat -> Prop} {gt ga cap n : Nat} {A : Option Addr} {xs : List Value} {tk tk' : List Bool} {fr fr' : List Nat} {rt v : Int}
def TX.bb (f:TX w F gt ga A cap n xs tk fr rt v) (t:∀a,w.heap.size<=a->F a) (l:∀a,Fa a->F a) (q:∀a b d,Fa a->Bk w a b d->b=183∨b=4∨b=3) (r:ArenaE w' (Gw Fa w.heap.size) ga tk' fr') (g:Keep Fa w w') (u:tk'.length=n) (x:∀j,j < n->tk'[j]?=some (decide (j∉fr'))):
 TX w' F gt ga A cap n xs tk' fr' rt v/\LK F [] w w':=by
 have k:∀a b d,Bk w a b d->b≠183->b≠4->b≠3->¬Fa a:=λa b d g m o p s=>by rcases q a b d s g with c | c | c;exact m c;exact o c;exact p c
 refine ⟨⟨f.W,⟨g.d f.rd.a (k _ _ _ f.rd.a dC dC dC),aC f.rd.row λa d _ i=>g.d i (k _ _ _ i dC dC dC)⟩,f.own,r.mono λa _ e=>?_,u,x⟩,LK.of g (λa _ c=>l a c) λa d c i=>k a _ d i dC dC dC c⟩;rcases e with e | e;exact l a e;exact t a e
end
def aMn {F gt ga cap n a e A xs tk fr rt v w} (c:TX w F gt ga A cap n xs tk fr rt v) (m:∀d,w.heap.size<=d->F d) (o:a < n) (p:a∉fr) (r:Bk w e 3 #[(a:Int)]) (q:fr.length<=1000000):
 Calls prog 223 #[ga,.slice (some e) 1 1] w λb w'=>b=.returned (.int .i64 0)/\TX w' F gt ga A cap n xs (tk.set a false) (fr++ [a]) rt v/\LK F [] w w':=by
 obtain ⟨Fa,j,k,u,l⟩:=c.V.own;refine (aFN l (by rw [c.au a o];simp [p]) r q).mono ?_;rintro b w' ⟨rfl,i,s⟩;have:=c.bb m j k i s (by rw [zAt];exact c.Y) λg f=>by
  by_cases b:g=a
  .subst b;rw [zDq (by rw [c.Y];exact f)];simp
  .rw [zDr (λt=>b t.symm),c.au g f];simp [b]
 exact ⟨rfl,this⟩
def aBn {F gt ga cap n b c k A xs tk fr rt v w} (a:TX w F gt ga A cap n xs tk fr rt v) (q:∀j,w.heap.size<=j->F j) (r:b < n) (t:b∉fr) (s:c < n) (u:c∉fr) (x:b≠c) (z:Bk w k 3 #[(b:Int),(c:Int)]) (y:fr.length<=1000000):
 Calls prog 223 #[ga,.slice (some k) 2 2] w λd w'=>d=.returned (.int .i64 0)/\TX w' F gt ga A cap n xs ((tk.set b false).set c false) (fr++ [b,c]) rt v/\LK F [] w w':=by
 obtain ⟨Fa,m,o,C,p⟩:=a.V.own;refine (aJO p (by rw [a.au b r];simp [t]) (by rw [a.au c s];simp [u]) x z y).mono ?_;rintro d w' ⟨rfl,l,B⟩;have:=a.bb q m o l B (by rw [zAt,zAt];exact a.Y) λg f=>by
  by_cases e:g=c
  .subst e;rw [zDq (by rw [zAt,a.Y];exact f)];simp
  .rw [zDr (λi=>e i.symm)];by_cases d:g=b
   .subst d;rw [zDq (by rw [a.Y];exact f)];simp
   .rw [zDr (λi=>d i.symm),a.au g f];simp [d,e]
 exact ⟨rfl,this⟩
end Go.Proofs.YtknjfpcdhdmghaaGreatDoor
