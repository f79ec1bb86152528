/- Lemmas of the walk. Conditions: each its own. -/
import Derived.Test.YtnmapianpjamnaaGreatDoorPc5
import Derived.Test.YtnmapianpjamnaaGreatDoorPc6
import Derived.Test.YtnmapianpjamnaaGreatDoorProg
set_option linter.all false
set_option maxRecDepth 100000
set_option maxHeartbeats 4000000
open Go.Proofs.Tryz
namespace Go.Proofs.YtnmapianpjamnaaGreatDoor
open Go.RowKit
def aB6 (b:Nat) (bs:List Bool):Value->World->Prop:=fun v w=>∃a,v=.tuple #[.pointer (some ⟨a,0,none⟩),.int .i64 0]/\Bk w a 240 (cC bs)/\b<=a
def aDA (b:Nat) (bs:List Bool):Value->World->Prop:=fun v w=>∃a,v=.pointer (some ⟨a,0,none⟩)/\Bk w a 240 (cC bs)/\b<=a
def aBy (a:Nat) (bs:List Bool):sI (fun _=>False) (aB6 a bs):=fun _ _ _ ⟨b,d,e,f⟩ g=>⟨b,d,g.bk e (fun c=>c),f⟩
def aBz (a:Nat) (bs:List Bool):sI (fun _=>False) (aDA a bs):=fun _ _ _ ⟨b,d,e,f⟩ g=>⟨b,d,g.bk e (fun c=>c),f⟩
def aBA:∀w,(sizeOf 4).run prog w=.ok 1 w:=fun w=>by kernel_rfl
def aEA {a b c:Nat} (e:a*b=c) (f:c<=4000000):IntKind.i64.wrap ((a:Int)*(b:Int))=((c:Nat):Int):=by
 have d:(a:Int)*(b:Int)=((c:Nat):Int):=by rw [<-e];exact (Int.natCast_mul a b).symm
 rw [d,IntKind.wrap_i64];omega
def aEB {a b c:Nat} (e:a / b=c) (f:c<=4000000):IntKind.i64.wrap ((a:Int)/(b:Int))=((c:Nat):Int):=by
 have d:(a:Int)/(b:Int)=((c:Nat):Int):=by rw [<-e];exact (Int.natCast_ediv a b).symm
 rw [d,IntKind.wrap_i64];omega
def aEQ {w:World} {d n c a b:Nat} {A:Option Addr} {f:List Bool} (g:Rd w d 1 A n (f.map Value.bool)) (i:a<=b) (j:b<=n) (k:n<=c):Rd w d 1 (jY A c a 1) (b - a) (((f.take b).drop a).map Value.bool):=by
 have e:=(g.cut_hi j).cut (cap:=c) i oM;rw [zBl,zBl,<-List.map_take,<-List.map_drop] at e;exact e
def aAM (F:Nat->Prop) (gt n:Nat) (xs:List Value) (fr:List Nat) (rt v:Int) (A:Option Addr) (d e M f p m g l B C:Nat) (bs c:List Bool) (w:World) (r:TS w F gt n xs fr rt v) (U:∀x,w.heap.size<=x->F x) (am:n<=100000) (X:wX n fr)
 (Y:Rd w M 1 A d (bs.map Value.bool)) (hB:M<=w.heap.size) (al:d<=e) (W:d<=2000) (aS:0 < f) (aU:f<=1000) (ht:m=p+1) (ap:m<=f) (t:d*p=B) (s:d*m=C) (K:B / f=g) (y:C / f=l) (ak:l - g<=128) (T:(bs.take l).drop g=c) (ah:c.length<=128):
 Calls prog 170 #[gt,.slice A d e,(p:Int),(m:Int),(f:Int)] w fun D w'=>∃z G,D=.returned (.int .i64 ((z:Nat):Int))/\aAZ F gt n xs fr rt v (gM (c.length:Int) ((c.count true:Nat):Int) G) w z w'/\Bk w' G 240 (cC c)/\w.heap.size<=G:=by
 have a0:g<=l:=by rw [<-K,<-y,<-t,<-s];exact Nat.div_le_div_right (Nat.mul_le_mul_left _ oM)
 have aq:l<=d:=by rw [<-y,<-s];exact Nat.div_le_of_le_mul (by rw [Nat.mul_comm];exact Nat.mul_le_mul_right _ ap)
 have aW:B<=2000*1000:=by rw [<-t];exact Nat.mul_le_mul W oM
 have aX:C<=2000*1000:=by rw [<-s];exact Nat.mul_le_mul W oM
 have ag:¬(f:Int)=0:=oM;have aV:¬f=0:=oM;have aT:((f:Int)==0)=false:=zCb.2 ag;have aY:(m:Int) -(p:Int)=1:=oM;have hcut:=uO (P:=prog) 138 4 1 underlying138 aBA A d e g l a0 oM;replace t:=lhd t;replace s:=lhd s;obtain ⟨a9,ab,aa,ac,a5,a3,a8,a6,a7⟩:=hqq9 K y a0 aq T r (Y.mono hB) U X;have aD:=lhd ht;clear r Y U X K y T ht;go_enter func170,ntmps170;go_wp2_with fail;refine wp_region_any kR ?_;refine bL [20,21,22,23,24,25,26,27,28,29,30,31,32,33,34,19,35,36,11,12] (fun _=>False) 19 [] (fun _=>True) (cR) [is (.slice A d e),is (.slice A d e),is (d:Int),is (p:Int),is (.int .i64 ((B:Nat):Int)),is (f:Int),is (g:Int),is (.slice A d e),is (d:Int),is (m:Int),is (.int .i64 ((C:Nat):Int)),is (f:Int),is (l:Int),is (.slice (jY A e g 1) (l - g) (e - g)),aB6 w.heap.size c,aB6 w.heap.size c,aDA w.heap.size c,is (.int .i64 0),aDA w.heap.size c,cR] _ _ rfl kR kR (trivial) (fun _ _ _ _ _=>trivial) (fun _ _ _ _ _=>trivial) (by repeat' (first | exact kO _ _ | exact iG _ | exact aBy _ _ | exact aBz _ _ |(refine zAe.2 ⟨?_,?_⟩)|(intro b0 J;cases J))) ?_ ?_
 · refine aZ ?_;refine pH3 1 (.slice A d e) ?_;refine pH3 1 (.slice A d e) ?_;refine pV3 1 21 ?_;refine pH3 2 (.int .i64 (p:Int)) ?_;refine sC3 (fun _ _ _ _ _ _ _ a _ _ _ b=>?_) ?_
   · have aF:_=_:=a 2 22 kR rfl;have aI:_=_:=a 3 23 kR rfl;go_simp;exact b _ _ (aG bR) (dF (aEA t.out oM))
   refine pH3 4 (.int .i64 (f:Int)) ?_;refine sC3 (fun _ _ _ _ _ _ _ a _ _ _ b=>?_) ?_
   · have aJ:_=_:=a 4 24 kR rfl;have aK:_=_:=a 5 25 kR rfl;go_simp;exact b _ _ (aG bR) (dF (aEB a9.out oM))
   refine pH3 1 (.slice A d e) ?_;refine pV3 7 27 ?_;refine pH3 3 (.int .i64 (m:Int)) ?_;refine sC3 (fun _ _ _ _ _ _ _ a _ _ _ b=>?_) ?_
   · have aM:_=_:=a 8 28 kR rfl;have aN:_=_:=a 9 29 kR rfl;go_simp;exact b _ _ (aG bR) (dF (aEA s.out oM))
   refine pH3 4 (.int .i64 (f:Int)) ?_;refine sC3 (fun _ _ _ _ _ _ _ a _ _ _ b=>?_) ?_
   · have aO:_=_:=a 10 30 kR rfl;have aP:_=_:=a 11 31 kR rfl;go_simp;exact b _ _ (aG bR) (dF (aEB ab.out oM))
   refine sC3 (fun _ _ _ _ _ _ _ a _ _ _ b=>?_) ?_
   · have aE:_=_:=a 0 20 kR rfl;have aL:_=_:=a 6 26 kR rfl;have aQ:_=_:=a 12 32 kR rfl;go_simp;exact kq b rfl
   refine sC3 (fun _ k i _ _ _ _ a _ _ _ b=>?_) ?_
   · replace i:Keep (fun _=>False) w k:=kD i;have aR:_=_:=a 13 33 kR rfl;go_simp;have an:=i.rd a8.out nL (fun _ _ r=>r);have Z:=aEQ an aa.out ac.out al;rw [a5.out] at Z;refine (eA (jY A e g 1) (l - g) (e - g) w.heap.size c k Z i.size ak).mono ?_;rintro D b4 ⟨rfl,af,aj⟩;exact b _ _ (aG aj) ⟨_,rfl,af,i.size⟩
   refine sC3 (fun j k _ _ _ _ _ a _ _ _ b=>?_) ?_
   · have av:(aB6 w.heap.size c) (j (.tmp 34)) k:=a 14 34 kR rfl;go_simp;exact b _ _ (aG bR) av
   refine sC3 (fun j k _ _ _ _ _ a _ _ H b=>?_) ?_
   · have L:(aB6 w.heap.size c) (j (.tmp 19)) k:=a 15 19 kR rfl;go_simp;obtain ⟨q,E,S,V⟩:=L;subst H;rw [E];go_simp;exact b _ _ (aG bR) ⟨q,rfl,S,V⟩
   refine sC3 (fun j k _ _ _ _ _ a _ _ H b=>?_) ?_
   · have L:(aB6 w.heap.size c) (j (.tmp 19)) k:=a 15 19 kR rfl;go_simp;obtain ⟨q,E,S,V⟩:=L;subst H;rw [E];go_simp;exact kq b rfl
   refine sC3 (fun j k _ _ _ _ _ a _ _ _ b=>?_) ?_
   · have aw:(aDA w.heap.size c) (j (.tmp 35)) k:=a 16 35 kR rfl;go_simp;exact b _ _ (aG bR) aw
   refine sC3 (fun _ _ _ _ _ _ _ a _ _ _ b=>?_) ?_
   · have O:_=_:=a 17 36 kR rfl;go_simp;exact b _ _ (aG bR) trivial
   exact aH
 · intro j u i a Q;replace i:Keep (fun _=>False) w u:=kD i;have au:(aDA w.heap.size c) (j (.tmp 11)) u:=a 18 11 rfl;have O:j (.tmp 36)=.int .i64 0:=a 17 36 rfl;obtain ⟨b2,b1⟩:∃aB,(cR) aB u:=Q 19 dC;simp only [zqq];rw [O];clear a Q;obtain ⟨q,ad,R,ai⟩:=au;rw [ad];have I:Below w.heap.size w u:=i.to_below nL (fun _ _ r=>r);have ao:=i.size;obtain ⟨a2,a4,N⟩:=hqq3 I (a3.out.below I) R;clear i I R;go_wp2_with fail;refine (rP F gt n q xs fr rt v c u a4.out (fun x ae=>a6.out x (zAk ao ae)) am a7.out N.out ah).mono ?_;rintro D b3 ⟨z,rfl,J⟩;go_wp2_with fail;go_ret;obtain ⟨ar,aC,fr',ax,ay,az,aA,a1⟩:=J;exact ⟨z,q,rfl,⟨ar,aC,fr',ax,ay,az,aA,(LK.below a2.out).trans a1⟩,a1.blk q _ (by simp) N.out,ai⟩
def aEy (F:Nat->Prop) (gt n:Nat) (e:List Nat) (xs:List Value) (rt v:Int) (g:Nat) (f:Tr) (w:World) (i:Ending) (w':World):Prop:=
 ∃(a:LT) (b:Nat) (c:List Value),i=.returned (.int .i64 ((a.num:Nat):Int))/\TS w' F gt b c [] rt v/\a.er=f/\a.In w' c/\(a.nums++e).Perm (List.range b)/\b+1=n+2*g/\a.blks.Nodup/\(∀d,d∈a.blks->w.heap.size<=d)/\ButL [] xs c/\LK F [] w w'
def aBl {n a b:Nat} {fr':List Nat} (c:Got n [] a b fr'):a=n/\b=n+1/\fr'= []:=by
 rcases c with ⟨d,_,_⟩|⟨_,e,f,g⟩
 · simp at d
 exact ⟨by omega,by omega,by assumption⟩
def yA (n:Nat):wX n []:=⟨List.nodup_nil,fun c b=>by simp at b,fun a=>absurd rfl a⟩
def aDs (bs:List Bool) (a b c:Nat):(Tr.cut bs a b c).length<=bs.length:=by
 unfold Tr.cut;rw [zAw,zAj];exact zAk (Nat.sub_le _ _) (Nat.min_le_right _ _)
def aB5 {F:Nat->Prop} {gt n a c:Nat} {d:List Nat} {xs:List Value} {rt v:Int} {b:List Bool} {w w':World} (i:d.Perm (List.range n)) (g:aAZ F gt n xs [] rt v (gM (b.length:Int) ((b.count true:Nat):Int) c) w a w') (j:Bk w' c 240 (cC b)) (x:w.heap.size<=c) (l:xs.length=n*8):
 aEy F gt n d xs rt v 1 (.lf b) w (.returned (.int .i64 ((a:Nat):Int))) w':=by
 obtain ⟨z,u,fr',p,q,r,s,t⟩:=g;obtain ⟨rfl,rfl,rfl⟩:=aBl p;refine ⟨.lf a c b,a+1,u,rfl,q,rfl,⟨r,j⟩,?_,by omega,by simp [LT.blks],?_,?_,t⟩;show ([a]++d).Perm (List.range (a+1));rw [List.range_succ];exact (i.cons a).trans (List.perm_append_singleton a _).symm;intro B k;simp [LT.blks] at k;omega;intro m f y e;refine s m f ?_ e;have:=e.lt l;omega
def lB {w:World} {xs:List Value}:∀ {e:LT},e.In w xs->∀a,a∈e.blks->a < w.heap.size
 | .lf _ _ _,c,a,d=>by have b:a∈ [_]:=d;rw [List.mem_singleton] at b;subst b;exact c.2.lt
 | .nd _ f g,c,a,d=>by have b:a∈f.blks++g.blks:=d;rw [zCm] at b;exact b.elim (lB c.2.1 a) (lB c.2.2 a)
def aB4 {F:Nat->Prop} {gt n B j f t u:Nat} {r:List Nat} {xs p g:List Value} {rt v:Int} {q s:Tr} {a d:LT} {w w1 m D:World} (K:a.er=q) (L:d.er=s) (R:a.In w1 p) (U:d.In m g) (T:(d.nums++(a.nums++r)).Perm (List.range j)) (a4:B+1=n+2*t) (a5:j+1=B+2*u)
 (H:a.blks.Nodup) (I:d.blks.Nodup) (M:∀c,c∈a.blks->w.heap.size<=c) (x:∀c,c∈d.blks->w1.heap.size<=c) (Q:∀c,c∈a.blks->c < w1.heap.size) (a2:ButL [] xs p) (C:ButL [] p g) (y:LK F [] w w1) (z:LK F [] w1 m) (W:g.length=j*8)
 (b:aAZ F gt j g [] rt v (ndL a.num d.num ((max a.ht d.ht+1:Nat):Int) ((a.len+d.len:Nat):Int) ((a.on+d.on:Nat):Int) a.len a.on) m f D):
 aEy F gt n r xs rt v (t+u) (.nd q s) w (.returned (.int .i64 ((f:Nat):Int))) D:=by
 obtain ⟨a7,E,fr',Y,Z,a0,a1,k⟩:=b;obtain ⟨rfl,rfl,rfl⟩:=aBl Y;have l:ButL [] g E:=by intro X J a6 i;refine a1 X J ?_ i;have:=i.lt W;omega
 have S:=R.but C z (fun _ _ b=>by simp at b) (fun _ _ b=>by simp at b);have V:=y.keep.size;refine ⟨.nd f a d,f+1,E,rfl,Z,by rw [<-K,<-L];rfl,⟨a0,S.but l k (fun _ _ b=>by simp at b) (fun _ _ b=>by simp at b),U.but l k (fun _ _ b=>by simp at b) (fun _ _ b=>by simp at b)⟩,?_,by omega,?_,?_,(a2.trans C).trans l,(y.trans z).trans k⟩;rw [List.range_succ];refine List.Perm.trans ?_ ((T.cons f).trans (List.perm_append_singleton f _).symm);rw [List.perm_iff_count];intro a8;simp only [LT.nums,List.count_cons,zCc];omega;show (a.blks++d.blks).Nodup;rw [List.nodup_append];refine ⟨H,I,fun i N G O a3=>?_⟩;have:=Q i N;have:=x G O;omega;intro c P;have e:c∈a.blks++d.blks:=P;rw [zCm] at e;rcases e with e | e;exact M c e;exact zAk V (x c e)
def aCn (F:Nat->Prop) (gt:Nat) (rt v:Int) (A:Option Addr) (q C t d:Nat) (bs:List Bool) (aL:q<=C) (aK:q<=2000) (ab:0 < d) (aG:d<=1000) (a9:bs.length=q) (aF:∀j,j < t->¬F j) (ad:∀a,a < d->(Tr.cut bs d a (a+1)).length<=128):
 ∀(l a b n:Nat) (xs:List Value) (i:List Nat) (w:World),a < b->b - a<=l+1->b<=d->TS w F gt n xs [] rt v->(∀j,w.heap.size<=j->F j)->n+2*(b - a)<=10000->i.Perm (List.range n)->Rd w t 1 A q (bs.map Value.bool)->t<=w.heap.size->
 Calls prog 170 #[gt,.slice A q C,(a:Int),(b:Int),(d:Int)] w (aEy F gt n i xs rt v (b - a) (Tr.bld bs d l a b) w):=by
 have V:∀(a b n:Nat) (xs:List Value) (i:List Nat) (w:World),b=a+1->b<=d->TS w F gt n xs [] rt v->(∀j,w.heap.size<=j->F j)->n+2*(b - a)<=10000->i.Perm (List.range n)->Rd w t 1 A q (bs.map Value.bool)->t<=w.heap.size->
  Calls prog 170 #[gt,.slice A q C,(a:Int),(b:Int),(d:Int)] w (aEy F gt n i xs rt v (b - a) (.lf (Tr.cut bs d a b)) w):=by
  intro a b n xs i w ht ae g m D r p hB;have ac:(Tr.cut bs d a b).length<=128:=by rw [ht];exact ad a oM
  have aa:=Tr.cut_len (bs:=bs) (f:=a) ab ae;rw [a9] at aa;have aO:=g.len;refine (aAM F gt n xs [] rt v A q C t d a b _ _ _ _ bs (Tr.cut bs d a b) w g m oM (yA n) p hB aL aK ab aG ht ae rfl rfl rfl rfl (by rw [<-aa];exact ac) (by rw [<-a9];rfl) ac).mono ?_;rintro N w' ⟨aQ,P,rfl,E,y,aI⟩;have O:b - a=1:=oM;rw [O];exact aB5 r E y aI aO
 intro l
 induction l with
 | zero=>
   intro a b n xs i w Q x R g m D r p hB;exact V a b n xs i w oM R g m D r p hB
 | succ l U=>
   intro a b n xs i w Q x R g m D r p hB;unfold Tr.bld;split;exact V a b n xs i w oM R g m D r p hB
   · rename_i b5
     obtain ⟨s,T⟩:=eqx ((a+b)/ 2);rw [T];have aM:¬((b:Int) -(a:Int)=1):=oM;have b6:((b:Int) -(a:Int)==1)=false:=zCb.2 aM;have b4:((a:Int)+(b:Int))/ 2=(s:Int):=oM;obtain ⟨ao,av,k,Z,au,aX⟩:=hqq6 (U a s n xs i w oM oM oM g m oM r p hB) U T m p g.len;have aY:n<=10000:=oM;clear U V g m p r T ad;go_enter func170,ntmps170;go_wp2_with fail;refine ao.out.mono ?_;rintro N w1 ⟨c,aR,aV,rfl,L,a0,a1,a2,a3,a4,z⟩;have aJ:c.blks.Nodup/\(∀P,P∈c.blks->w.heap.size<=P):=⟨a4,z.1⟩;have S:=z.2.2.keep;have ap:=lhd (S.rd au.out hB aF);have G:=S.size;obtain ⟨aq,aW,H,I,X,J,ah,ar⟩:=hqq8 (av.out s b aR aV (c.nums++i) w1 oM oM oM L (fun j y=>Z.out j (zAk G y)) oM a2 ap.out (zAk hB G)) L a0 a1 a3 z a4 G;clear L a0 a1 a2 z aJ S G a3;go_wp2_with fail;refine aq.out.mono ?_;rintro N aU ⟨e,af,W,rfl,b2,B,M,a7,aw,ax,u⟩;have ag:=I.out.but u.2.1 u.2.2 (fun _ _ g=>by simp at g) (fun _ _ g=>by simp at g);obtain ⟨ay,az,aA,aB,aS,a8⟩:=c.cel;obtain ⟨aC,O,aD,aE,aT,er⟩:=e.cel;have a5:At8 W c.num (oB ay az c.ht c.len c.on aA aB aS):=a8 ▸ ag.at
     have a6:At8 W e.num (oB aC O e.ht e.len e.on aD aE aT):=er ▸ M.at
     have aN:=u.2.2.keep.size;have aZ:c.len<=2000:=(by show c.er.bits.length<=2000;rw [H.out,Tr.bld_bits bs d l _ _ (by have:=k.out;omega) (by have:=k.out;omega)];exact zAk (aDs _ _ _ _) oM);have b0:e.len<=2000:=(by show e.er.bits.length<=2000;rw [B,Tr.bld_bits bs d l _ _ (by have:=k.out;omega) (by have:=k.out;omega)];exact zAk (aDs _ _ _ _) oM);have b1:c.ht<=100000:=(by have Q:=Tr.ht_lv c.er;have x:=Tr.bld_lv bs d l a s (by have:=k.out;omega) (by have:=k.out;omega);rw [<-H.out] at x;show c.er.ht<=100000;omega);have b3:e.ht<=100000:=(by have Q:=Tr.ht_lv e.er;have x:=Tr.bld_lv bs d l s b (by have:=k.out;omega) (by have:=k.out;omega);rw [<-B] at x;show e.er.ht<=100000;omega);have b7:=c.on_le;have b8:=e.on_le;have aP:=b2.len;obtain ⟨ai,aj,ak,am,an,K,al⟩:=hqq7 a5 a6 b2 M a7 u B;clear a5 a6 ag b2 M a7 u B a8 er;go_wp2_with fail;refine (zE F gt af c.num e.num c.ht e.ht c.len e.len c.on e.on W [] rt v aU ak.out (fun j y=>Z.out j (zAk ar.out (zAk aN y))) (by have:=X.out;omega) (yA af) (by simp) (by simp) ai.out aj.out oM oM oM oM oM oM).mono ?_;rintro N b9 ⟨aQ,rfl,E⟩;have aH:(s - a)+(b - s)=b - a:=(by have:=k.out;omega);have Y:=lhd (aB4 H.out al.out I.out am.out an.out X.out aw ah.out ax J.out.1 K.out.1 (lB I.out) J.out.2.1 K.out.2.1 J.out.2.2 K.out.2.2 aP E);rw [aH] at Y;clear E;go_wp2_with fail;go_ret;exact Y.out
namespace Tr
def full_lv:∀ {b:Tr},b.Full->b.lv*32<=b.bits.length
 | lf c,a=>by have:=a.1;simp only [lv,bits];omega
 | nd f g,a=>by have d:=full_lv a.1;have e:=full_lv a.2;simp only [lv,bits,zAi];omega
def Ok.ht_len {a:Tr} (b:a.Ok):a.ht<=a.bits.length:=by
 cases a with
 | lf e=>simp [ht]
 | nd c d=>
   have f:=full_lv b.2;have g:=ht_lv (nd c d);omega
def Ok.pos {a:Tr} (b:a.Ok):0 < a.bits.length:=by
 cases a with
 | lf e=>exact b.1
 | nd c d=>
   have f:=full_lv b.2;have g:=ht_lv (nd c d);omega
end Tr
def bK:Option Tr->List Bool
 | none=> []
 | some a=>a.bits
def TreeO (w:World) (gt:Nat) (o:Option Tr):Prop:=
 ∃(ga:Nat) (A:Option Addr) (cap n:Nat) (xs:List Value) (rt v:Int),TR w gt ga A cap n xs rt v/\((o=none/\rt=-1)∨∃a:LT,o=some a.er/\a.In w xs/\rt=(a.num:Int)/\a.er.Ok/\a.len<=1100)
def TreeAt (w:World) (gt:Nat) (bs:List Bool):Prop:=∃o,bK o=bs/\TreeO w gt o
section
variable {w w' : World} {gt : Nat} {bs : List Bool} {o : Option Tr}
def TreeO.vis (d:TreeO w gt o) (b:Vis w w'):TreeO w' gt o:=by
 obtain ⟨ga,A,cap,n,xs,rt,v,e,a⟩:=d;obtain ⟨k,f⟩:=e.vis b;refine ⟨ga,A,cap,n,xs,rt,k,f,?_⟩;rcases a with a |⟨j,c,i,g⟩;exact .inl a;exact .inr ⟨j,c,i.vis b,g⟩
def TreeO.same (i:TreeO w gt o) (e:∀c a b,a∈ [205,228,220,240,4]->Bk w c a b->Bk w' c a b):TreeO w' gt o:=by
 obtain ⟨ga,A,cap,n,xs,rt,v,j,d⟩:=i;refine ⟨ga,A,cap,n,xs,rt,v,j.same fun c a b ht=>e c a b (by simp at ht;rcases ht with rfl | rfl <;> decide),?_⟩;rcases d with d |⟨a,g,m,k⟩;exact .inl d;exact .inr ⟨a,g,m.keep (fun _ _ _ f=>f) (fun p _ b l=>e _ _ _ dC l),k⟩
def TreeO.lt (a:TreeO w gt o):gt < w.heap.size:=by
 obtain ⟨ga,A,cap,n,xs,rt,v,b,c⟩:=a;exact b.blk.lt
def TreeO.le (a:TreeO w gt o):(bK o).length<=1100:=by
 obtain ⟨ga,A,cap,n,xs,rt,v,d,⟨rfl,_⟩|⟨g,rfl,f,c,e,b⟩⟩:=a;exact zAp _;exact b
def TreeAt.vis (a:TreeAt w gt bs) (c:Vis w w'):TreeAt w' gt bs:=by
 obtain ⟨o,b,a⟩:=a;exact ⟨o,b,a.vis c⟩
def TreeAt.same (a:TreeAt w gt bs) (f:∀c b d,b∈ [205,228,220,240,4]->Bk w c b d->Bk w' c b d):TreeAt w' gt bs:=by
 obtain ⟨o,e,a⟩:=a;exact ⟨o,e,a.same f⟩
def TreeAt.below (b:TreeAt w gt bs) (c:Below w.heap.size w w'):TreeAt w' gt bs:=b.same fun d f e _ a=>a.below c a.lt
def TreeAt.lt (a:TreeAt w gt bs):gt < w.heap.size:=by
 obtain ⟨o,b,a⟩:=a;exact a.lt
def TreeAt.le (a:TreeAt w gt bs):bs.length<=1100:=by
 obtain ⟨o,rfl,a⟩:=a;exact a.le
def TreeO.visits (a:TreeO w gt o):∃v,w.cell? ⟨gt,3,none⟩=some (.int .i64 v):=by
 obtain ⟨ga,A,cap,n,xs,rt,v,b,c⟩:=a;exact ⟨v,b.c3⟩
def TreeAt.visits (a:TreeAt w gt bs):∃v,w.cell? ⟨gt,3,none⟩=some (.int .i64 v):=by
 obtain ⟨o,b,a⟩:=a;exact a.visits
def TreeO.blk (b:TreeO w gt o):∃a,Bk w gt 205 a/\3 < a.size:=by
 obtain ⟨ga,A,cap,n,xs,rt,v,c,d⟩:=b;exact ⟨_,c.blk,by simp⟩
end
def fE (gt:Nat) (o:Option Tr) (w:World) (g:TreeO w gt o):
 Calls prog 120 #[gt] w fun d w'=>d=.returned (.int .i64 ((bK o).length:Int))/\Below w.heap.size w w':=by
 obtain ⟨ga,A,cap,n,xs,rt,v,a,⟨rfl,rfl⟩|⟨b,rfl,c,rfl,i,j⟩⟩:=g
 · have f:=a.c2;clear a;go_enter func120,ntmps120;go_wp2;go_ret;exact ⟨rfl,Below.refl _ _⟩
 · obtain ⟨y,u,rfl,k⟩:=a.ex (by have:=c.at.lt a.len;omega);obtain ⟨p,q,r,s,C,e⟩:=b.cel;obtain ⟨_,_,_,x,_⟩:=a.at (show At8 xs b.num [_,_,_,_,_,_,_,_] from e ▸ c.at);have t:=a.c1;have f:=a.c2;have z:(b.num:Int) < (n:Int):=(by have:=c.at.lt a.len;omega);have l:(b.num:Int)≠-1:=oM;have B:((b.num:Int)==-1)=false:=zCb.2 l;generalize b.num=tn at*
   show Calls _ _ _ w fun d w'=>d=.returned (.int .i64 (b.len:Int))/\_;generalize b.len=m at*
   clear c a e k i j;go_enter func120,ntmps120;go_wp2;go_quiet (fail);go_wp2;go_ret;exact ⟨rfl,below_drewN bR _⟩
def aAV (gt:Nat) (o:Option Tr) (w:World) (g:TreeO w gt o):
 Calls prog 261 #[gt] w fun d w'=>d=.returned (.int .i64 (((bK o).count true:Nat):Int))/\Below w.heap.size w w':=by
 obtain ⟨ga,A,cap,n,xs,rt,v,a,⟨rfl,rfl⟩|⟨b,rfl,c,rfl,i,j⟩⟩:=g
 · have f:=a.c2;clear a;go_enter func261,ntmps261;go_wp2;go_ret;exact ⟨rfl,Below.refl _ _⟩
 · obtain ⟨y,u,rfl,k⟩:=a.ex (by have:=c.at.lt a.len;omega);obtain ⟨p,q,r,s,C,e⟩:=b.cel;obtain ⟨_,_,_,_,x,_⟩:=a.at (show At8 xs b.num [_,_,_,_,_,_,_,_] from e ▸ c.at);have t:=a.c1;have f:=a.c2;have z:(b.num:Int) < (n:Int):=(by have:=c.at.lt a.len;omega);have l:(b.num:Int)≠-1:=oM;have B:((b.num:Int)==-1)=false:=zCb.2 l;generalize b.num=tn at*
   show Calls _ _ _ w fun d w'=>d=.returned (.int .i64 (b.on:Int))/\_;generalize b.on=m at*
   clear c a e k i j;go_enter func261,ntmps261;go_wp2;go_quiet (fail);go_wp2;go_ret;exact ⟨rfl,below_drewN bR _⟩
def dX (gt:Nat) (v:Int) (w:World) (b:w.cell? ⟨gt,3,none⟩=some (.int .i64 v)):
 Calls prog 190 #[gt] w fun a w'=>a=.returned (.int .i64 v)/\Below w.heap.size w w':=by
 go_enter func190,ntmps190;go_wp2;go_ret;exact ⟨rfl,Below.refl _ _⟩
def jT (n o:Nat) (a:Bool) (w:World) (c:n<=100000) (d:o<=n):
 Calls prog 237 #[(n:Int),(o:Int),.bool a] w fun b w'=>b=.returned (.int .i64 ((if a then o else n - o:Nat):Int))/\Below w.heap.size w w':=by
 cases a
 · go_enter func237,ntmps237;go_wp2;go_ret;exact ⟨cT oM,Below.refl _ _⟩
 · go_enter func237,ntmps237;go_wp2;go_ret;exact ⟨cT (by simp),Below.refl _ _⟩
def lV (a:List Bool):a.count true+a.count false=a.length:=by
 induction a with
 | nil=>rfl
 | cons b a c=>cases b <;> simp <;> omega
def lT (a:List Bool) (b:Bool):(if b then a.count true else a.length - a.count true)=a.count b:=by
 have:=lV a;cases b;simp;omega
 · simp
def gO (w:World) (a:Nat) (v:Value):Nat:=match w.cell? ⟨a,(intOf v).toNat*8+2,none⟩ with
 | some (.int _ b)=>b.toNat
 | _=>0
def gC {w:World} {gt ga b cap n:Nat} {xs:List Value} {rt v:Int} {a:LT} (e:TR w gt ga (some ⟨b,0,none⟩) cap n xs rt v) (f:a.In w xs):gO w b (.int .i64 (a.num:Int))=a.ht:=by
 obtain ⟨g,i,j,k,l,d⟩:=a.cel;obtain ⟨_,_,c,_⟩:=e.at (show At8 xs a.num [_,_,_,_,_,_,_,_] from d ▸ f.at);unfold gO;rw [show (intOf (.int .i64 (a.num:Int))).toNat=a.num from rfl,c];rfl
def oA (a d:List Bool) (c:Nat) (b:Bool) (e:a.length<=c):((a++d).take c).count b=a.count b+(d.take (c - a.length)).count b:=by
 rw [List.take_append,zAg e,zCc]
def fC (w:World) (gt:Nat) (v:Value) (a:Array Value):Bk ((w.setCell ⟨gt,3,none⟩ v).alloc (.cells a 220)) w.heap.size 220 a:=by
 have b:=Bk.new (w.setCell ⟨gt,3,none⟩ v) 220 a;rwa [show (w.setCell ⟨gt,3,none⟩ v).heap.size=w.heap.size by simp [World.setCell]] at b
def xA {b a:Nat} (c:b=a) (ht:a<=1100):wrap64 (a:Int)=(b:Int):=by subst c;unfold wrap64;omega
structure AtSub (w:World) (xs:List Value) (s:LT):Prop where
 sub:s.In w xs
 le:s.er.Le
 len:s.len<=1100
def AtSub.l {w:World} {xs:List Value} {b:Nat} {l c:LT} (a:AtSub w xs (.nd b l c)):AtSub w xs l:=⟨a.sub.2.1,a.le.1,by have:=a.len;rw [LT.len_nd] at this;omega⟩
def AtSub.r {w:World} {xs:List Value} {c:Nat} {d b:LT} (a:AtSub w xs (.nd c d b)):AtSub w xs b:=⟨a.sub.2.2,a.le.2,by have:=a.len;rw [LT.len_nd] at this;omega⟩
def zS {v:Nat} (a:v<=100000):wrap64 ((v:Int)+1)=((v+1:Nat):Int):=by unfold wrap64;omega
def oht (o:Option Tr):Nat:=
 match o with
 | none=>0
 | some a=>a.ht
def RankV (gt b:Nat) (w':World):Prop:=∃a:Nat,a<=b/\w'.cell? ⟨gt,3,none⟩=some (.int .i64 (a:Int))
def RankV.of {gt v a:Nat} {b:Int} {k:TypeId} {c d e:Value} {w:World} (g:Bk w gt k #[c,d,e,.int .i64 b]) (j:b=wrap64 ((v:Int)+1)) (i:v<=100000) (f:v+1<=a):RankV gt a w:=⟨v+1,f,by rw [g.cell 3,j,zS i];rfl⟩
def aAU (gt:Nat) (o:Option Tr) (i:Nat) (b:Bool) (w:World) (a7:TreeO w gt o) (aY:i<=(bK o).length):
 Calls prog 195 #[gt,(i:Int),.bool b] w fun f w'=>f=.returned (.int .i64 ((((bK o).take i).count b:Nat):Int))/\VisK (fun b=>b=gt) w w'/\RankV gt (oht o+1) w':=by
 have bD:=a7.le;obtain ⟨br,N,aU⟩:=a7.blk;have ay:=VisK.set_tree N 0;have bc:=a7.vis ay.1;have bE:=N.lt;have aO:w.cell? ⟨gt,3,none⟩=some br[3]:=by rw [N.cell 3];simp [aU]
 have aR:=N.frozen 3;have bp:=lhd (show (w.setCell ⟨gt,3,none⟩ (.int .i64 0)).cell? ⟨gt,3,none⟩=some (.int .i64 0) by rw [(N.set 3 (.int .i64 0)).cell 3];simp [aU]);obtain ⟨bq,an⟩:=eqx ((bK o).length);rw [an] at aY bD;have bN:max (i:Int) 0=(i:Int):=oM;have cc:min (i:Int) (bq:Int)=(i:Int):=oM;obtain ⟨aD,aj,ag,bP⟩:=hqq4 ay bc an aY;clear a7 ay bc N an;go_enter func195,ntmps195;go_wp2_with fail;clear aO aR;refine (fE gt o _ aj.out).mono ?_;rintro f l ⟨rfl,a8⟩;rw [ag.out];clear bN;have aN:=lhd ((a8.cell (p:=⟨gt,3,none⟩) (by simpa [World.setCell] using bE)).trans bp.out);have y:=aD.out.below a8;have bd:=aj.out.vis (Vis.of_below a8);obtain ⟨aE,bo⟩:=hqq2 y bd;clear y bd aD aj a8;rcases zBa i with aZ | aZ
 · subst aZ;go_wp2_with fail;go_ret;exact ⟨rfl,aE.out,0,zAp _,aN.out⟩
 · have bG:¬((i:Int)=0):=oM;have c2:((i:Int)==0)=false:=zCb.2 bG;obtain ⟨ga,A,cap,n,xs,rt,v,M,⟨rfl,rfl⟩|⟨B,rfl,aq,rfl,L,am⟩⟩:=bo.out;have:=ag.out;simp [bK] at this;omega;obtain ⟨u,bU,rfl,aW⟩:=M.ex (by have:=aq.at.lt M.len;omega);obtain ⟨R,ax⟩:=eqx (((bK (some B.er)).take i).count b);have bM:R<=1100:=(by rw [<-ax];exact zAk zBv (by rw [zAj];omega));have bT:=M.c2;have c0:=M.blk.lt;have bY:=aW.lt;obtain ⟨ai,a2,bi,aM⟩:=hqq4 (show B.ht<=1100 from zAk L.ht_len am) M (show AtSub l xs B from ⟨aq,L.le,am⟩) ax;have bH:i<=B.len:=(by have:=ag.out;have f:(bK (some B.er)).length=B.len:=rfl;omega);clear M aq aW ax L am;go_wp2_with fail;go_loopw [1,7,8] (fun bO C m wr=>∃(t:LT) (a k:Nat),bO=.int .i64 (a:Int)/\C=.int .i64 ((t.num:Nat):Int)/\m=.int .i64 (k:Int)/\AtSub l xs t/\a<=t.len/\k+(t.bits.take a).count b=R/\VisK (fun b=>b=gt) l wr/\∃I:Nat,I+t.ht<=B.ht/\wr.cell? ⟨gt,3,none⟩=some (.int .i64 (I:Int))) (fun _ C _ _=>gO l u C)
   case atStart=>exact ⟨B,i,0,rfl,rfl,rfl,bi.out,bH,by rw [zBi];exact aM.out,VisK.refl _ _,0,by omega,aN.out⟩
   case round=>
    obtain ⟨t,a,k,rfl,rfl,rfl,q,aa,ad,P,I,bg,bf⟩:=hrel;obtain ⟨H,e⟩:=a2.out.vis P.1;have ak:=lhd (show H=(I:Int) by have f:=e.c3.symm.trans bf;injection f with f;injection f);have aA:=lhd (e.blk.set 3 (.int .i64 (wrap64 (H+1))));have U:=lhd bg;clear bf bg;have bS:=e.c1;have aO:=e.c3;have aR:=e.blk.frozen 3;have c1:=e.blk.lt;obtain ⟨bV,a9⟩:=cK e.row;have bZ:=a9.lt;have O:=q.sub.vis P.1;have c5:gt≠u:=Bk.ne e.blk a9 dC;have b2:(t.num:Int) < (n:Int):=(by have:=O.at.lt e.len;omega);have av:=gC a2.out q.sub;generalize ba:t.num=g at*
    cases t with
    | lf a0 a6 bs=>
      change a0=g at ba;subst a0;obtain ⟨az,au⟩:=eqx bs.length;obtain ⟨s,Y⟩:=eqx (bs.count true);obtain ⟨bt,bu,bv,aP,aQ,bw,bx,bz⟩:=e.at (show At8 xs g [_,_,_,_,_,_,_,_] from O.1);rw [au] at aP;rw [Y] at aQ;change (g:Int) < (n:Int) at b2;have bI:bs.length<=128:=q.le;have b3:a<=bs.length:=aa;have bb:k+(bs.take a).count b=R:=ad;have bF:gt≠wr.heap.size:=oM;have y:VisK (fun b=>b=gt) wr ((wr.setCell ⟨gt,3,none⟩ (.int .i64 (wrap64 (H+1)))).alloc (.cells #[.int .i64 (-1),.int .i64 (-1),.int .i64 0,(az:Int),(s:Int),.int .i64 0,.int .i64 0,a6] 220)):=(VisK.set_tree e.blk _).alloc _;have ap:=O.2;have aT:=(ap.far (p:=⟨gt,3,none⟩) (Bk.ne ap e.blk dC) (.int .i64 (wrap64 (H+1)))).alloc (.cells #[.int .i64 (-1),.int .i64 (-1),.int .i64 0,(az:Int),(s:Int),.int .i64 0,.int .i64 0,a6] 220);have a3:=lhd (P.trans y);have J:=lhd (aA.out.alloc (.cells #[.int .i64 (-1),.int .i64 (-1),.int .i64 0,(az:Int),(s:Int),.int .i64 0,.int .i64 0,a6] 220));obtain ⟨bh,a5,aH,S,bQ⟩:=hqq5 aT bb bI b3 au;clear q aa ad P e a9 O av y ap aT bb b3 au Y;go_wp2_with fail;refine (sV a6 bs a _ bh.out aH.out S.out).mono ?_;rintro f cd ⟨rfl,ao⟩;obtain ⟨C,ae⟩:=eqx (List.count true (List.take a bs));have bL:C<=a:=(by rw [<-ae];exact zAk zBv (by rw [zAj];omega));have b4:(if b then C else a - C)=(bs.take a).count b:=(by have K:(bs.take a).length=a:=(by rw [zAj];have:=S.out;omega);have D:=lT (bs.take a) b;rw [K,ae] at D;exact D);rw [ae];obtain ⟨aC,aF,aB⟩:=hqq3 b4 (a3.out.below ao) (J.out.below ao J.out.lt);have b1:a<=100000:=(by have:=S.out;have:=aH.out;omega);clear ae b4 ao;go_wp2_with fail;refine (jT a C b _ b1 bL).mono ?_;rintro f af ⟨rfl,x⟩;rw [aC.out];have be:=aF.out.below x;have a1:=lhd (aB.out.below x aB.out.lt);obtain ⟨m,z⟩:=eqx (List.count b (List.take a bs));have cb:k+m=R:=(by rw [<-z];exact a5.out);rw [z];have ah:=lhd (aE.out.trans be);have c8:wrap64 ((k:Int)+(m:Int))=(R:Int):=(by unfold wrap64;omega);have c9:((k:Int)+(m:Int))=(R:Int):=oM;clear z be x aC aF;go_wp2_with fail;go_ret;have V:=U.out;have E:=ai.out;exact ⟨cT (xA aM.out bM),ah.out,RankV.of (v:=I) a1.out (by rw [ak.out]) oM (Nat.succ_le_succ (zAk (Nat.le_add_right _ _) V))⟩
    | nd a0 d j=>
      change a0=g at ba;subst a0;obtain ⟨c,X⟩:=eqx d.len;obtain ⟨r,ab⟩:=eqx d.on;obtain ⟨Z,b9⟩:=eqx (d.len+j.len);obtain ⟨s,Y⟩:=eqx (d.on+j.on);obtain ⟨W,aX⟩:=eqx (max d.ht j.ht+1);obtain ⟨Q,ar⟩:=eqx d.num;obtain ⟨G,aw⟩:=eqx j.num;have b0:At8 xs g (ndL Q G W Z s c r):=(by rw [<-X,<-ab,<-b9,<-Y,<-aX,<-ar,<-aw];exact O.1);obtain ⟨bt,bu,bv,aP,aQ,bw,bx,bz⟩:=e.at b0;change (g:Int) < (n:Int) at b2;have c3:=q.len;have b5:=LT.len_nd g d j;have b6:=gC a2.out q.l.sub;have b8:=gC a2.out q.r.sub;have b7:(LT.nd g d j).ht=max d.ht j.ht+1:=rfl;have bJ:r<=c:=(by rw [<-ab,<-X];exact d.on_le);have c4:c<=1100:=oM;have b1:a<=1100:=oM;have aS:(LT.nd g d j).bits=d.bits++j.bits:=rfl;have aV:(if b then r else c - r)=d.bits.count b:=(by rw [<-ab,<-X];exact lT d.bits b);have c6:k<=1100:=oM;have bF:gt≠wr.heap.size:=oM;have y:VisK (fun b=>b=gt) wr ((wr.setCell ⟨gt,3,none⟩ (.int .i64 (wrap64 (H+1)))).alloc (.cells #[(Q:Int),(G:Int),(W:Int),(Z:Int),(s:Int),(c:Int),(r:Int),.pointer none] 220)):=(VisK.set_tree e.blk _).alloc _;have a3:=lhd (P.trans y);have J:=lhd (aA.out.alloc (.cells #[(Q:Int),(G:Int),(W:Int),(Z:Int),(s:Int),(c:Int),(r:Int),.pointer none] 220));obtain ⟨aL,a5,T,aI,aK,aJ,bm,bn,a4⟩:=hqq9 q ad X ar aw av b6 b8 b7;obtain ⟨bk,aG,S,bl⟩:=hqq4 aV aS aa b5;clear q ad X ab b9 Y aX ar aw av b6 b8 b7 aV aS aa b5 b0 O a9 e P y;by_cases al:a<=c
      · have bA:decide ((a:Int)<=(c:Int))=true:=zBz oM;have bB:decide (a<=c)=true:=zBz al;go_wp2_with fail;go_roundw
        case rel=>exact ⟨d,a,k,rfl,by rw [aI.out],rfl,aL.out.l,by rw [T.out];exact al,by
         have:=a5.out;rw [aG.out,List.take_append_of_le_length (by have f:d.bits.length=c:=T.out;omega)] at this;exact this,a3.out,I+1,by have V:=U.out;have E:=a4.out;omega,by rw [J.out.cell 3,ak.out,zS (by have V:=U.out;have E:=ai.out;omega)];rfl⟩
        case measure=>have D:=aJ.out;have K:=bm.out;have L:=a4.out;rw [aI.out] at K;show gO l u (.int .i64 (Q:Int)) < gO l u (.int .i64 ((g:Nat):Int));have bC:gO l u (.int .i64 ((g:Nat):Int))=(LT.nd g d j).ht:=D;omega
      · have bA:decide ((a:Int)<=(c:Int))=false:=zBy oM;have bB:decide (a<=c)=false:=zBy al;go_wp2_with fail;refine (jT c r b _ oM bJ).mono ?_;rintro f af ⟨rfl,x⟩;rw [bk.out];obtain ⟨m,z⟩:=eqx (d.bits.count b);rw [z];have ca:m<=c:=(by have f:d.bits.length=c:=T.out;rw [<-z,<-f];exact zBv);obtain ⟨ah,a1⟩:=hqq2 (a3.out.below x) (J.out.below x J.out.lt);have ac:=(fC wr gt (.int .i64 (wrap64 (H+1))) #[(Q:Int),(G:Int),(W:Int),(Z:Int),(s:Int),(c:Int),(r:Int),.pointer none]).below x (fC wr gt (.int .i64 (wrap64 (H+1))) #[(Q:Int),(G:Int),(W:Int),(Z:Int),(s:Int),(c:Int),(r:Int),.pointer none]).lt;have bW:af.cell? ⟨wr.heap.size,1,none⟩=some (.int .i64 (G:Int)):=(by rw [ac.cell 1];rfl);have bX:af.cell? ⟨wr.heap.size,5,none⟩=some (.int .i64 (c:Int)):=(by rw [ac.cell 5];rfl);have c7:wr.heap.size < af.heap.size:=ac.lt;clear ac;have bj:=lhd z;clear x z;go_wp2_with fail;go_quiet (fail);go_wp2_with fail;go_roundw
        case rel=>exact ⟨j,a - c,k+m,congrArg (Value.int .i64) (show (a:Int) -(c:Int)=((a - c:Nat):Int) by omega),by rw [aK.out],congrArg (Value.int .i64) (show (k:Int)+(m:Int)=((k+m:Nat):Int) from rfl),aL.out.r,by
         have D:=S.out;have K:=bl.out;have L:=T.out;omega,by
         have E:=a5.out;have f:d.bits.length=c:=T.out;rw [aG.out,oA _ _ _ _ oM,bj.out,f] at E;rw [Nat.add_assoc];exact E,ah.out.below (below_drewN bR _),I+1,by have V:=U.out;have E:=a4.out;omega,by rw [(a1.out.below (below_drewN bR _) a1.out.lt).cell 3,ak.out,zS (by have V:=U.out;have E:=ai.out;omega)];rfl⟩
        case measure=>have D:=aJ.out;have K:=bn.out;have L:=a4.out;rw [aK.out] at K;show gO l u (.int .i64 (G:Int)) < gO l u (.int .i64 ((g:Nat):Int));have bC:gO l u (.int .i64 ((g:Nat):Int))=(LT.nd g d j).ht:=D;omega
def aE3 {b d:List Bool} {a:Nat} (c:a < b.length):(b++d).getD a false=b.getD a false:=by
 rw [zAb,zAb,zAn c]
def aE2 {b c:List Bool} {a:Nat} (d:b.length<=a):(b++c).getD a false=c.getD (a - b.length) false:=by
 rw [zAb,zAb,zAo d]
def tX (gt:Nat) (o:Option Tr) (b:Nat) (w:World) (c:TreeO w gt o) (y:b < (bK o).length):
 Calls prog 224 #[gt,(b:Int)] w fun g w'=>g=.returned (.int .i64 0)/\VisK (fun r=>r=gt) w w':=by
 obtain ⟨t,a,x⟩:=c.blk;have d:=VisK.set_tree a 0;have k:=c.vis d.1;have z:=a.lt;have s:w.cell? ⟨gt,3,none⟩=some t[3]:=by rw [a.cell 3];simp [x]
 have u:=a.frozen 3;have B:¬(b:Int) < 0:=oM;obtain ⟨e,f⟩:=hqq2 d k;obtain ⟨q,i⟩:=eqx ((bK o).length);have m:=lhd i;have C:¬(q<=b):=oM;clear c d k a i y;go_enter func224,ntmps224;go_wp2_with fail;clear s u;refine (fE gt o _ f.out).mono ?_;rintro g D ⟨rfl,j⟩;rw [m.out];have l:=e.out.below j;have p:=lhd l;clear l j e f;go_wp2_with fail;go_ret;exact ⟨rfl,p.out⟩
def aCf (gt:Nat) (o:Option Tr) (q:Nat) (w:World) (T:TreeO w gt o) (am:q < (bK o).length):
 Calls prog 174 #[gt,(q:Int)] w fun r w'=>r=.returned (.tuple #[.bool ((bK o).getD q false),.int .i64 0])/\VisK (fun m=>m=gt) w w':=by
 have aW:=T.le;obtain ⟨O,P⟩:=hqq2 T am;obtain ⟨ac,U⟩:=eqx ((bK o).getD q false);rw [U];have aH:=lhd U;have aY:q<=1100:=oM;clear T am U aW;go_enter func174,ntmps174;go_wp2_with fail;refine (tX gt o q w O.out P.out).mono ?_;rintro r g ⟨rfl,j⟩;obtain ⟨aM,aF⟩:=hqq2 (O.out.vis j.1) j;clear j O;obtain ⟨ga,A,cap,n,xs,rt,v,s,⟨rfl,rfl⟩|⟨aC,rfl,W,rfl,x,af⟩⟩:=aM.out
 · have:=P.out;simp [bK] at this
 obtain ⟨k,b4,rfl,aj⟩:=s.ex (by have:=W.at.lt s.len;omega);have b2:=s.c2;have b9:=s.blk.lt;have b7:=aj.lt;obtain ⟨D,aE⟩:=hqq2 s (show AtSub g xs aC from ⟨W,x.le,af⟩);clear s W aj x af;go_wp2_with fail;go_loopw [1,7] (fun b0 a5 wr=>∃(l:LT) (a:Nat),b0=.int .i64 (a:Int)/\a5=.int .i64 ((l.num:Nat):Int)/\AtSub g xs l/\a < l.len/\l.bits.getD a false=ac/\VisK (fun m=>m=gt) g wr) (fun _ a5 _=>gO g k a5)
 case atStart=>exact ⟨aC,q,rfl,rfl,aE.out,P.out,aH.out,VisK.refl _ _⟩
 case round=>
  obtain ⟨l,a,rfl,rfl,i,L,N,u⟩:=hrel;obtain ⟨a4,e⟩:=D.out.vis u.1;have b1:=e.c1;have b3:=e.c3;have b6:=e.blk.frozen 3;have ba:=e.blk.lt;obtain ⟨b5,K⟩:=cK e.row;have b8:=K.lt;have t:=i.sub.vis u.1;have be:gt≠k:=Bk.ne e.blk K dC;have ao:(l.num:Int) < (n:Int):=by have:=t.at.lt e.len;omega
  have Z:=gC D.out i.sub;generalize ay:l.num=c at*
  cases l with
  | lf C S bs=>
    change C=c at ay;subst C;obtain ⟨aA,ar⟩:=eqx bs.length;obtain ⟨B,z⟩:=eqx (bs.count true);obtain ⟨aN,aO,aP,ad,ae,aQ,aR,aS⟩:=e.at (show At8 xs c [_,_,_,_,_,_,_,_] from t.1);rw [ar] at ad;rw [z] at ae;change (c:Int) < (n:Int) at ao;have aZ:bs.length<=128:=i.le;have ap:a < bs.length:=L;have az:bs.getD a false=ac:=N;have aX:gt≠wr.heap.size:=oM;have j:VisK (fun m=>m=gt) wr ((wr.setCell ⟨gt,3,none⟩ (.int .i64 (wrap64 (a4+1)))).alloc (.cells #[.int .i64 (-1),.int .i64 (-1),.int .i64 0,(aA:Int),(B:Int),.int .i64 0,.int .i64 0,S] 220)):=(VisK.set_tree e.blk _).alloc _;have V:=t.2;have ai:=(V.far (p:=⟨gt,3,none⟩) (Bk.ne V e.blk dC) (.int .i64 (wrap64 (a4+1)))).alloc (.cells #[.int .i64 (-1),.int .i64 (-1),.int .i64 0,(aA:Int),(B:Int),.int .i64 0,.int .i64 0,S] 220);obtain ⟨E,aD,H,aI,Q⟩:=hqq5 (u.trans j) ai az aZ ap;clear i L N u e K t Z j V ai az ap ar z;go_wp2_with fail;refine (nO S bs a _ aD.out aI.out Q.out).mono ?_;rintro r bf ⟨rfl,ag⟩;rw [H.out];have aG:=lhd (aF.out.trans (E.out.below ag));clear ag;go_wp2_with fail;go_ret2;exact ⟨rfl,aG.out⟩
  | nd C b f=>
    change C=c at ay;subst C;obtain ⟨d,M⟩:=eqx b.len;obtain ⟨a2,Y⟩:=eqx b.on;obtain ⟨aB,ax⟩:=eqx (b.len+f.len);obtain ⟨B,z⟩:=eqx (b.on+f.on);obtain ⟨ak,al⟩:=eqx (max b.ht f.ht+1);obtain ⟨a1,X⟩:=eqx b.num;obtain ⟨a3,a0⟩:=eqx f.num;have an:At8 xs c (ndL a1 a3 ak aB B d a2):=(by rw [<-M,<-Y,<-ax,<-z,<-al,<-X,<-a0];exact t.1);obtain ⟨aN,aO,aP,ad,ae,aQ,aR,aS⟩:=e.at an;change (c:Int) < (n:Int) at ao;have bb:=i.len;have aq:=LT.len_nd c b f;have au:=gC D.out i.l.sub;have aw:=gC D.out i.r.sub;have av:(LT.nd c b f).ht=max b.ht f.ht+1:=rfl;have bd:a2<=d:=(by rw [<-Y,<-M];exact b.on_le);have bc:d<=1100:=oM;have aY:a<=1100:=oM;have ah:(LT.nd c b f).bits=b.bits++f.bits:=rfl;have aX:gt≠wr.heap.size:=oM;have j:VisK (fun m=>m=gt) wr ((wr.setCell ⟨gt,3,none⟩ (.int .i64 (wrap64 (a4+1)))).alloc (.cells #[(a1:Int),(a3:Int),(ak:Int),(aB:Int),(B:Int),(d:Int),(a2:Int),.pointer none] 220)):=(VisK.set_tree e.blk _).alloc _;obtain ⟨E,ab,H,G,a7,aa,a9,aK,aL⟩:=hqq9 (u.trans j) i N M X a0 Z au aw;obtain ⟨a8,a6,Q,aJ⟩:=hqq4 av ah L aq;clear i N M Y ax z al X a0 Z au aw av ah L aq an t K e u j;by_cases R:a < d
    · have aT:decide ((a:Int) < (d:Int))=true:=zBz oM;have aU:decide (a < d)=true:=zBz R;go_wp2_with fail;go_roundw
      case rel=>exact ⟨b,a,rfl,by rw [a7.out],ab.out.l,by rw [G.out];exact R,by
       have y:=H.out;rw [a6.out,aE3 (by have r:b.bits.length=d:=G.out;omega)] at y;exact y,E.out⟩
      case measure=>have I:=a9.out;have J:=aK.out;have x:=a8.out;rw [a7.out] at J;show gO g k (.int .i64 (a1:Int)) < gO g k (.int .i64 ((c:Nat):Int));have aV:gO g k (.int .i64 ((c:Nat):Int))=(LT.nd c b f).ht:=I;omega
    · have aT:decide ((a:Int) < (d:Int))=false:=zBy oM;have aU:decide (a < d)=false:=zBy R;go_wp2_with fail;go_quiet (fail);go_wp2_with fail;go_roundw
      case rel=>exact ⟨f,a - d,congrArg (Value.int .i64) (show (a:Int) -(d:Int)=((a - d:Nat):Int) by omega),by rw [aa.out],ab.out.r,by
       have I:=Q.out;have J:=aJ.out;have x:=G.out;omega,by
       have y:=H.out;have r:b.bits.length=d:=G.out;rw [a6.out,aE2 oM,r] at y;exact y,E.out.below (below_drewN bR _)⟩
      case measure=>have I:=a9.out;have J:=aL.out;have x:=a8.out;rw [aa.out] at J;show gO g k (.int .i64 (a3:Int)) < gO g k (.int .i64 ((c:Nat):Int));have aV:gO g k (.int .i64 ((c:Nat):Int))=(LT.nd c b f).ht:=I;omega
def aCm (F:Nat->Prop) (ga j a b:Nat) (tk:List Bool) (fr:List Nat) (w:World) (y:ArenaE w F ga tk fr) (M:tk[a]?=some true) (N:tk[b]?=some true) (aU:a≠b) (H:Bk w j 3 #[(a:Int),(b:Int)]) (aO:fr.length<=1000000):
 Calls prog 228 #[ga,.slice (some j) 2 2] w fun u w'=>u=.returned (.int .i64 0)/\ArenaE w' (Gw F w.heap.size) ga ((tk.set a false).set b false) (fr++ [a,b])/\Keep F w w':=by
 have al:=kL F ga a tk fr w y M;obtain ⟨Z,A,m,k,q,f,s,a5,Q,P⟩:=y;obtain ⟨aV,_⟩:=zAc.1 M;obtain ⟨aW,_⟩:=zAc.1 N;obtain ⟨b4,aQ,b1,b2,b3⟩:=info_parts fN;obtain ⟨e,K⟩:=eqx tk.length;obtain ⟨d,z⟩:=eqx fr.length;rw [z] at f a5 P aO;rw [K] at f s Q aV aW;obtain ⟨gt,b6,Y,_,bg⟩:=World.ownsRow.form s oM;injection Y with Y _ hcc;subst Y hcc;have aG:w.cell? ⟨gt,a,none⟩=some (.bool true):=by refine (World.ownsRow.cellAt s a oM).trans ?_;rw [zAf,M];rfl
 have ar:ga≠gt:=fun u=>aR s f dC (by rw [u];rfl);have aP:∃C,Bk w gt 4 C:=by
  rcases s.2 with ⟨c,_⟩|⟨aj,cap,C,c,_,X,_⟩
  · cases c
  injection c with c _ _;injection c with c;injection c with c _;subst c;exact ⟨C,X⟩
 obtain ⟨C,G⟩:=aP;have aM:=G.frozen a;have aC:w.cell? ga=some (.slice (some gt) e m):=(f.cell 0).trans rfl;have aH:w.cell? ⟨gt,b,none⟩=some (.bool true):=by refine (World.ownsRow.cellAt s b oM).trans ?_;rw [zAf,N];rfl
 have aI:w.cell? j=some (.int .i64 (a:Int)):=(H.cell 0).trans rfl;have bd:=f.lt;have bf:=H.lt;have bh:(a:Int) < (e:Int):=oM;have bi:(b:Int) < (e:Int):=oM;have aq:j≠gt:=Bk.ne H G dC;obtain ⟨i,r⟩:=eqx (w.setCell ⟨gt,a,none⟩ (.bool false));have D:Bk i ga 228 #[.slice (some gt) e m,.slice k d q,.int .i64 268435456]:=by rw [<-r];exact f.far (p:=⟨gt,a,none⟩) ar _
 have S:Bk i j 3 #[(a:Int),(b:Int)]:=by rw [<-r];exact H.far (p:=⟨gt,a,none⟩) aq _
 have R:i.ownsRow 0 4 1 (.slice (some gt) e m) e ((tk.set a false).map Value.bool):=by rw [<-r,List.map_set];exact (World.ownsRow.stored s a (.bool false)).1
 have a6:i.ownsRow 0 3 1 (.slice k d q) d (fr.map sv):=by rw [<-r];exact aA a5 fun B W _ g=>g.far (p:=⟨gt,a,none⟩) (Bk.ne g G dC) _
 have a1:Bk i gt 4 (C.setIfInBounds a (.bool false)):=by rw [<-r];exact G.set a _
 have O:(tk.set a false).length=e:=by rw [zAt];exact K
 have a3:(tk.set a false)[b]?=some true:=by rw [List.getElem?_set_ne aU];exact N
 have am:=kL F ga b (tk.set a false) fr i ⟨Z,some ⟨gt,0,none⟩,m,k,q,by rw [O,z];exact D,by rw [O];exact R,by rw [z];exact a6,by rw [O];exact Q,by rw [z];exact P⟩ a3;have aD:i.cell? ga=some (.slice (some gt) e m):=(D.cell 0).trans rfl;have aE:i.cell? ⟨j,1,none⟩=some (.int .i64 (b:Int)):=(S.cell 1).trans rfl;have aF:i.cell? ⟨gt,b,none⟩=some (.bool true):=by refine (World.ownsRow.cellAt R b oM).trans ?_;rw [zAf,a3];rfl
 have aL:=a1.frozen b;have bb:=D.lt;have be:=S.lt;obtain ⟨l,x⟩:=eqx (i.setCell ⟨gt,b,none⟩ (.bool false));have E:Bk l ga 228 #[.slice (some gt) e m,.slice k d q,.int .i64 268435456]:=by rw [<-x];exact D.far (p:=⟨gt,b,none⟩) ar _
 have a8:Bk l j 3 #[(a:Int),(b:Int)]:=by rw [<-x];exact S.far (p:=⟨gt,b,none⟩) aq _
 have ap:l.ownsRow 0 4 1 (.slice (some gt) e m) e (((tk.set a false).set b false).map Value.bool):=by rw [<-x,List.map_set];exact (World.ownsRow.stored R b (.bool false)).1
 have a7:l.ownsRow 0 3 1 (.slice k d q) d (fr.map sv):=by rw [<-x];exact aA a6 fun B W _ g=>g.far (p:=⟨gt,b,none⟩) (Bk.ne g a1 dC) _
 have a0:F gt:=OwnF.at Q;have an:Keep F w l:=by rw [<-x,<-r];exact Keep.setCell (F:=F) (Keep.setCell (F:=F) (Keep.refl _ _) (p:=⟨gt,a,none⟩) (.inl a0) _) (p:=⟨gt,b,none⟩) (.inl a0) _
 have b8:l.cell? ⟨ga,1,none⟩=some (.slice k d q):=(E.cell 1).trans rfl;have bc:=E.lt;have ao:Rd l l.heap.size 1 (some ⟨j,0,none⟩) 2 [.int .i64 (a:Int),.int .i64 (b:Int)]:=⟨rfl,fun _=>⟨j,0,rfl,a8.lt,fun T bk a9=>by
  rw [zBi,a8.cell];rcases T with _ | _ | T;exact a9;exact a9
  · simp at a9⟩⟩
 obtain ⟨ax,ah,ag,ae,aB,av,au,ad,af⟩:=hqq9 E ap a7 an ao x r am P;obtain ⟨V,ab,ay⟩:=hqq3 z K (aR a7 E dC);clear f s a5 Q P K z G H M E a8 ap a7 an x ao r am D S R a6 a1 O N a3 aH;go_enter func228,ntmps228;go_wp2_with fail;refine wp_loop_rounds 3 ?_;rw [rounds_succ];go_wp2_with fail;refine al.mono ?_;rintro u w1 ⟨rfl,rfl⟩;clear al;go_wp2_with fail;rw [au.out];clear aC aI aG aM;rw [rounds_succ];go_wp2_with fail;refine ad.out.mono ?_;rintro u bm ⟨rfl,rfl⟩;clear ad;go_wp2_with fail;rw [av.out];clear aD aE aF aL;rw [rounds_succ];go_wp2_with (at_builtin;refine bG _ rfl (.tmp 48) (.tmp 49) _ rfl 0 3 b4 (.int .i64 0) 1 8 underlying27 aQ b1 b2 b3 rfl dC (.slice k d q) d _ rfl ag.out _ _ _ _ _ rfl aB.out (by simp [Value.oneCell']) (by unfold maxLen;omega) oM (zAp _) ?_;intro bl aa a4 a2 ak;have L:=ax.out.grown a2 ay.out;have ba:=L.frozen 1;have b9:=L.cell 1;obtain ⟨az,ac,aw,U⟩:=hqq4 a4 a2 ak L;obtain ⟨I,J,rfl,aX⟩:=bE a4;clear a4 a2 ak L aX);go_ret;have aT:Keep F w aa:=ae.out.grown ac.out (fun T aS=>.inl (af.out T aS));have aN:=U.out.set 1 (.slice I (d+2) J)
 have aZ:=World.ownsRow.kept ah.out ac.out (by
  rcases hh:(Value.slice k d q).ownBlock with _ | b5
  · right;simp [Value.ownBlock]
  · right;intro u;have aJ:gt=b5:=(by simpa [Value.ownBlock] using u);subst aJ;rcases ag.out.2 with ⟨c,_⟩|⟨aj,cap,b7,c,_,X,_⟩
    · rw [c] at hh;simp [Value.ownBlock] at hh
    · rw [c] at hh;have aK:aj=gt:=(by simpa [Value.ownBlock] using hh);subst aK;exact aR ah.out (t:=3) X dC rfl)
 have b0:=aA (w':=aa.setCell ⟨ga,1,none⟩ (.slice I (d+2) J)) aZ fun B W _ g=>g.far (Bk.ne g U.out dC) _;have aY:=aA (w':=aa.setCell ⟨ga,1,none⟩ (.slice I (d+2) J)) az.out fun B W _ g=>g.far (Bk.ne g U.out dC) _;have bj:=ae.out.size;refine ⟨rfl,⟨.inl Z,some ⟨gt,0,none⟩,m,I,J,?_,?_,?_,?_,?_⟩,?_⟩;rw [zAt,zAt,ab.out,zAi,V.out];exact aN;rw [zAt,zAt,ab.out];exact b0;rw [zAi,V.out,zAz];exact aY;exact OwnF.slice (.inl a0);intro B f;rw [zAi,V.out] at f;rcases aw.out with y | y;exact .inl (af.out B (y.symm.trans f));have ai:=y.symm.trans f;injection ai with ai;exact .inr oM;exact Keep.setCell (F:=F) aT (p:=⟨ga,1,none⟩) (.inl Z) _
section
variable {w w' : World} {F Fa : Nat -> Prop} {gt ga cap n : Nat} {A : Option Addr} {xs : List Value} {tk tk' : List Bool} {fr fr' : List Nat} {rt v : Int}
def TX.arena (f:TX w F gt ga A cap n xs tk fr rt v) (u:∀a,w.heap.size<=a->F a) (l:∀a,Fa a->F a) (r:∀a b d,Fa a->Bk w a b d->b=228∨b=4∨b=3) (s:ArenaE w' (Gw Fa w.heap.size) ga tk' fr') (g:Keep Fa w w') (x:tk'.length=n) (y:∀j,j < n->tk'[j]?=some (decide (j∉fr'))):
 TX w' F gt ga A cap n xs tk' fr' rt v/\LK F [] w w':=by
 have k:∀a b d,Bk w a b d->b≠228->b≠4->b≠3->¬Fa a:=fun a b d g m p q t=>by rcases r a b d t g with c | c | c;exact m c;exact p c;exact q c
 refine ⟨⟨f.fg,⟨g.bk f.rd.blk (k _ _ _ f.rd.blk dC dC dC),aA f.rd.row fun a d _ i=>g.bk i (k _ _ _ i dC dC dC)⟩,f.own,s.mono fun a _ e=>?_,x,y⟩,LK.of g (fun a _ c=>l a c) fun a d c i=>k a _ d i dC dC dC c⟩;rcases e with e | e;exact l a e;exact u a e
end
def aDM (F:Nat->Prop) (gt ga cap n a d:Nat) (A:Option Addr) (xs:List Value) (tk:List Bool) (fr:List Nat) (rt v:Int) (w:World) (c:TX w F gt ga A cap n xs tk fr rt v) (m:∀e,w.heap.size<=e->F e) (p:a < n) (q:a∉fr) (s:Bk w d 3 #[(a:Int)]) (r:fr.length<=1000000):
 Calls prog 228 #[ga,.slice (some d) 1 1] w fun b w'=>b=.returned (.int .i64 0)/\TX w' F gt ga A cap n xs (tk.set a false) (fr++ [a]) rt v/\LK F [] w w':=by
 obtain ⟨Fa,j,k,x,l⟩:=c.ar.own;refine (zL Fa ga d a tk fr w l (by rw [c.tkv a p];simp [q]) s r).mono ?_;rintro b w' ⟨rfl,i,t⟩;have:=c.arena m j k i t (by rw [zAt];exact c.tkn) fun g f=>by
  by_cases b:g=a
  · subst b;rw [List.getElem?_set_self (by rw [c.tkn];exact f)];simp
  · rw [List.getElem?_set_ne (fun u=>b u.symm),c.tkv g f];simp [b]
 exact ⟨rfl,this⟩
def rR (F:Nat->Prop) (gt ga cap n a b f:Nat) (A:Option Addr) (xs:List Value) (tk:List Bool) (fr:List Nat) (rt v:Int) (w:World) (c:TX w F gt ga A cap n xs tk fr rt v) (r:∀k,w.heap.size<=k->F k) (s:a < n) (u:a∉fr) (t:b < n) (x:b∉fr) (y:a≠b) (B:Bk w f 3 #[(a:Int),(b:Int)]) (z:fr.length<=1000000):
 Calls prog 228 #[ga,.slice (some f) 2 2] w fun d w'=>d=.returned (.int .i64 0)/\TX w' F gt ga A cap n xs ((tk.set a false).set b false) (fr++ [a,b]) rt v/\LK F [] w w':=by
 obtain ⟨Fa,m,p,D,q⟩:=c.ar.own;refine (aCm Fa ga f a b tk fr w q (by rw [c.tkv a s];simp [u]) (by rw [c.tkv b t];simp [x]) y B z).mono ?_;rintro d w' ⟨rfl,l,C⟩;have:=c.arena r m p l C (by rw [zAt,zAt];exact c.tkn) fun i g=>by
  by_cases e:i=b
  · subst e;rw [List.getElem?_set_self (by rw [zAt,c.tkn];exact g)];simp
  · rw [List.getElem?_set_ne (fun j=>e j.symm)];by_cases d:i=a
    · subst d;rw [List.getElem?_set_self (by rw [c.tkn];exact g)];simp
    · rw [List.getElem?_set_ne (fun j=>d j.symm),c.tkv i g];simp [d,e]
 exact ⟨rfl,this⟩
end Go.Proofs.YtnmapianpjamnaaGreatDoor
