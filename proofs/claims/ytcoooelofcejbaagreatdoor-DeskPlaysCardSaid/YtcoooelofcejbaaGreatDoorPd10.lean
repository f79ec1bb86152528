/- Lemmas of the walk. Conditions: each its own. -/
import Derived.Test.YtcoooelofcejbaaGreatDoorPd6
import Derived.Test.YtcoooelofcejbaaGreatDoorPd7
import Derived.Test.YtcoooelofcejbaaGreatDoorProg
set_option linter.all false
set_option maxRecDepth 100000
set_option maxHeartbeats 2000000
open Go.Proofs.Tryz
namespace Go.Proofs.YtcoooelofcejbaaGreatDoor
section
open Go.RowKit
def aW (b a:Nat):Nat:=b / 2 ^(9 - a)
def fR (b a:Nat):Bool:=decide (b / 2 ^(8 - a)% 2=1)
def eP {s:Nat} (w:World) (d:s < 257):
 Calls prog 157 #[(s:Int)] w fun a w'=>a=.returned (.bool true)/\Below w.heap.size w w':=by
 have b:(0:Int)<=(s:Int):=oM;have c:(s:Int) < 257:=oM;go_enter func157,ntmps157;go_wp2;go_ret;exact ⟨rfl,Below.refl _ _⟩
def aCC (b a:Nat):(b:Int)/ 2 ^ a=((b / 2 ^ a:Nat):Int):=by push_cast;rfl
def aKY {a:Nat} (c:a < 257):bits .and .i64 (a:Int) 1=((a % 2:Nat):Int):=by
 have b:=(bits_nat .i64 10 dC (fun e d b=>by rw [IntKind.wrap_i64];omega) a 1 oM oM).1;rw [show ((1:Nat):Int)=1 from rfl] at b;rw [b,Nat.and_one_is_mod]
def kE {s:Nat} (a:Nat) (w:World) (d:s < 257) (g:a<=9):
 Calls prog 180 #[(s:Int),(a:Int)] w fun b w'=>b=.returned (.int .i64 ((aW s a:Nat):Int))/\Below w.heap.size w w':=by
 have e:¬((a:Int) < 0):=oM;have f:¬((a:Int) > 9):=oM;go_enter func180,ntmps180;go_wp2_with fail;refine (eP _ d).mono ?_;rintro b w1 ⟨rfl,c⟩;go_wp2_with fail;go_ret;exact ⟨eS (aCC _ _),c⟩
def mD {s lv:Nat} (w:World) (c:s < 257) (k:lv < 9):
 Calls prog 181 #[(s:Int),(lv:Int)] w fun a w'=>a=.returned (.bool (fR s lv))/\Below w.heap.size w w':=by
 have i:¬((lv:Int) < 0):=oM;have j:¬((lv:Int)>=9):=oM;go_enter func181,ntmps181;go_wp2_with fail;refine (eP _ c).mono ?_;rintro a w1 ⟨rfl,f⟩;go_wp2_with fail;go_ret;refine ⟨qO ?_,f⟩;have g:s / 2 ^(8 - lv) < 257:=Nat.lt_of_le_of_lt (Nat.div_le_self _ _) c;rw [aCC,aKY g];unfold fR;generalize s / 2 ^(8 - lv)% 2=d;by_cases b:d=1;subst b;rfl
 · have e:((d:Int)==1)=false:=(by simp;omega);rw [e];simp [b]
def aDU (c:List Nat):∀a∈c.map sv,a.oneCell'=true:=by
 intro a b;obtain ⟨d,_,rfl⟩:=zAy.1 b;rfl
def cZ (b:List UInt8):List Nat:=b.map (fun a=>a.toNat+1)
def aF (a:List UInt8):List Nat:=cZ a++ [0]
def aK (a:List UInt8):(aF a).length=a.length+1:=by simp [aF,cZ]
def dM (e:List UInt8):∀c∈aF e,c < 257:=by
 intro c b;unfold aF cZ at b;rcases zCp.1 b with a | a;obtain ⟨d,_,rfl⟩:=zAy.1 a;have:=d.toNat_lt;omega;simp at a;omega
def oN (a:UInt8) (w:World):
 Calls prog 106 #[.int .u8 (a.toNat:Int)] w fun b w'=>b=.returned (.int .i64 ((a.toNat+1:Nat):Int))/\Below w.heap.size w w':=by
 have d:=a.toNat_lt;have c:IntKind.i64.wrap (a.toNat:Int)=(a.toNat:Int):=by rw [IntKind.wrap_i64];omega
 go_enter func106,ntmps106;go_wp2;go_ret;exact ⟨eS oM,Below.refl _ _⟩
def xM {gs:Nat} (ae:Nat) {A:Option Addr} {m c B:Nat} {t:List UInt8} {w:World} (r:Bk w gs 34 #[.slice A m c]) (q:Rd w B 1 A m (t.map bv)) (a0:B<=w.heap.size) (ag:m<=1000):
 Calls prog 62 #[.slice (some gs) 1 1] w fun C w'=>∃f i,C=.returned (.slice f (m+1) i)/\Made w' w.heap.size 3 1 f (m+1) i ((aF t).map sv)/\Below w.heap.size w w':=by
 obtain ⟨T,H,O,R,S⟩:=info_parts iD;have N:t.length=m:=by simpa using q.1
 have Z:w.cell? gs=some (.slice A m c):=(r.cell 0).trans rfl;have a3:=r.lt;obtain ⟨Y,y⟩:=hqq2 (q.mono a0) N;clear r q N;go_enter func62,ntmps62;go_wp2_with fail;go_loopw [3,10] (fun v e wr=>∃a:Nat,a<=1/\e=.int .i64 a/\wr.ownsRow w.heap.size 3 1 v (if a=0 then 0 else m) ((if a=0 then [] else cZ t).map sv)/\Below w.heap.size w wr) (fun _ e _=>1 -(intOf e).toNat)
 case atStart=>exact ⟨0,by omega,rfl,World.ownsRow_nil _ _ _ _,Below.refl _ _⟩
 case round=>
  obtain ⟨a,a4,rfl,b,d⟩:=hrel;have k:=d.size;rcases a with _ | a
  · have ad:wr.cell? gs=some (.slice A m c):=(d.cell a3).trans Z;obtain ⟨g,W⟩:=hqq2 b d;clear b d;go_wp2_with fail;obtain ⟨z,a1⟩:∃z,z=wr:=⟨_,rfl⟩;subst a1;go_loopw [3,16] (fun v e U=>∃a:Nat,a<=m/\e=.int .i64 a/\U.ownsRow w.heap.size 3 1 v a ((cZ (t.take a)).map sv)/\Below w.heap.size w U) (fun _ e _=>m -(intOf e).toNat)
    case atStart=>exact ⟨0,by omega,rfl,g.out,W.out⟩
    case round=>
        obtain ⟨a,a4,rfl,b,d⟩:=hrel;have k:=d.size;by_cases J:a < m
        · have a6:a < t.length:=(by rw [y.out];exact J);obtain ⟨l,u⟩:∃l,t[a]?=some l:=⟨t[a],zAa a6⟩;obtain ⟨ac,ah,ai,rfl,af,s,a2⟩:=(Y.out.below d).get J;rw [zAf,u] at s;simp at s;subst s;have M:t.take (a+1)=t.take a++ [l]:=(by rw [zAv,u];rfl);unfold bv at a2;obtain ⟨V,n⟩:=hqq2 M b;clear M u b;go_wp2_with fail;refine (oN l _).mono ?_;rintro C w1 ⟨rfl,E⟩;have K:=aM n.out E;have G:=d.trans (E.mono k);have L:=G.size;have x:=lhd K;clear K;go_wp2_with (at_builtin;refine bP _ rfl (.tmp 20) (.tmp 23) _ rfl w.heap.size 3 T (.int .i64 0) 1 8 underlying48 H O R S rfl dC _ a _ rfl x.out rfl rfl (by simp [Value.oneCell']) (by unfold maxLen;omega) oM L ?_;intro aa ab p j a9 D);have o:=bC G x.out j L;clear j D;go_roundw
          case rel=>refine ⟨a+1,by omega,by go_num,?_,o⟩;rw [V.out,cZ,zAz,zAz];exact p
          case measure=>simp [intOf];omega
        · have a7:a=m:=oM;subst a7;rw [zAg (by rw [y.out];omega)] at b;have n:=lhd b;clear b;go_wp2_with fail;go_roundw
          case rel=>exact ⟨1,by omega,by go_num,n.out,d⟩
          case measure=>simp [intOf]
  · have a5:a=0:=oM;subst a5;rw [zBw oM,zBw oM] at b;have g:=lhd b;have I:(aF t).map sv=(cZ t).map sv++ [.int .i64 0]:=(by simp [aF,sv]);have X:=lhd I;clear b I;go_wp2_with (at_builtin;refine bP _ rfl (.tmp 27) (.tmp 28) _ rfl w.heap.size 3 T (.int .i64 0) 1 8 underlying48 H O R S rfl dC _ m _ rfl g.out rfl rfl (by simp [Value.oneCell']) (by unfold maxLen;omega) oM k ?_;intro aa ab p j a9 D);have o:=bC d g.out j k;obtain ⟨f,i,rfl,a8⟩:=aR p;go_ret;exact ⟨f,i,rfl,by rw [X.out];exact a8,o⟩
def zF {A:Option Addr} {n:Nat} (b:Nat) {B:Nat} {l:List Nat} {w:World} (f:Rd w B 1 A n (l.map sv)) (o:B<=w.heap.size) (D:n<=1073741824):
 Calls prog 63 #[.slice A n b] w fun m w'=>∃d e,m=.returned (.slice d n e)/\Made w' w.heap.size 3 1 d n e (l.map sv)/\Below w.heap.size w w':=by
 obtain ⟨z,r,v,x,y⟩:=info_parts iD;have E:∀(w:World) (a:Option Addr) (n b:Nat),(binOp .eql 48 (.slice a n b) (.slice none 0 0)).run prog w=.ok (.bool a.isNone) w:=fun w a n b=>Lib.run_eql_slice_nil w _ _ a n b _ _ underlying48;rcases A with _ | a
 · have u:n=0:=by
    rcases zBa n with c | c;exact c
    · obtain ⟨_,_,c,_⟩:=f.2 c;cases c
   subst u;have s:l= []:=(by have:=f.1;simp only [zBc,Nat.zero_mul] at this;exact zBk this);subst s;go_enter func63,ntmps63;go_wp2;go_ret;exact ⟨none,0,rfl,⟨World.ownsRow_nil _ _ _ _,Rd.nil _ _ _ _,zAs _,zAp _⟩,Below.refl _ _⟩
 · have k:=lhd f;clear f;go_enter func63,ntmps63;go_wp2_with (at_builtin;refine bK _ rfl (.tmp 5) (.tmp 6) _ rfl w.heap.size 3 z (.int .i64 0) 1 8 underlying48 r v x y rfl dC (.slice (some ⟨w.heap.size,0,none⟩) 0 0) 0 [] rfl (zS w 3 1) w.heap.size (some a) n b _ rfl ((k.out.mono o).alloc nL _) (aDU _) (by unfold maxLen;omega) oM (by simp) ?_;intro G H i q C);have p:=bC ((Below.refl w.heap.size w).alloc nL _) (zS w 3 1) q (by simp);rw [zBi,List.nil_append] at i;obtain ⟨d,e,rfl,t⟩:=aR i;go_wp2;go_ret;exact ⟨d,e,rfl,t,p⟩
@[irreducible] def tcells (g:List Nat):Array Value:=Array.ofFn (n:=258) fun j=>.int .i64 (((if j.val < 257 then g.count j.val else g.length):Nat):Int)
def dL (b:List Nat) {a:Nat} (c:a < 257):(tcells b)[a]?=some (.int .i64 ((b.count a:Nat):Int)):=by
 unfold tcells;rw [Array.getElem?_ofFn,dif_pos oM,zBx c]
def gQ (a:List Nat):(tcells a)[257]?=some (.int .i64 ((a.length:Nat):Int)):=by
 unfold tcells;rw [Array.getElem?_ofFn,dif_pos oM];rfl
def eF (a:List Nat):(tcells a).size=258:=by unfold tcells;simp
def pD (c:Array Value) (b:List Nat) (i:c.size=258) (f:∀d,d < 257->c[d]?=some (.int .i64 ((b.count d:Nat):Int))) (g:c[257]?=some (.int .i64 ((b.length:Nat):Int))):c=tcells b:=by
 apply Array.ext_getElem?;intro e;rcases zBe e 257 with a | a
 · rw [f e a,dL b a]
 · rcases Nat.eq_or_lt_of_le a with a | a
   · rw [<-a,g,gQ]
   · rw [Array.getElem?_eq_none oM,Array.getElem?_eq_none (by rw [eF];omega)]
def aDx (b:List Nat) {a:Nat} (f:a < 257):((tcells b).setIfInBounds a (.int .i64 (((b.count a+1:Nat)):Int))).setIfInBounds 257 (.int .i64 ((b.length+1:Nat):Int))=tcells (b++ [a]):=by
 apply pD
 · simp [eF]
 · intro d e;rw [zCe oM];by_cases c:a=d
   · subst c;rw [Array.getElem?_setIfInBounds_self_of_lt (by rw [eF];omega)];simp
   rw [zCe c,dL b e];have: [a].count d=0:=(by simp [c]);rw [zCc,this];rfl
 · rw [Array.getElem?_setIfInBounds_self_of_lt (by simp [eF])];simp
def uC {gt:Nat} {L:List Nat} (a:Nat) {w:World} (d:Bk w gt 214 (tcells L)) (f:a < 257):
 Calls prog 240 #[gt,(a:Int)] w fun c w'=>c=.returned (.int .i64 ((L.count a:Nat):Int))/\Below w.heap.size w w':=by
 have b:=lhd d;clear d;go_enter func240,ntmps240;go_wp2_with fail;refine (eP _ f).mono ?_;rintro c w1 ⟨rfl,e⟩;have g:w1.cell? ⟨gt,a,none⟩=some (.int .i64 ((L.count a:Nat):Int)):=((b.out.below e b.out.lt).cell a).trans (dL L f);have i:¬((a:Int) < 0):=oM;have j:((a:Int) < 257):=oM;clear b;go_wp2_with fail;go_ret;exact ⟨rfl,e⟩
def tY (c:List Nat) (b:Nat):c.countP (fun a=>decide (a < b+1))=c.countP (fun a=>decide (a < b))+c.count b:=by
 induction c with
 | nil=>rfl
 | cons a i g=>
   rw [zBn,zBn,List.count_cons,g];by_cases f:a < b;have d:a < b+1:=oM;have e:a≠b:=oM;simp [f,d,e];omega
   · by_cases d:a=b;subst d;simp;omega
     · have e:¬a < b+1:=oM;simp [f,d,e]
def jI {gt:Nat} {L:List Nat} {s:Nat} {w:World} (k:Bk w gt 214 (tcells L)) (y:s < 257) (r:L.length<=1000):
 Calls prog 228 #[gt,(s:Int)] w fun j w'=>j=.returned (.int .i64 ((L.countP (fun b=>decide (b < s)):Nat):Int))/\Below w.heap.size w w':=by
 have i:=lhd k;clear k;have z:max (s:Int) 0=(s:Int):=oM;have A:min (s:Int) 257=(s:Int):=oM;go_enter func228,ntmps228;go_wp2_with fail;go_loopw [5,10] (fun u g wr=>∃a:Nat,a<=s/\g=.int .i64 a/\u=.int .i64 ((L.countP (fun b=>decide (b < a)):Nat):Int)/\Below w.heap.size w wr) (fun _ g _=>s -(intOf g).toNat)
 case atStart=>exact ⟨0,by omega,rfl,by simp,Below.refl _ _⟩
 case round=>
  obtain ⟨a,v,rfl,rfl,c⟩:=hrel;have t:=c.size;by_cases x:a < s
  · go_wp2_with fail;refine (uC a (i.out.below c i.out.lt) oM).mono ?_;rintro j w1 ⟨rfl,o⟩;have p:=c.trans (o.mono t);have d:=tY L a;have l:L.countP (fun b=>decide (b < a+1))<=1000:=zAk zBh r;obtain ⟨m,e⟩:∃m,L.countP (fun b=>decide (b < a))=m:=⟨_,rfl⟩;obtain ⟨C,f⟩:=eqx (L.count a);rw [d] at l;rw [e,f] at d l;rw [f]
    try rw [e]
    have n:=lhd d;clear d e f;go_wp2_with fail;go_roundw
    case rel=>exact ⟨a+1,by omega,by go_num,by rw [n.out];exact dV oM,p⟩
    case measure=>simp [intOf];omega
  · have q:a=s:=oM;subst q;go_wp2_with fail;go_ret;exact ⟨rfl,c⟩
def rR {a:Nat} {c:List Nat} {b:Nat} {w:World} (f:Bk w a 214 (tcells c)) (l:b < 257) (G:c.length<=1000):
 Calls prog 183 #[a,(b:Int),.int .i64 1] w fun D w'=>D=.returned (.int .i64 0)/\Bk w' a 214 (tcells (c++ [b]))/\Keep (fun g=>g=a) w w':=by
 have s:=lhd f;clear f;have a4:¬((b:Int) < 0):=oM;have a5:((b:Int) < 257):=oM;obtain ⟨e,q⟩:=eqx (c.count b);obtain ⟨y,o⟩:=eqx c.length;have a7:e<=1000:=by rw [<-q];exact zAk zBv G
 rw [o] at G;have v:=aDx c l;rw [q,o] at v;obtain ⟨H,t,C⟩:=hqq3 v q o;clear v q o;go_enter func183,ntmps183;go_wp2_with fail;refine (eP _ l).mono ?_;rintro D w1 ⟨rfl,x⟩;have n:=s.out.below x s.out.lt;have R:w1.cell? ⟨a,b,none⟩=some (.int .i64 (e:Int)):=by rw [<-t.out];exact (n.cell b).trans (dL c l)
 have S:w1.cell? ⟨a,257,none⟩=some (.int .i64 (y:Int)):=by rw [<-C.out];exact (n.cell 257).trans (gQ c)
 have a8:¬((1:Int) < -(e:Int)):=oM;have a9:¬((1:Int) > 2147483648 -(y:Int)):=oM;obtain ⟨I,K⟩:=hqq2 x n;clear x n s;go_wp2_with fail;refine wp_region_any kR ?_;refine cT (pJ:=(fun _ r=>Bk r a 214 ((tcells c).setIfInBounds b (.int .i64 ((e+1:Nat):Int))))) [33,34,35,36,37,38,39,40,41,42,43] (fun g=>g=a) 11 [5,11] [is a,is (b:Int),is a,is a,is (.pointer (some ⟨a,b,none⟩)),is (e:Int),is (.int .i64 1),is (.int .i64 ((e+1:Nat):Int)),is a,is a,is (.pointer (some ⟨a,b,none⟩)),dJ] _ rfl kR kR (K.out) (fun r ab f _ M=>Bk.below f M f.lt) (fun _ _ _ f N=>Bk.below f N f.lt) tA1 ?_ ?_
 · refine aV ?_;refine pH3 0 (.pointer (some a)) ?_;refine pH3 1 (.int .i64 (b:Int)) ?_;refine pV3 0 33 ?_;refine pV3 2 35 ?_;refine pW3 3 36 1 34 ?_;refine sC3 (fun _ z _ u _ _ _ d _ _ _ j=>?_) ?_
   · have k:=u rfl;have W:_=_:=d 4 37 kR rfl;have U:z.cell? ⟨a,b,none⟩=some (.int .i64 (e:Int)):=(by rw [<-t.out];exact (k.cell b).trans (dL c l));go_simp;exact kq j rfl
   refine pH3 2 (.int .i64 1) ?_;refine sC3 (fun _ _ _ _ _ _ _ d _ _ _ j=>?_) ?_
   · have X:_=_:=d 5 38 kR rfl;have Y:_=_:=d 6 39 kR rfl;go_simp;exact j _ _ (aO bR) (dV (by rw [IntKind.wrap_i64];omega))
   refine pV3 0 33 ?_;refine pV3 8 41 ?_;refine pW3 9 42 1 34 ?_;refine sC3 (fun _ z _ u _ _ _ d _ _ _ j=>?_) ?_
   · have k:=u rfl;have a0:_=_:=d 10 43 kR rfl;have Z:_=_:=d 7 40 kR rfl;have V:z.cell? ⟨a,b,none⟩=some (.int .i64 (e:Int)):=(by rw [<-t.out];exact (k.cell b).trans (dL c l));have a3:=k.frozen b;go_simp;exact j (.bool true) _ (bJ (Keep.setCell (F:=fun g=>g=a) (Keep.refl _ _) (p:=⟨a,b,none⟩) (.inl rfl) _)) (k.set b _)
   exact aH
 · intro a1 A m d E;replace m:Keep (fun g=>g=a) w1 A:=kD m;obtain ⟨aa,i⟩:∃O,(fun _ r=>Bk r a 214 ((tcells c).setIfInBounds b (.int .i64 ((e+1:Nat):Int)))) O A:=E 11 dC;simp only [zqq];clear d E;have T:A.cell? ⟨a,257,none⟩=some (.int .i64 (y:Int)):=(by refine (i.cell 257).trans ?_;rw [zCe oM,<-C.out];exact gQ c);have a2:=i.frozen 257;obtain ⟨L,J⟩:=hqq2 i m;have a6:=i.lt;clear i m;go_wp2_with fail;go_ret;refine ⟨rfl,?_,?_⟩;rw [<-H.out];exact L.out.set 257 _;exact ((Keep.of_below I.out).trans J.out).setCell (.inl rfl) _
def aDw:tcells []=Tryz.zeroCells214:=by kernel_rfl
def rQ {A:Option Addr} {m:Nat} (E:Nat) {B:Nat} {L:List Nat} {w:World} (k:Rd w B 1 A m (L.map sv)) (G:B<=w.heap.size) (V:m<=1000) (p:∀c∈L,c < 257):
 Calls prog 105 #[.slice A m E] w fun i w'=>∃b,i=.returned (.tuple #[.pointer (some ⟨b,0,none⟩),.int .i64 0])/\w.heap.size<=b/\Bk w' b 214 (tcells L)/\Below w.heap.size w w':=by
 have s:L.length=m:=by simpa using k.1
 obtain ⟨C,x,o,v⟩:=hqq4 k p s G;clear k p s;go_enter func105,ntmps105;go_wp2_with fail;obtain ⟨b,q⟩:=eqx w.heap.size;have J:Bk (w.alloc (.cells Tryz.zeroCells214 214)) b 214 (tcells (L.take 0)):=by rw [List.take_zero,aDw,<-q];exact Bk.new _ _ _
 have H:=(Below.refl w.heap.size w).alloc nL (.cells Tryz.zeroCells214 214)
 try rw [q]
 go_loopw [12] (fun n wr=>∃a:Nat,a<=m/\n=.int .i64 a/\Bk wr b 214 (tcells (L.take a))/\Below w.heap.size w wr) (fun n _=>m -(intOf n).toNat)
 case atStart=>exact ⟨0,by omega,rfl,J,H⟩
 case round=>
  obtain ⟨a,U,rfl,e,d⟩:=hrel;have R:=d.size;by_cases t:a < m
  · have M:a < L.length:=(by rw [o.out];exact t);obtain ⟨c,f⟩:∃c,L[a]?=some c:=⟨L[a],zAa M⟩;obtain ⟨D,W,X,rfl,T,l,K⟩:=((C.out.mono v.out).below d).get t;rw [zAf,f] at l;simp at l;subst l;have O:c < 257:=x.out c (zAd f);have u:L.take (a+1)=L.take a++ [c]:=(by rw [zAv,f];rfl);have S:(L.take a).length<=1000:=(by rw [zAj];omega);unfold sv at K;obtain ⟨y,g⟩:=hqq2 u e;clear u e f;go_wp2_with fail;refine (rR g.out O S).mono ?_;rintro i w1 ⟨rfl,j,r⟩;have I:Below w.heap.size w w1:=d.trans (r.to_below R (fun D d i=>by omega));rw [<-y.out] at j;have z:=lhd j;clear j r;go_wp2_with fail;go_roundw
    case rel=>exact ⟨a+1,by omega,by go_num,z.out,I⟩
    case measure=>simp [intOf];omega
  · have N:a=m:=oM;subst N;rw [zAg (by rw [o.out];omega)] at e;have g:=lhd e;clear e;go_wp2_with fail;go_ret2;exact ⟨b,rfl,by omega,g.out,d⟩
def aI (b:List Nat) (a c:Nat):List Bool:=(b.filter fun d=>aW d a==c).map (fR · a)
def nX (a:Nat) {lv:Nat} (e:lv < 9):aW a (lv+1)=2*aW a lv+(if fR a lv then 1 else 0):=by
 unfold aW fR;have c:9 -(lv+1)=8 - lv:=oM;have d:9 - lv=(8 - lv)+1:=oM;rw [c,d,Nat.pow_succ,<-Nat.div_div_eq_div_mul];generalize a / 2 ^(8 - lv)=q;by_cases b:q % 2=1;simp [b];omega;simp [b];omega
def nW {s:Nat} (a:s < 257):aW s 0=0:=by
 unfold aW;exact Nat.div_eq_of_lt oM
def nY (a:Nat):aW a 9=a:=by
 unfold aW;simp
def lP {s:Nat} (a:Nat) (b:s < 257) (c:a<=9):aW s a < 2 ^ a:=by
 unfold aW;rw [Nat.div_lt_iff_lt_mul (Nat.pos_of_ne_zero (by simp)),<-Nat.pow_add,show a+(9 - a)=9 by omega];omega
def aEp (e:List Nat) (a b:Nat) (j:a < 9):(aI e a (aW b a)).count (fR b a)=e.countP (fun l=>aW l (a+1)==aW b (a+1)):=by
 induction e with
 | nil=>rfl
 | cons c o k=>
   have f:=nX c j;have g:=nX b j;unfold aI at k⊢;rw [zBn,<-k,List.filter_cons];by_cases d:aW c a=aW b a
   · rw [zBx (by simp [d]),List.map_cons,List.count_cons];by_cases i:fR c a=fR b a
     · have:aW c (a+1)=aW b (a+1):=(by rw [f,g,d,i]);simp [i,this]
     · have:aW c (a+1)≠aW b (a+1):=(by rw [f,g,d];cases m:fR c a <;> cases n:fR b a <;> simp_all);simp [i,this]
   · rw [zBw (by simp [d])];have:aW c (a+1)≠aW b (a+1):=(by rw [f,g];cases fR c a <;> cases fR b a <;> simp <;> omega);simp [this]
def aGs (d:List Nat) (b c a:Nat):(aI d b c).take ((d.take a).countP fun j=>aW j b==c)=aI (d.take a) b c:=by
 induction d generalizing a with
 | nil=>simp [aI]
 | cons f k i=>
   rcases a with _ | a
   · simp [aI]
   · have:=i a;unfold aI at this⊢;rw [List.take_succ_cons,zBn,List.filter_cons,List.filter_cons];by_cases e:aW f b=c
     · simp only [e,beq_self_eq_true,if_true,List.map_cons,List.take_succ_cons,this]
     · have g:(aW f b==c)=false:=(by simp [e]);simp only [g,Bool.false_eq_true,if_false,zBq,this]
def jG (a:List Nat) (b c:Nat):(aI a b c).length=a.countP fun d=>aW d b==c:=by
 unfold aI;rw [zBc,List.countP_eq_length_filter]
def fB (b:List Nat) (c e a:Nat):Nat:=(b.take c).countP fun d=>aW d a==aW e a
def lE {L:List Nat} {k s0:Nat} (e:k<=L.length) (b:∀a∈L,a < 257) (c:s0 < 257):fB L k s0 0=k:=by
 unfold fB;rw [List.countP_eq_length.2 (fun a d=>by
  have:=b a (List.mem_of_mem_take d);simp [nW this,nW c]),zAj]
 omega
def lF (b:List Nat) (c a:Nat) {lv:Nat} (d:lv < 9):((aI b lv (aW a lv)).take (fB b c a lv)).count (fR a lv)=fB b c a (lv+1):=by
 unfold fB;rw [aGs,aEp _ _ _ d]
def aFn (a:List Nat) (c d b:Nat):fB a c d b<=(aI a b (aW d b)).length:=by
 unfold fB;rw [jG];exact (List.take_sublist c a).countP_le
def aAj (a:List Nat) (b c:Nat):fB a b c 9=(a.take b).count c:=by
 unfold fB;rw [List.count_eq_countP];congr 1;funext s;rw [nY,nY]
def eA (b:Nat->Nat) (c d:Nat):List Value:=(List.range d).flatMap fun a=> [.pointer (some ⟨b a,0,none⟩),.int .i64 (c:Int),.int .i64 (a:Int)]
def iA (b:Nat->Nat) (c a:Nat):eA b c (a+1)=eA b c a++ [.pointer (some ⟨b a,0,none⟩),.int .i64 (c:Int),.int .i64 (a:Int)]:=by
 unfold eA;rw [List.range_succ,List.flatMap_append];simp
def vI (b:Nat->Nat) (d a:Nat):(eA b d a).length=a*3:=by
 induction a with
 | zero=>rfl
 | succ a c=>rw [iA,zAi,c];simp;omega
def eU (c:Nat->Nat) (d b a:Nat) (l:a < b):(eA c d b)[a*3]?=some (.pointer (some ⟨c a,0,none⟩))/\(eA c d b)[a*3+1]?=some (.int .i64 (d:Int))/\(eA c d b)[a*3+2]?=some (.int .i64 (a:Int)):=by
 induction b with
 | zero=>omega
 | succ b k=>
   rw [iA];by_cases f:a=b;subst f;have e:=vI c d a;refine ⟨?_,?_,?_⟩;rw [zAo oM,e,Nat.sub_self];rfl;rw [zAo oM,e,show a*3+1 - a*3=1 by omega];rfl;rw [zAo oM,e,show a*3+2 - a*3=2 by omega];rfl;have e:=vI c d b;obtain ⟨g,i,j⟩:=k oM;refine ⟨?_,?_,?_⟩;rw [zAn oM];exact g;rw [zAn oM];exact i;rw [zAn oM];exact j
def aAF (c d:Nat->Nat) (f a:Nat) (e:∀b,b < a->c b=d b):eA c f a=eA d f a:=by
 induction a with
 | zero=>rfl
 | succ a g=>rw [iA,iA,g (fun b i=>e b oM),e a oM]
def ShelfRow (w:World) (B:Nat) (f:Value) (e:List Nat) (d c:Nat):Prop:=
 ∃(b:Nat->Nat),w.ownsRow B 211 3 f c (eA b d c)/\∀a,a < c->B<=b a/\TreeAt w (b a) (aI e d a)
def ShelfRow.vis {w w':World} {B:Nat} {i:Value} {a:List Nat} {e f:Nat} (k:ShelfRow w B i a e f) (d:Vis w w'):ShelfRow w' B i a e f:=by
 obtain ⟨j,l,b⟩:=k;exact ⟨j,d.own l dC dC,fun g c=>⟨(b g c).1,(b g c).2.vis d⟩⟩
def ShelfRow.below {w w':World} {B:Nat} {d:Value} {a:List Nat} {b c:Nat} (e:ShelfRow w B d a b c) (f:Below w.heap.size w w'):ShelfRow w' B d a b c:=e.vis (Vis.of_below f)
def WaveAt (w:World) (B d:Nat) (b:List Nat):Prop:=
 B<=d/\∃(c:Nat->Value) (e:Int),Bk w d 206 (wcells c (b.length:Int) e)/\∀a,a < 9->ShelfRow w B (c a) b a (2 ^ a)
def WaveAt.vis {w w':World} {B b:Nat} {a:List Nat} (e:WaveAt w B b a) (c:Vis w w'):WaveAt w' B b a:=by
 obtain ⟨f,d,n,g,i⟩:=e;obtain ⟨m,j⟩:=c.waveC g;exact ⟨f,d,m,j,fun l k=>(i l k).vis c⟩
def WaveAt.below {w w':World} {B b:Nat} {a:List Nat} (c:WaveAt w B b a) (d:Below w.heap.size w w'):WaveAt w' B b a:=c.vis (Vis.of_below d)
abbrev VB (B:Nat):World->World->Prop:=VisK (fun a=>B<=a)
def bD {B:Nat} {w w':World} (a:VB B w.drew w'):VB B w w':=⟨⟨a.1.os,a.1.tape,a.1.output,a.1.size,a.1.block⟩,⟨a.2.os,a.2.tape,a.2.output,a.2.size,a.2.block⟩⟩
def VB.to_below {B:Nat} {w w':World} (b:VB B w w') (c:B<=w.heap.size):Below B w w':=b.2.to_below c (fun d e a=>by have:=a;omega)
def VB.set_wave {w:World} {B a:Nat} {d:Array Value} (e:Bk w a 206 d) (f:B<=a) (b:Int):VB B w (w.setCell ⟨a,10,none⟩ (.int .i64 b)):=⟨Vis.set_wave e b,Keep.setCell (F:=fun c=>B<=c) (Keep.refl _ _) (p:=⟨a,10,none⟩) (.inl f) _⟩
def ix9 (a:Nat->Value) {lv:Nat} (b:lv < 9) (w:World):(Instr.index 204 (.agg #[a 0,a 1,a 2,a 3,a 4,a 5,a 6,a 7,a 8]) (.int .i64 (lv:Int))).run prog w=.ok (a lv) w:=by
 rcases lv with _ | _ | _ | _ | _ | _ | _ | _ | _ | lv
 all_goals first |(exfalso;omega)| kernel_rfl
def gM {B gv:Nat} {L:List Nat} (c:Nat) {s:Nat} {w:World} (aK:WaveAt w B gv L) (x:s < 257) (al:c<=L.length) (J:∀p∈L,p < 257) (aN:L.length<=1000):
 Calls prog 225 #[gv,(c:Int),(s:Int)] w fun r w'=>r=.returned (.int .i64 (((L.take c).count s:Nat):Int))/\VB B w w':=by
 have ah:=lE (L:=L) (k:=c) (s0:=s) al J x;have ai:=aAj L c s;obtain ⟨aj,d,a2,j,an⟩:=aK;have y:=j.set 10 (.int .i64 0);rw [dS] at y;have Y:=VB.set_wave j aj 0;obtain ⟨o,T⟩:=eqx L.length;rw [T] at j y al aN;have bw:max (c:Int) 0=(c:Int):=oM;have bx:min (c:Int) (o:Int)=(c:Int):=oM;have aJ:=j.frozen 10;have b0:w.cell? ⟨gv,10,none⟩=some (.int .i64 a2):=(j.cell 10).trans (bV d o a2).2.2.2.2.2.2.2.2.2.2;have br:=j.lt;obtain ⟨b3,K⟩:=eqx (w.setCell ⟨gv,10,none⟩ (.int .i64 0));rw [K] at y Y;obtain ⟨G,a5,az,aq,ar,b1,b2,au⟩:=hqq8 y Y an ah ai J T K;clear j an y Y ah ai J T K;go_enter func225,ntmps225;go_wp2_with fail;rw [au.out];refine (eP (s:=s) _ x).mono ?_;rintro r w1 ⟨rfl,M⟩;have g:=G.out.below M G.out.lt;have ao:=a5.out.below M;obtain ⟨a7,a8,a9,aa,ab,ac,ad,ae,af,ag,aE⟩:=bV d (o:Int) 0;have b7:w1.cell? gv=some (d 0):=(g.cell 0).trans a7;have b8:w1.cell? ⟨gv,1,none⟩=some (d 1):=(g.cell 1).trans a8;have b9:w1.cell? ⟨gv,2,none⟩=some (d 2):=(g.cell 2).trans a9;have ba:w1.cell? ⟨gv,3,none⟩=some (d 3):=(g.cell 3).trans aa;have bb:w1.cell? ⟨gv,4,none⟩=some (d 4):=(g.cell 4).trans ab;have bc:w1.cell? ⟨gv,5,none⟩=some (d 5):=(g.cell 5).trans ac;have bd:w1.cell? ⟨gv,6,none⟩=some (d 6):=(g.cell 6).trans ad;have be:w1.cell? ⟨gv,7,none⟩=some (d 7):=(g.cell 7).trans ae;have bf:w1.cell? ⟨gv,8,none⟩=some (d 8):=(g.cell 8).trans af;have bg:w1.cell? ⟨gv,9,none⟩=some (.int .i64 (o:Int)):=(g.cell 9).trans ag;obtain ⟨aw,H⟩:=hqq2 g ao;clear a7 a8 a9 aa ab ac ad ae af ag aE g ao M G a5 b0 aJ;go_wp2_with fail;go_loopw [1,28] (fun p z wr=>∃a:Nat,a<=9/\z=.int .i64 a/\p=.int .i64 ((fB L c s a:Nat):Int)/\VB B w1 wr) (fun _ z _=>9 -(intOf z).toNat)
 case atStart=>exact ⟨0,by omega,rfl,by rw [aq.out],VisK.refl _ _⟩
 case round=>
  obtain ⟨a,bt,rfl,rfl,X⟩:=hrel;by_cases C:a < 9
  · have aM:=ix9 (lv:=a) d C;obtain ⟨E,t,W⟩:=az.out a C;obtain ⟨m,R⟩:=eqx (2 ^ a);obtain ⟨b,u⟩:=eqx (aW s a);have am:b < m:=(by rw [<-R,<-u];exact lP (s:=s) a x oM);rw [R] at t W;obtain ⟨q,a6,ak,bu,bq⟩:=World.ownsRow.form t oM;rw [ak] at aM t;obtain ⟨p,D⟩:=eqx (fB L c s a);obtain ⟨a3,a1⟩:=eqx (fB L c s (a+1));obtain ⟨I,O⟩:=eqx (fR s a);have a0:=lF (lv:=a) L c s C;have Z:=aFn L c s a;rw [u,D,O,a1] at a0;rw [u,D] at Z;rw [D];have bv:(b:Int) < (m:Int):=oM;obtain ⟨aB,aA,ax,a4,ay,av,aC,A⟩:=hqq8 a0 Z t (W b am) u O a1 X;clear t W ak R u D a1 O a0 Z X;go_wp2_with fail;refine wp_region_any kR ?_;refine aY (S:=(VB B)) (V:=(Vs [is gv,is (.slice (some q) m a6),is (s:Int),is (a:Int),is (b:Int),is (.pointer (some ⟨q,b*3,none⟩)),is (.agg #[.pointer (some ⟨E b,0,none⟩),(a:Int),(b:Int)]),is (p:Int),is (s:Int),is (a:Int),is (.bool I),is (a3:Int),is (a3:Int)])) [32,33,34,35,36,37,38,39,40,41,42,43,1] _ rfl kR vR (fun _ _=>VisK.trans) (cK tA0) ?_ ?_
    · refine aV ?_;refine pH 0 (.pointer (some gv)) ?_;refine pH 8 (.slice (some q) m a6) ?_;refine pH 2 (.int .i64 (s:Int)) ?_;refine pH 7 (.int .i64 (a:Int)) ?_;refine sC (fun _ i _ _ _ _ e _ _ _ l=>?_) ?_
      · have bi:_=_:=e 2 34 kR rfl;have bj:_=_:=e 3 35 kR rfl;go_simp;refine (kE (s:=s) a i x oM).mono ?_;rintro r ap ⟨rfl,N⟩;rw [ay.out];exact l _ _ (VisK.of_below N) rfl
      refine pW 1 33 4 36 ?_;refine sC (fun _ i f _ _ _ e _ _ _ l=>?_) ?_
      · have bk:_=_:=e 5 37 kR rfl;replace f:(VB B) wr i:=bD f;have U:=(H.out.trans (A.out.trans f)).1.own ax.out dC dC;obtain ⟨aS,aT,aU⟩:=eU E a m b am;have b4:i.cell? ⟨q,b*3,none⟩=_:=(World.ownsRow.cellAt U (b*3) oM).trans aS;have b5:i.cell? ⟨q,b*3+1,none⟩=_:=(World.ownsRow.cellAt U (b*3+1) oM).trans aT;have b6:i.cell? ⟨q,b*3+2,none⟩=_:=(World.ownsRow.cellAt U (b*3+2) oM).trans aU;go_simp;exact l _ _ vR rfl
      refine pH 1 (.int .i64 (p:Int)) ?_;refine pH 2 (.int .i64 (s:Int)) ?_;refine pH 7 (.int .i64 (a:Int)) ?_;refine sC (fun _ i _ _ _ _ e _ _ _ l=>?_) ?_
      · have bn:_=_:=e 8 40 kR rfl;have bo:_=_:=e 9 41 kR rfl;go_simp;refine (mD (s:=s) (lv:=a) i x C).mono ?_;rintro r ap ⟨rfl,N⟩;rw [av.out];exact l _ _ (VisK.of_below N) rfl
      refine sC (fun _ i f _ _ _ e _ _ _ l=>?_) ?_
      · have bh:_=_:=e 0 32 kR rfl;have bl:_=_:=e 6 38 kR rfl;have bm:_=_:=e 7 39 kR rfl;have bp:_=_:=e 10 42 kR rfl;replace f:(VB B) wr i:=bD f;go_simp;obtain ⟨aX,aR⟩:=(A.out.trans f).1.waveC aw.out;have aO:=a4.out.2.vis (H.out.trans (A.out.trans f)).1;refine (mC (gv:=gv) (gt:=(E b)) (S:=d) (n:=o) (v:=aX) (bs:=(aI L a b)) (k:=p) (w:=i) a b I aR aO aA.out).mono ?_;rintro r ap ⟨rfl,aQ⟩;rw [aB.out];exact l _ _ (aQ.mono fun I j=>by rcases j with rfl | rfl;exact aj;exact a4.out.1) rfl
      refine pV 11 43 ?_;exact aH
    · intro aG aZ f e;replace f:(VB B) wr aZ:=bD f;have aF:aG (.tmp 1)=.int .i64 (a3:Int):=e 12 1 rfl;simp only [zqq];rw [aF];clear e;have aP:=A.out.trans f;go_wp2_with fail;go_roundw
      case rel=>exact ⟨a+1,by omega,by go_num,by rw [aC.out],aP⟩
      case measure=>simp [intOf];omega
  · have aL:a=9:=oM;subst aL;rw [ar.out];go_wp2_with fail;go_ret;exact ⟨rfl,H.out.trans X⟩
@[irreducible] def rowC (aD:Nat->Value) (m:Nat):Array Value:=Array.ofFn (n:=m) fun z=>aD z.val
def nU (b:Nat->Value) (a:Nat):(rowC b a).size=a:=by unfold rowC;simp
def mT (b:Nat->Value) {c a:Nat} (d:a < c):(rowC b c)[a]?=some (b a):=by
 unfold rowC;rw [Array.getElem?_ofFn,dif_pos d]
def aHu (f:Nat->Value) {d c:Nat} (i:c < d) (g:Value):(rowC f d).setIfInBounds c g=rowC (fun b=>if b=c then g else f b) d:=by
 apply Array.ext_getElem?;intro b;rcases zBe b d with a | a
 · rw [mT _ a];by_cases e:c=b
   · subst e;rw [Array.getElem?_setIfInBounds_self_of_lt (by rw [nU];exact i),zBx rfl]
   · rw [zCe e,mT _ a,zBw (fun j=>e j.symm)]
 · rw [Array.getElem?_eq_none (by simp [nU];exact a),Array.getElem?_eq_none (by rw [nU];exact a)]
def aDI (c:Value) (b:Nat):rowC (fun _=>c) b=Array.replicate b c:=by
 apply Array.ext_getElem?;intro d;rcases zBe d b with a | a
 · rw [mT _ a];simp [a]
 · rw [Array.getElem?_eq_none (by rw [nU];exact a),Array.getElem?_eq_none (by simpa using a)]
structure Bits (w:World) (B gB m:Nat) (T:Nat->Value) (R:Nat->List Bool):Prop where
 blk:Bk w gB 152 (rowC T m)
 own:∀p,p < m->w.ownsRow B 4 1 (T p) (R p).length ((R p).map Value.bool)
 apart:∀p q,p < m->q < m->p≠q->∀b,(T p).ownBlock=some b->(T q).ownBlock≠some b
def Bits.same {w w':World} {B f g:Nat} {e:Nat->Value} {d:Nat->List Bool} (c:Bits w B f g e d) (k:∀a b,Bk w a 152 b->Bk w' a 152 b) (l:∀a b,Bk w a 4 b->Bk w' a 4 b):Bits w' B f g e d:=
 ⟨k _ _ c.blk,fun m j=>aA (c.own m j) fun a b _ i=>l a b i,c.apart⟩
def Bits.below {w w':World} {B d f:Nat} {c:Nat->Value} {b:Nat->List Bool} (j:Bits w B d f c b) (e:Below w.heap.size w w'):Bits w' B d f c b:=j.same (fun g i a=>a.below e a.lt) (fun g i a=>a.below e a.lt)
def Bits.start (w:World) (B a b:Nat) (c:Bk w a 152 (rowC (fun _=>.slice none 0 0) b)):Bits w B a b (fun _=>.slice none 0 0) (fun _=> []):=
 ⟨c,fun e g=>World.ownsRow_nil _ _ _ _,fun e i _ _ _ f d=>by simp [Value.ownBlock] at d⟩
def Bits.push {w w1:World} {B o r a:Nat} {i:Nat->Value} {n:Nat->List Bool} {v:Value} {b:Bool} (j:Bits w B o r i n) (s:a < r) (I:Keep (fun b=>(i a).ownBlock=some b) w w1)
 (L:w1.ownsRow B 4 1 v ((n a).length+1) ((n a).map Value.bool++ [.bool b])) (x:v.ownBlock=(i a).ownBlock∨∃e,v.ownBlock=some e/\w.heap.size<=e):
 Bits (w1.setCell ⟨o,a,none⟩ v) B o r (fun q=>if q=a then v else i q) (fun q=>if q=a then n a++ [b] else n q):=by
 have K:(i a).ownBlock≠some o:=by intro d;exact aS (j.own a s) j.blk dC d.symm
 have C:=I.bk j.blk K;have E:∀e m,Bk w1 e 4 m->Bk (w1.setCell ⟨o,a,none⟩ v) e 4 m:=fun e m k=>k.far (Bk.ne k C dC) _;refine ⟨?_,fun c g=>?_,fun c z g D y t p=>?_⟩;rw [<-aHu i s v];exact C.set a v;by_cases d:c=a;subst d;rw [zBx rfl,zBx rfl,zAi,zAz];exact aA L fun e m _ k=>E e m k;rw [zBw d,zBw d];refine aA (j.own c g) fun e m k J=>E e m (I.bk J ?_);exact fun f=>j.apart c a g s d e k f;have N:∀c,c < r->∀f,(i c).ownBlock=some f->f < w.heap.size:=fun c g f l=>((j.own c g).lt f l).2;have G:∀c,c < r->c≠a->∀f,v.ownBlock=some f->(i c).ownBlock≠some f:=(by intro c g M f l H;rcases x with x |⟨e,k,O⟩;rw [x] at l;exact j.apart a c s g (fun d=>M d.symm) f l H;rw [k] at l;cases l;have:=N c g _ H;omega);by_cases u:c=a;subst u;rw [zBx rfl] at p;rw [zBw (fun d=>y d.symm)];exact G z D (fun d=>y d.symm) t p;rw [zBw u] at p;by_cases A:z=a;subst A;rw [zBx rfl];intro l;exact G c g u t l p;rw [zBw A];exact j.apart c z g D y t p
def aGt (d:List Nat) (c a b:Nat):aI (d++ [c]) a b=if b=aW c a then aI d a b++ [fR c a] else aI d a b:=by
 unfold aI;rw [List.filter_append,zAz];by_cases e:b=aW c a
 · rw [zBx e];simp [e]
 · rw [zBw e];have:(aW c a==b)=false:=(by simp;omega);simp [this]
def Bits.congr {w:World} {B f c:Nat} {e:Nat->Value} {d R':Nat->List Bool} (b:Bits w B f c e d) (i:∀a,a < c->d a=R' a):Bits w B f c e R':=
 ⟨b.blk,fun a g=>by rw [<-i a g];exact b.own a g,b.apart⟩
def eI {w:World} {e:Nat} {a:TypeId} {n m b:Nat} {d:Value} {o:List Value} (k:w.ownsRow e a n d m o) (c:d.ownBlock=some b):∃f,Bk w b a f:=by
 rcases k.2 with ⟨rfl,_⟩|⟨j,p,g,rfl,_,l,_⟩
 · simp [Value.ownBlock] at c
 have i:j=b:=(by simpa [Value.ownBlock] using c);subst i;exact ⟨g,l⟩
def TreeAt.keepT {w w':World} {F:Nat->Prop} {e:Nat} {c:List Bool} (j:TreeAt w e c) (o:Keep F w w') (m:∀a,F a->∃b d,Bk w a b d/\(b=206∨b=211)):TreeAt w' e c:=by
 refine j.same fun a b d g f=>o.bk f fun k=>?_;obtain ⟨q,p,l,n⟩:=m a k;have i:=(aL f l).1;subst i;rcases n with rfl | rfl;exact absurd g dC;exact absurd g dC
def ShelfRow.keepW {w w':World} {b B:Nat} {c:Array Value} {p:Value} {f:List Nat} {m n:Nat} (r:ShelfRow w B p f m n) (l:Keep (fun a=>a=b) w w') (k:Bk w b 206 c):ShelfRow w' B p f m n:=by
 obtain ⟨q,s,g⟩:=r;refine ⟨q,aA s fun a c _ i=>l.bk i fun d=>?_,fun o j=>⟨(g o j).1,(g o j).2.keepT l fun a d=>by
  have e:a=b:=d;subst e;exact ⟨_,c,k,.inl rfl⟩⟩⟩
 have e:a=b:=d;subst e;exact absurd (aL i k).1 dC
def ShelfRow.mono {w:World} {B B':Nat} {i:Value} {a:List Nat} {e f:Nat} (k:ShelfRow w B i a e f) (c:B'<=B):ShelfRow w B' i a e f:=by
 obtain ⟨j,l,b⟩:=k;exact ⟨j,cD l c,fun g d=>⟨zAk c (b g d).1,(b g d).2⟩⟩
end
section
open Go.RowKit Go
section
variable {P : Program} {ops : Array Oper} {Q : Exit -> Act -> World -> Prop} {md : Region.Mode}
end
def VFB (B:Nat) (F:Nat->Prop) (w w':World):Prop:=VisF F w w'/\Keep (fun a=>F a∨B<=a) w w'
def fD {B:Nat} {F:Nat->Prop} {w w':World} (a:VFB B F w.drew w'):VFB B F w w':=⟨⟨a.1.os,a.1.tape,a.1.output,a.1.size,a.1.block⟩,⟨a.2.os,a.2.tape,a.2.output,a.2.size,a.2.block⟩⟩
section
variable {B : Nat} {F : Nat -> Prop} {w w1 w' : World}
def VFB.of_vb (a:VB B w w'):VFB B F w w':=⟨VisF.of_vis a.1,a.2.mono fun _ _ b=>.inr b⟩
def VFB.trans (a:VFB B F w w1) (b:VFB B F w1 w'):VFB B F w w':=⟨a.1.trans b.1,a.2.trans b.2⟩
def VFB.put (b:VFB B F w w1) {p:Addr} (c:F p.block∨w.heap.size<=p.block) (a:Value):VFB B F w (w1.setCell p a):=⟨VisF.put b.1 c a,b.2.setCell (c.elim (fun d=>.inl (.inl d)) .inr) a⟩
def VFB.wider {d:Nat->Prop} (b:VFB B F w w') (e:∀a,F a->d a):VFB B d w w':=⟨⟨b.1.os,b.1.tape,b.1.output,b.1.size,fun a f g=>b.1.block a f (fun c=>g (e a c))⟩,b.2.mono fun a _ c=>c.elim (fun c=>.inl (e a c)) .inr⟩
def VFB.to_vb (c:VFB B F w w') (d:∀a,a < w.heap.size->¬F a):VB B w w':=⟨c.1.to_vis d,c.2.mono fun a e b=>b.elim (fun b=>absurd b (d a e)) id⟩
end
def aFp (B:Nat) (F:Nat->Prop) (a b:Nat) (w w':World):Prop:=(b=a->VFB B F w w')/\(b≠a->VB B w w')
def zL {B:Nat} {F:Nat->Prop} {a d:Nat} {w w':World} (b:aFp B F a d w w'):VFB B F w w':=by
 by_cases c:d=a;exact b.1 c;exact VFB.of_vb (b.2 c)
def aE {B:Nat} {F:Nat->Prop} {b c:Nat} {w w':World} (a:VB B w w'):aFp B F b c w w':=⟨fun _=>VFB.of_vb a,fun _=>a⟩
def iX {B:Nat} {F:Nat->Prop} {a:Nat} {w w':World} (c:VFB B F w w'):aFp B F a a w w':=⟨fun _=>c,fun b=>absurd rfl b⟩
def bQ {P:Program} {ops:Array Oper} {Q:Exit->Act->World->Prop} {md:Region.Mode} (B c:Nat) (p:List Nat) (F:Nat->Prop) (d:Nat) (v:List Nat) {pre:World->Prop} {pJ:Value->World->Prop} (l:List (Value->World->Prop)) (k:Act) {g:World} (C:(ops.toList.take c).filterMap (·.dst)=p) (G:c<=ops.size) (E:jW md ops k.tmps.size=true) (M:((List.range ops.size).all fun b=>decide (b < c)||(List.range c).all fun a=>upB md ops ops.size b a)=true) (J:(v.all fun a=>a==d||upB md ops ops.size d a)=true) (I:pre g) (H:∀w w',pre w->VFB B F g w->VB B w w'->pre w') (A:aGz (VB B) pJ) (K:∀O∈l,aGz (VFB B F) O) (L:∀e u,e < c->ops[e]?=some u->dH P ops Q md (VFB B F g) (aFp B F d) (fun a w=>v.contains a=true->pre w) (VsJ d pJ l) k e u) (D:∀(q:Operand->Value) w f,VFB B F g w->(∀a o,a < c->((ops[a]?).bind (·.dst))=some o->VsJ d pJ l a (q (.tmp o)) w)->(∀a,a < c->∃m,VsJ d pJ l a m w)->wpAny P md ops Q (ops.size - c+f) (bX c ops.size) (cX q p k) w):
 wpAny P md ops Q ops.size (Array.replicate ops.size false) k g:=by
 refine tM C G E M (VFB.of_vb vR) (fun _ _=>I) (fun e w w' _ y b=>y.trans (zL b)) (fun a e w w' _ n N i z b s=>?_) (fun a e m w w' _ n _ j _ b=>?_) L D;by_cases t:e=d;exfalso;subst t;have r:=zBf.1 J a (by simpa using s);simp only [N,Bool.or_false,zCr] at r;exact n r;exact H w w' (i s) z (b.2 t);unfold VsJ at j⊢;by_cases i:a=d;rw [zBx i] at j⊢;exact A m w w' j (b.2 fun x=>n (i.trans x.symm));rw [zBw i] at j⊢;exact cK K a m w w' j (zL b)
end
section
open Go.RowKit
def uB {a:Nat} {e:List Bool} {d:Nat} {w:World} (f:TreeAt w a e) (z:d < e.length):
 Calls prog 258 #[a,(d:Int)] w fun k w'=>k=.returned (.int .i64 0)/\VisK (fun t=>t=a) w w':=by
 have A:∃c,Bk w a 266 c/\3 < c.size:=by obtain ⟨D,L,⟨rfl,M,l⟩|⟨H,l,G,C,E,x⟩⟩:=f;exact ⟨_,l,by simp⟩;exact ⟨_,x.tree,by simp⟩
 obtain ⟨c,b,y⟩:=A;have g:=VisK.set_tree b 0;have o:=f.vis g.1;have I:=b.lt;have u:w.cell? ⟨a,3,none⟩=some c[3]:=by rw [b.cell 3];simp [y]
 have v:=b.frozen 3;have J:¬(d:Int) < 0:=oM;obtain ⟨i,j⟩:=hqq2 g o;obtain ⟨s,m⟩:=eqx e.length;have q:=lhd m;have K:¬(s<=d):=oM;clear f g o b m z;go_enter func258,ntmps258;go_wp2_with fail;clear u v;refine (eG j.out).mono ?_;rintro k N ⟨rfl,n⟩;rw [q.out];have p:=i.out.below n;have r:=lhd p;clear p n i j;go_wp2_with fail;go_ret;exact ⟨rfl,r.out⟩
def aCS {g:Nat} {b:List Bool} {e:Nat} {w:World} (n:TreeAt w g b) (d:e < b.length):
 Calls prog 209 #[g,(e:Int)] w fun j w'=>j=.returned (.tuple #[.bool (b.getD e false),.int .i64 0])/\VisK (fun y=>y=g) w w':=by
 have i:=lhd n;obtain ⟨I,c⟩:=eqx (b.getD e false);rw [c];obtain ⟨v,x⟩:=hqq2 c d;clear n c;go_enter func209,ntmps209;go_wp2_with fail;refine (uB i.out d).mono ?_;rintro j E ⟨rfl,l⟩;have C:=i.out.vis l.1;have t:=lhd l;clear l i;obtain ⟨Z,D,⟨k,_,_⟩|⟨k,o,A,N,z,a⟩⟩:=C
 · rw [k] at d;simp at d
 clear d;obtain ⟨J,K,L,M,O,R,S,T,U,V,W,X⟩:=a.cells;have a2:=a.row.lt;have a0:=a.tree.lt;have a1:g≠A:=a.row.bk_ne a.tree dC;have Y:=a.tree.frozen 3;obtain ⟨f,m⟩:=hqq2 a o;clear a o k;go_wp2_with fail;go_loopw [1,7,8] (fun G H a4 wr=>G=.int .i64 (e:Int)/\H=.int .i64 0/\wr=E) (fun _ _ _ _=>0)
 case atStart=>exact ⟨rfl,rfl,rfl⟩
 case round=>obtain ⟨rfl,rfl,rfl⟩:=hrel;go_wp2_with fail;have q:=Bk.ne f.out.blk f.out.tree dC;have c:=m.out;have r:=(VisK.set_tree f.out.tree (wrap64 (D+1))).alloc (.cells #[.int .i64 (-1),.int .i64 (-1),.int .i64 0,(b.length:Int),.int .i64 ((b.count true:Nat):Int),.int .i64 0,.int .i64 0,z] 276);refine (aBJ ((f.out.blk.far q _).alloc _) m.out x.out).mono ?_;rintro j a3 ⟨rfl,p⟩;rw [v.out];have s:=(t.out.trans r).below p;have u:=lhd s;clear r p s q c;go_wp2_with fail;go_ret2;exact ⟨rfl,u.out⟩
end
end Go.Proofs.YtcoooelofcejbaaGreatDoor
