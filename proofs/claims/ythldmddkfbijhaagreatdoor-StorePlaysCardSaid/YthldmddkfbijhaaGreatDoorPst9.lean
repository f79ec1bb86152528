/- Lemmas of the walk. Conditions: each its own. -/
import Derived.Test.YthldmddkfbijhaaGreatDoorPst8
import Derived.Test.YthldmddkfbijhaaGreatDoorProg
import Derived.Test.YthldmddkfbijhaaGreatDoorShl
import Derived.Test.YthldmddkfbijhaaGreatDoorShi
import Derived.Test.YthldmddkfbijhaaGreatDoorShs
set_option linter.all false
set_option maxRecDepth 100000
set_option maxHeartbeats 4000000
open Go.Proofs.Tryz
namespace Go.Proofs.YthldmddkfbijhaaGreatDoor
section
open Go.RowKit Go
section
variable {P : Program} {ops : Array Oper} {Q : Exit -> Act -> World -> Prop} {md : Region.Mode}
end
section
variable {B : Nat} {F : Nat -> Prop} {w w1 w' : World}
theorem VFB.wider {d:Nat->Prop} (b:VFB B F w w') (e:∀a,F a->d a):VFB B d w w':=⟨⟨b.1.os,b.1.tape,b.1.output,b.1.size,fun a f g=>b.1.block a f (fun c=>g (e a c))⟩,b.2.mono fun a _ c=>c.elim (fun c=>.inl (e a c)) .inr⟩
end
end
section
theorem aHu (a:List UInt8) {k:Nat} (b:UInt8) (c:k < a.length):aF (a.set k b)=(aF a).set k (b.toNat+1):=by
 unfold aF dF;rw [List.map_set];exact (List.set_append_left _ _ (by simpa using c)).symm
section
variable {S S' : Nat -> Prop} {r N at_ : Nat}
end
end
section
open Go.RowKit
def gR (T D:List UInt8) (k:Nat):List Nat:=(List.range k).filter fun a=>D.isPrefixOf (T.drop a)
def fC (T D:List UInt8):List Nat:=gR T D (T.length+1 - D.length)
theorem aEF (T D:List UInt8) (k:Nat) (a:D.isPrefixOf (T.drop k)=true):gR T D (k+1)=gR T D k++ [k]:=by
 simp [gR,List.range_succ,List.filter_append,a]
theorem aAA (T D:List UInt8) (k:Nat) (a:D.isPrefixOf (T.drop k)=false):gR T D (k+1)=gR T D k:=by
 simp [gR,List.range_succ,List.filter_append,a]
theorem aAB (T D:List UInt8) (k:Nat):(gR T D k).length<=k:=by
 have:=zCu (fun a=>D.isPrefixOf (T.drop a)) (List.range k);rw [zCi] at this;exact this
def aZ (kind p k:Int) (AD:Option Addr) (nd cd:Nat):Value:=.agg #[.int .i64 kind,.int .i64 p,.int .i64 k,.slice AD nd cd]
theorem bB (w:World) (B:Nat) (a:TypeId):Made w B a 1 none 0 0 []:=⟨World.ownsRow_nil _ _ _ _,Rd.nil _ _ _ _,zAs _,zAp _⟩
def iE (a:Nat) (p k:Int):Bool:=decide (0<=p/\0<=k/\p<=(a:Int)/\k<=(a:Int) - p)
def doM (T:List UInt8) (most kind p k:Int) (D:List UInt8):List UInt8×Told:=
 if kind=1 then
    if iE T.length p 0=false then (T,⟨2,0, [], []⟩) else if most -(T.length:Int) < (D.length:Int) then (T,⟨3,0, [], []⟩) else (T.take p.toNat++(D++T.drop p.toNat),⟨0,0, [], []⟩)
 else if kind=2 then
    if iE T.length p k=false then (T,⟨2,0, [], []⟩) else (T.take p.toNat++T.drop (p.toNat+k.toNat),⟨0,0, [], []⟩)
 else if kind=5 then
    if iE T.length p k=false then (T,⟨2,0, [], []⟩) else (T,⟨0,0,(T.drop p.toNat).take k.toNat, []⟩)
 else if kind=3 then
    if iE T.length p (D.length:Int)=false then (T,⟨2,0, [], []⟩) else (T.take p.toNat++(D++T.drop (p.toNat+D.length)),⟨0,0, [], []⟩)
 else if kind=4 then (T,⟨0,(T.length:Int), [], []⟩)
 else if kind=6 then (T,⟨0,((fC T D).length:Int), [], []⟩)
 else if kind=7 then (T,⟨0,((fC T D).length:Int), [],fC T D⟩)
 else if kind=8 then (T,⟨0,0, [], []⟩)
 else (T,⟨1,0, [], []⟩)
theorem iJ {d:Nat} {p k:Int} (c:iE d p k=true):∃a b:Nat,p=(a:Int)/\k=(b:Int)/\a+b<=d:=by
 unfold iE at c;have:=of_decide_eq_true c;exact ⟨p.toNat,k.toNat,by omega,by omega,by omega⟩
end
section
def uM (a:List UInt8) (k:Nat) (b:List UInt8):List UInt8:=a.take k++(b++a.drop k)
theorem aIm (a:List UInt8) (k:Nat):uM a k []=a:=by
 unfold uM;rw [List.nil_append,zAu]
theorem wU (a:List UInt8) {k:Nat} (b:List UInt8) (c:k<=a.length):(uM a k b).length=a.length+b.length:=by
 unfold uM;rw [zAi,zAi,zAj,zAw];omega
theorem aIn (a:List UInt8) {k:Nat} (b:List UInt8) (c:UInt8) (e:k<=a.length):aP (uM a k b) (k+b.length) c=uM a k (b++ [c]):=by
 have d:(a.take k).length=k:=by rw [zAj];omega
 unfold aP uM;rw [List.take_append,List.drop_append,d,Nat.add_sub_cancel_left,List.take_append_of_le_length nL,List.take_length,List.drop_append_of_le_length nL,List.drop_length,zAg oM,List.drop_of_length_le oM];simp
theorem aIH (a:List UInt8) {p b:Nat} (d:p+b < a.length):aG (a.take p++a.drop (p+b)) p=a.take p++a.drop (p+(b+1)):=by
 have c:(a.take p).length=p:=by rw [zAj];omega
 unfold aG;rw [List.take_append_of_le_length oM,zAg oM,List.drop_append,c,List.drop_of_length_le oM,show p+1 - p=1 by omega,List.nil_append,List.drop_drop];rfl
theorem aFK (a:List UInt8) {p j:Nat} (b:p+j<=a.length):(a.take p++a.drop (p+j)).length=a.length - j:=by
 rw [zAi,zAj,zAw];omega
theorem aHG (b D:List UInt8) {p a:Nat} {c:UInt8} (d:D[a]?=some c) (e:p+a < b.length):(b.take p++(D.take a++b.drop (p+a))).set (p+a) c=b.take p++(D.take (a+1)++b.drop (p+(a+1))):=by
 have g:(b.take p).length=p:=by rw [zAj];omega
 obtain ⟨j,i⟩:=zAc.1 d;have f:(D.take a).length=a:=by rw [zAj];omega
 rw [List.set_append_right _ _ oM,g,Nat.add_sub_cancel_left,List.set_append_right _ _ oM,f,Nat.sub_self,zAx e,List.set_cons_zero,zAv,d];simp [Nat.add_assoc]
theorem aFs (a D:List UInt8) {p j:Nat} (c:j<=D.length) (b:p+j<=a.length):(a.take p++(D.take j++a.drop (p+j))).length=a.length:=by
 rw [zAi,zAi,zAj,zAj,zAw];omega
end
section
open Go.RowKit
theorem aFh (w:World):Calls prog 217 #[.slice none 0 0,.int .i64 0,.int .i64 0] w fun a w'=>a=.returned (.tuple #[])/\w'=w:=by
 go_enter func217,ntmps217;go_wp2_with fail;go_loopw [6] (fun b wr=>b=.int .i64 1/\wr=w) (fun _ _=>0)
 case atStart=>exact ⟨rfl,rfl⟩
 case round=>obtain ⟨rfl,rfl⟩:=hrel;go_wp2_with fail;go_end0;exact ⟨rfl,rfl⟩
theorem aFf (l:Int) (w:World):Calls prog 184 #[.slice none 0 0,.int .i64 0,.int .i64 0,.int .i64 l] w fun a w'=>a=.returned (.tuple #[])/\w'=w:=by
 go_enter func184,ntmps184;go_wp2_with fail;go_loopw [1,2] (fun b c wr=>b=.int .i64 0/\c=.int .i64 0/\wr=w) (fun _ _ _=>0)
 case atStart=>exact ⟨rfl,rfl,rfl⟩
 case round=>obtain ⟨rfl,rfl,rfl⟩:=hrel;go_wp2_with fail;refine (aFh wr).mono ?_;rintro a w1 ⟨rfl,rfl⟩;go_wp2_with fail;exact bodyPost_ret (results_none rfl _ _ _) rfl ⟨rfl,rfl⟩
theorem aDo (w:World):Calls prog 135 #[.slice none 0 0] w fun a w'=>a=.returned (.tuple #[])/\w'=w:=by
 have b:Calls prog 185 #[.int .u64 0] w fun a w'=>a=.returned (.int .i64 (Lib.bitLen (0:Int).toNat))/\w'=w:=calls_of_every_depth fun D=>AnyS.bits_LenIn shLen D 0 w oM oM;go_enter func135,ntmps135;go_wp2_with fail;refine b.mono ?_;rintro a w1 ⟨rfl,rfl⟩;go_wp2_with fail;refine (aFf _ w1).mono ?_;rintro a c ⟨rfl,rfl⟩;go_wp2_with fail;go_end0;exact ⟨rfl,rfl⟩
theorem aDn (u:Nat) (A:Value) (a:Nat) (b:List Int) (w:World) (x:w.ownsRow u 3 1 A a (b.map (Value.int .i64))) (H:b.length=a) (R:a<=1000):
 ∃f i,A=.slice f a i/\Calls prog 135 #[.slice f a i] w fun c w'=>c=.returned (.tuple #[])/\w'.ownsRow u 3 1 (.slice f a i) a ((b.mergeSort fun s t=>decide (s<=t)).map (Value.int .i64))/\Keep (fun j=>(Value.slice f a i).ownBlock=some j) w w':=by
 subst H;rcases x.2 with ⟨m,y⟩|⟨d,v,O,m,o,q,I,G,K,L⟩;subst m;refine ⟨none,0,by rw [y],?_⟩;have M:b= []:=zBk y;subst M;refine (aDo w).mono ?_;rintro c w' ⟨rfl,rfl⟩;exact ⟨rfl,by simpa using x,Keep.refl _ _⟩
 · subst m;refine ⟨_,v,rfl,?_⟩;have E:d < w.heap.size:=(zAh.1 q).1;have C:Sort.Holds (Value.int .i64) w d 0 b.toArray:=holds_of_blockI q (by rw [<-L];simp);refine (Any.slices_Sort_int shSrt d 0 v b w C E oM).mono ?_;rintro c w' ⟨rfl,k,z,rfl⟩;have e:=grownBy_sortedI (w:=w) (g:=d) (n:=k) (os:=z) (b.mergeSort fun s t=>decide (s<=t)).toArray;refine ⟨rfl,ownsRow_sortedI (by simp) o q I G K,⟨e.os,e.tape,e.output,e.size,fun j o J=>e.block j o (fun c=>J c.symm)⟩⟩
theorem xX (B gk:Nat) (f:List Nat) (n m e:Nat) (w:World) (ad:WalkAt w B gk f) (a5:e < 257) (aJ:n<=m) (ae:m<=f.length) (a2:∀X∈f,X < 257) (M:f.length<=1000):
 Calls prog 182 #[gk,(n:Int),(m:Int),(e:Int)] w fun q w'=>q=.returned (.tuple #[.int .i64 ((cH f e n:Nat):Int),.int .i64 ((cH f e m:Nat):Int)])/\VB B w w':=by
 obtain ⟨N,a3⟩:=eqx f.length;obtain ⟨i,H⟩:∃i,f.countP (fun X=>decide (X < e))=i:=⟨_,rfl⟩;obtain ⟨s,I⟩:=eqx ((f.take n).count e);obtain ⟨t,J⟩:=eqx ((f.take m).count e);have al:i<=1000:=by rw [<-H];exact zAk zBh M
 have b1:s<=1000:=by rw [<-I];exact zAk zBv (by rw [zAj];omega)
 have b2:t<=1000:=by rw [<-J];exact zAk zBv (by rw [zAj];omega)
 unfold cH;rw [H,I,J];obtain ⟨y,ac,R,U,a7⟩:=ad;have G:Hid (WalkAt w B gk f):=lhd ⟨y,ac,R,U,a7⟩;obtain ⟨u,a0⟩:=hqq2 R U;have aL:N<=1000:=oM;have aK:m<=N:=oM;obtain ⟨C,Y,A,z,Z,a8,a9⟩:=hqq7 a5 a2 M a3 H I J;have ag:max (n:Int) 0=(n:Int):=oM;have ah:min (n:Int) (N:Int)=(n:Int):=oM;have ai:min (m:Int) (N:Int)=(m:Int):=oM;have aj:max (m:Int) (n:Int)=(m:Int):=oM;clear R U a7 a2 M H I J ae;go_enter func182,ntmps182;go_wp2_with fail;refine (eY e _ a5).mono ?_;rintro q w1 ⟨rfl,a4⟩;have a6:VB B w w1:=VisK.of_below a4;have E:=lhd a6;clear a4 a6;go_wp2_with fail;refine (kQ B gk f _ (G.out.vis E.out.1)).mono ?_;rintro q j ⟨rfl,rfl⟩;rw [z.out];go_wp2_with fail;refine (kQ B gk f _ (G.out.vis E.out.1)).mono ?_;rintro q j ⟨rfl,rfl⟩;rw [z.out];go_wp2_with fail;have o:=lhd E.out;clear E ag ah ai aj a3;obtain ⟨j,af⟩:∃j,j=w1:=⟨_,rfl⟩;subst af;refine wp_region_any kR ?_;refine aQ [28,29,30,31,32,33,34,35,36,37,38,39,40,41,42,43,44,45,46,47,48,49,8,9] (VB B) (Vs [is gk,is (e:Int),is (i:Int),is gk,is gk,is gk,is y,is (n:Int),is (e:Int),is (s:Int),is (.int .i64 ((i+s:Nat):Int)),is gk,is (e:Int),is (i:Int),is gk,is gk,is gk,is y,is (m:Int),is (e:Int),is (t:Int),is (.int .i64 ((i+t:Nat):Int)),is (.int .i64 ((i+s:Nat):Int)),is (.int .i64 ((i+t:Nat):Int))]) _ _ rfl kR vR (fun _ _=>VisK.trans) (cV tA1) ?_ ?_
 · refine aO ?_;refine pH 0 (.pointer (some ⟨gk,0,none⟩)) ?_;refine pH 3 (.int .i64 (e:Int)) ?_;refine sC (fun _ d a _ _ _ b _ _ _ c=>?_) ?_
   · have am:_=_:=b 0 28 kR rfl;have an:_=_:=b 1 29 kR rfl;replace a:(VB B) j d:=bD a;go_simp;refine (iK B gk f e d (G.out.vis (o.out.trans a).1) C.out A.out).mono ?_;rintro q V ⟨rfl,L⟩;rw [Z.out];exact c _ _ (VisK.of_below L) rfl
   refine pH 0 (.pointer (some ⟨gk,0,none⟩)) ?_;refine sC (fun _ d a _ _ _ b _ _ _ c=>?_) ?_
   · have ap:_=_:=b 3 31 kR rfl;replace a:(VB B) j d:=bD a;have g:=(o.out.trans a).1.bk u.out dC dC;have v:=g.cell 0;have x:=g.cell 1;go_simp;exact c _ _ vR rfl
   refine sC (fun _ d a _ _ _ b _ _ _ c=>?_) ?_
   · have aq:_=_:=b 4 32 kR rfl;replace a:(VB B) j d:=bD a;have g:=(o.out.trans a).1.bk u.out dC dC;have v:=g.cell 0;have x:=g.cell 1;go_simp;exact c _ _ vR rfl
   refine sC (fun _ d a _ _ _ b _ _ _ c=>?_) ?_
   · have ar:_=_:=b 5 33 kR rfl;replace a:(VB B) j d:=bD a;have g:=(o.out.trans a).1.bk u.out dC dC;have v:=g.cell 0;have x:=g.cell 1;go_simp;exact c _ _ vR rfl
   refine pH 1 (.int .i64 (n:Int)) ?_;refine pH 3 (.int .i64 (e:Int)) ?_;refine sC (fun _ d a _ _ _ b _ _ _ c=>?_) ?_
   · have au:_=_:=b 6 34 kR rfl;have av:_=_:=b 7 35 kR rfl;have aw:_=_:=b 8 36 kR rfl;replace a:(VB B) j d:=bD a;go_simp;refine (gT B y f n e d (a0.out.vis (o.out.trans a).1) C.out (by rw [z.out];omega) Y.out A.out).mono ?_;rintro q V ⟨rfl,O⟩;rw [a8.out];exact c _ _ O rfl
   refine sC (fun _ _ _ _ _ _ b _ _ _ c=>?_) ?_
   · have ao:_=_:=b 2 30 kR rfl;have ax:_=_:=b 9 37 kR rfl;have K:IntKind.i64.wrap ((i:Int)+(s:Int))=((i+s:Nat):Int):=(by rw [IntKind.wrap_i64];omega);go_simp;exact c _ _ vR (by first | rfl | exact K | simp [is])
   refine pH 0 (.pointer (some ⟨gk,0,none⟩)) ?_;refine pH 3 (.int .i64 (e:Int)) ?_;refine sC (fun _ d a _ _ _ b _ _ _ c=>?_) ?_
   · have ay:_=_:=b 11 39 kR rfl;have az:_=_:=b 12 40 kR rfl;replace a:(VB B) j d:=bD a;go_simp;refine (iK B gk f e d (G.out.vis (o.out.trans a).1) C.out A.out).mono ?_;rintro q V ⟨rfl,L⟩;rw [Z.out];exact c _ _ (VisK.of_below L) rfl
   refine pH 0 (.pointer (some ⟨gk,0,none⟩)) ?_;refine sC (fun _ d a _ _ _ b _ _ _ c=>?_) ?_
   · have aB:_=_:=b 14 42 kR rfl;replace a:(VB B) j d:=bD a;have g:=(o.out.trans a).1.bk u.out dC dC;have v:=g.cell 0;have x:=g.cell 1;go_simp;exact c _ _ vR rfl
   refine sC (fun _ d a _ _ _ b _ _ _ c=>?_) ?_
   · have aC:_=_:=b 15 43 kR rfl;replace a:(VB B) j d:=bD a;have g:=(o.out.trans a).1.bk u.out dC dC;have v:=g.cell 0;have x:=g.cell 1;go_simp;exact c _ _ vR rfl
   refine sC (fun _ d a _ _ _ b _ _ _ c=>?_) ?_
   · have aE:_=_:=b 16 44 kR rfl;replace a:(VB B) j d:=bD a;have g:=(o.out.trans a).1.bk u.out dC dC;have v:=g.cell 0;have x:=g.cell 1;go_simp;exact c _ _ vR rfl
   refine pH 2 (.int .i64 (m:Int)) ?_;refine pH 3 (.int .i64 (e:Int)) ?_;refine sC (fun _ d a _ _ _ b _ _ _ c=>?_) ?_
   · have aF:_=_:=b 17 45 kR rfl;have aG:_=_:=b 18 46 kR rfl;have aH:_=_:=b 19 47 kR rfl;replace a:(VB B) j d:=bD a;go_simp;refine (gT B y f m e d (a0.out.vis (o.out.trans a).1) C.out (by rw [z.out];omega) Y.out A.out).mono ?_;rintro q V ⟨rfl,O⟩;rw [a9.out];exact c _ _ O rfl
   refine sC (fun _ _ _ _ _ _ b _ _ _ c=>?_) ?_
   · have aA:_=_:=b 13 41 kR rfl;have aI:_=_:=b 20 48 kR rfl;have K:IntKind.i64.wrap ((i:Int)+(t:Int))=((i+t:Nat):Int):=(by rw [IntKind.wrap_i64];omega);go_simp;exact c _ _ vR (by first | rfl | exact K | simp [is])
   refine pV 10 38 ?_;refine pV 21 49 ?_;exact aD
 · intro a1 ak a b;replace a:(VB B) j ak:=bD a;have aa:a1 (.tmp 8)=.int .i64 ((i+s:Nat):Int):=b 22 8 rfl;have ab:a1 (.tmp 9)=.int .i64 ((i+t:Nat):Int):=b 23 9 rfl;simp only [zqq];rw [aa];rw [ab];clear b;go_wp2_with fail;go_ret2;exact ⟨rfl,o.out.trans a⟩
theorem aH0 (a5:Option Addr) (m x:Nat) (l:List Shp) (B:Nat) (w:World) (ab:Rd w B 4 a5 m (cE l)) (au:B<=w.heap.size) (bm:m<=1000) (aA:∀o∈l,∃ae:Int,0 < ae/\ae<=1000/\o=⟨ae,0,1,1⟩):
 Calls prog 81 #[.slice a5 m x] w fun a8 w'=>(∃S:Int,a8=.returned (.agg #[.int .i64 S,.int .i64 0,(m:Int),(m:Int)]))/\Below w.heap.size w w':=by
 have az:l.length=m:=by have:=ab.1;rw [qZ] at this;omega
 obtain ⟨s,M⟩:=eqx w.heap.size;obtain ⟨c,aa⟩:=eqx (s+1);obtain ⟨W,R⟩:=eqx ((w.alloc (.cells #[.int .i64 0,.int .i64 0,.int .i64 0,.int .i64 0] 122)).alloc (.cells #[.int .i64 0,.int .i64 0,.int .i64 0,.int .i64 0] 122));have aw:Below s w W:=by rw [<-R,<-M];exact (bR.alloc nL _).alloc (by simp) _
 have n:Bk W s 122 #[.int .i64 0,.int .i64 0,.int .i64 0,.int .i64 0]:=by rw [<-R,<-M];exact (Bk.new w _ _).alloc _
 have v:Bk W c 122 #[.int .i64 0,.int .i64 0,.int .i64 0,.int .i64 0]:=by rw [<-R,<-aa,<-M];have:=Bk.new (w.alloc (.cells #[.int .i64 0,.int .i64 0,.int .i64 0,.int .i64 0] 122)) 122 #[.int .i64 0,.int .i64 0,.int .i64 0,.int .i64 0];rw [World.size_alloc] at this;exact this
 have a2:s≠c:=oM;have ay:s<=c:=oM;have a1:∃d e,0 < m->a5=some ⟨d,e,none⟩/\∀(k:Nat) (o:Shp),l[k]?=some o->∀a,Below s w a->a.cell? ⟨d,e+k*4,none⟩=some (.int .i64 o.len)/\a.cell? ⟨d,e+k*4+1,none⟩=some (.int .i64 o.height)/\a.cell? ⟨d,e+k*4+2,none⟩=some (.int .i64 o.leaves)/\a.cell? ⟨d,e+k*4+3,none⟩=some (.int .i64 o.nodes):=by rcases zBa m with aq | aq;exact ⟨0,0,fun ap=>by omega⟩;obtain ⟨d,e,a8,V,z⟩:=(ab.mono au).2 aq;rw [M] at V;exact ⟨d,e,fun _=>⟨a8,fun k o X a a3=>⟨(a3.cell V).trans (z (k*4+0) _ ((dS l k 0 o X oM).trans rfl)),(a3.cell V).trans (z (k*4+1) _ ((dS l k 1 o X oM).trans rfl)),(a3.cell V).trans (z (k*4+2) _ ((dS l k 2 o X oM).trans rfl)),(a3.cell V).trans (z (k*4+3) _ ((dS l k 3 o X oM).trans rfl))⟩⟩⟩
 obtain ⟨d,e,a1⟩:=a1;obtain ⟨aM,aO,aP,aC,aG,aI,aL,ag,aN⟩:=hqq9 a1 az aA R aw n v M aa;have Z:=lhd ay;clear a1 az aA R aw n v M aa ab au ay;rw [ag.out];go_enter func81,ntmps81;go_wp2_with fail;rw [aC.out]
 try rw [ag.out]
 try rw [aN.out]
 go_loopw [4] (fun a4 wr=>∃(k:Nat) (S:Int),k<=m/\a4=.int .i64 (k:Int)/\Bk wr c 122 #[.int .i64 S,.int .i64 0,(k:Int),(k:Int)]/\Bk wr s 122 #[.int .i64 0,.int .i64 0,.int .i64 0,.int .i64 0]/\0<=S/\S<=1000*(k:Int)/\Below s w wr) (fun a4 _=>m -(intOf a4).toNat)
 case atStart=>exact ⟨0,0,zAp _,rfl,aL.out,aI.out,by omega,by omega,aG.out⟩
 case round=>
  obtain ⟨k,S,X,rfl,v,n,bj,av,U⟩:=hrel;by_cases aU:k < m
  · obtain ⟨o,ac⟩:∃o,l[k]?=some o:=⟨_,zAa (by rw [aO.out];exact aU)⟩;obtain ⟨u,bn,bo,rfl⟩:=aP.out o (zAd ac);obtain ⟨aR,z⟩:=aM.out oM;subst aR;have ad:s<=wr.heap.size:=(by have:=n.lt;omega);have ar:∀a,Keep (fun _=>False) wr a->a.cell? ⟨d,e+k*4,none⟩=some (.int .i64 u)/\a.cell? ⟨d,e+k*4+1,none⟩=some (.int .i64 0)/\a.cell? ⟨d,e+k*4+2,none⟩=some (.int .i64 1)/\a.cell? ⟨d,e+k*4+3,none⟩=some (.int .i64 1)/\a.cell? ⟨c,0,none⟩=some (.int .i64 S)/\a.cell? ⟨c,1,none⟩=some (.int .i64 0)/\a.cell? ⟨c,2,none⟩=some (.int .i64 (k:Int))/\a.cell? ⟨c,3,none⟩=some (.int .i64 (k:Int)):=fun a b=>by obtain ⟨aY,aZ,b0,b1⟩:=z k _ ac a (U.trans (b.to_below ad fun _ _ q=>q.elim));have a0:=Keep.bk b v fun q=>q;exact ⟨aY,aZ,b0,b1,a0.cell 0,a0.cell 1,a0.cell 2,a0.cell 3⟩
    have bp:(k:Int) < (m:Int):=oM;have bl:S<=1000000:=oM;have bq:IntKind.i64.wrap (S+u)=S+u:=(by rw [IntKind.wrap_i64];omega);have br:IntKind.i64.wrap ((k:Int)+1)=(k:Int)+1:=(by rw [IntKind.wrap_i64];omega);obtain ⟨y,aK,aH,aE,aB,aQ⟩:=hqq6 ar v n U av ad;clear ar v n U z ac av ad;go_wp2_with fail;refine wp_region_any kR ?_;refine cS 33 [11,12,13,14,15,16,17,18,19,20,21,22,23,24,25,26,27,28,29,30,31,32,33,34,35,36,37,38,39,40,41,42,43] (fun _=>False) 0 [] (fun _=>True) (is c) [cX,is (S:Int),is (.slice (some ⟨d,e,none⟩) m x),is (k:Int),is (.pointer (some ⟨d,e+k*4,none⟩)),is (.pointer (some ⟨d,e+k*4,none⟩)),is (u:Int),is (S+u:Int),is (.pointer (some ⟨c,1,none⟩)),is (0:Int),is (.slice (some ⟨d,e,none⟩) m x),is (k:Int),is (.pointer (some ⟨d,e+k*4,none⟩)),is (.pointer (some ⟨d,e+k*4+1,none⟩)),is (0:Int),is (0:Int),is (.pointer (some ⟨c,2,none⟩)),is (k:Int),is (.slice (some ⟨d,e,none⟩) m x),is (k:Int),is (.pointer (some ⟨d,e+k*4,none⟩)),is (.pointer (some ⟨d,e+k*4+2,none⟩)),is (1:Int),is (.int .i64 ((k:Int)+1)),is (.pointer (some ⟨c,3,none⟩)),is (k:Int),is (.slice (some ⟨d,e,none⟩) m x),is (k:Int),is (.pointer (some ⟨d,e+k*4,none⟩)),is (.pointer (some ⟨d,e+k*4+3,none⟩)),is (1:Int),is (.int .i64 ((k:Int)+1)),is (.agg #[(S+u:Int),.int .i64 0,.int .i64 ((k:Int)+1),.int .i64 ((k:Int)+1)])] _ _ rfl dC kR kR kR (trivial) (fun _ _ _ _ _=>trivial) (fun _ _ _ ap _=>ap) tA0 ?_ ?_
    · refine bJ ?_;refine sC3 (fun K _ _ _ _ _ aW _ _ _ _ j=>?_) ?_
      · have bd:K (.tmp 3)=.pointer (some ⟨c,0,none⟩):=aW 3 kR;go_simp;exact j _ _ (aV (Keep.refl _ _)) rfl
      refine sC3 (fun K a b _ _ _ _ g _ _ _ j=>?_) ?_
      · replace b:Keep (fun _=>False) wr a:=kD b;have aX:(is c) (K (.tmp 11)) a:=g 0 11 kR rfl;have b6:K (.tmp 11)=.pointer (some ⟨c,0,none⟩):=aX;obtain ⟨k0,A,C,E,G,H,I,J⟩:=y.out a b;go_simp;exact kq j rfl
      refine pH3 0 (.slice (some ⟨d,e,none⟩) m x) ?_;refine pH3 4 (.int .i64 (k:Int)) ?_;refine pW3 2 13 3 14 ?_;refine pV3 4 15 ?_;refine sC3 (fun _ a b _ _ _ _ g _ _ _ j=>?_) ?_
      · replace b:Keep (fun _=>False) wr a:=kD b;have b7:_=_:=g 5 16 kR rfl;obtain ⟨k0,A,C,E,G,H,I,J⟩:=y.out a b;go_simp;exact kq j rfl
      refine pW3 1 12 6 17 ?_;refine pH3 3 (.pointer (some ⟨c,0,none⟩)) ?_;refine sC3 (fun _ a b _ _ _ _ g _ _ _ j=>?_) ?_
      · replace b:Keep (fun _=>False) wr a:=kD b;have b9:_=_:=g 8 19 kR rfl;obtain ⟨k0,A,C,E,G,H,I,J⟩:=y.out a b;go_simp;exact kq j rfl
      refine pH3 0 (.slice (some ⟨d,e,none⟩) m x) ?_;refine pH3 4 (.int .i64 (k:Int)) ?_;refine pW3 10 21 11 22 ?_;refine pV3 12 23 ?_;refine sC3 (fun _ a b _ _ _ _ g _ _ _ j=>?_) ?_
      · replace b:Keep (fun _=>False) wr a:=kD b;have ba:_=_:=g 13 24 kR rfl;obtain ⟨k0,A,C,E,G,H,I,J⟩:=y.out a b;go_simp;exact kq j rfl
      refine pW3 9 20 14 25 ?_;refine pH3 3 (.pointer (some ⟨c,0,none⟩)) ?_;refine sC3 (fun _ a b _ _ _ _ g _ _ _ j=>?_) ?_
      · replace b:Keep (fun _=>False) wr a:=kD b;have bc:_=_:=g 16 27 kR rfl;obtain ⟨k0,A,C,E,G,H,I,J⟩:=y.out a b;go_simp;exact kq j rfl
      refine pH3 0 (.slice (some ⟨d,e,none⟩) m x) ?_;refine pH3 4 (.int .i64 (k:Int)) ?_;refine pW3 18 29 19 30 ?_;refine pV3 20 31 ?_;refine sC3 (fun _ a b _ _ _ _ g _ _ _ j=>?_) ?_
      · replace b:Keep (fun _=>False) wr a:=kD b;have be:_=_:=g 21 32 kR rfl;obtain ⟨k0,A,C,E,G,H,I,J⟩:=y.out a b;go_simp;exact kq j rfl
      refine pW3 17 28 22 33 ?_;refine pH3 3 (.pointer (some ⟨c,0,none⟩)) ?_;refine sC3 (fun _ a b _ _ _ _ g _ _ _ j=>?_) ?_
      · replace b:Keep (fun _=>False) wr a:=kD b;have bg:_=_:=g 24 35 kR rfl;obtain ⟨k0,A,C,E,G,H,I,J⟩:=y.out a b;go_simp;exact kq j rfl
      refine pH3 0 (.slice (some ⟨d,e,none⟩) m x) ?_;refine pH3 4 (.int .i64 (k:Int)) ?_;refine pW3 26 37 27 38 ?_;refine pV3 28 39 ?_;refine sC3 (fun _ a b _ _ _ _ g _ _ _ j=>?_) ?_
      · replace b:Keep (fun _=>False) wr a:=kD b;have bh:_=_:=g 29 40 kR rfl;obtain ⟨k0,A,C,E,G,H,I,J⟩:=y.out a b;go_simp;exact kq j rfl
      refine pW3 25 36 30 41 ?_;refine sC3 (fun _ _ _ _ _ _ _ g _ _ _ j=>?_) ?_
      · have b8:_=_:=g 7 18 kR rfl;have bb:_=_:=g 15 26 kR rfl;have bf:_=_:=g 23 34 kR rfl;have bi:_=_:=g 31 42 kR rfl;go_simp;exact kq j rfl
      exact aD
    · intro K Y q b g;replace b:Keep (fun _=>False) wr Y:=kD b;have aS:K (.tmp 43)=.agg #[(S+u:Int),.int .i64 0,.int .i64 ((k:Int)+1),.int .i64 ((k:Int)+1)]:=g 32 43 dC rfl;simp only [zqq];rw [aS];clear g;have t:Bk Y c 122 #[.int .i64 S,.int .i64 0,(k:Int),(k:Int)]:=Keep.bk b aK.out fun q=>q;have al:=t.frozen 0;have am:=t.frozen 1;have an:=t.frozen 2;have ao:=t.frozen 3;have ah:=t.cell 0;have ai:=t.cell 1;have aj:=t.cell 2;have ak:=t.cell 3;obtain ⟨aF,af⟩:=hqq2 t b;clear t b;change wpAny prog Region.Mode.any _ _ (1+q) (bX 33 34) _ Y;rw [zCs 1 q];refine bG (f:=q) (i:=33) kR ?_;refine bV rfl rfl ?_;generalize j:wpAny prog _ _ _ q _=K5;go_simp;subst j;refine bW kR ?_;have t:=aE.out.trans (af.out.to_below aQ.out fun _ _ q=>q.elim);have L:=(((t.setCell (p:=⟨c,0,none⟩) Z.out (.int .i64 (S+u))).setCell (p:=⟨c,1,none⟩) Z.out (.int .i64 0)).setCell (p:=⟨c,2,none⟩) Z.out (.int .i64 ((k:Int)+1))).setCell (p:=⟨c,3,none⟩) Z.out (.int .i64 ((k:Int)+1));have O:=(((aF.out.set 0 (.int .i64 (S+u))).set 1 (.int .i64 0)).set 2 (.int .i64 ((k:Int)+1))).set 3 (.int .i64 ((k:Int)+1));have ax:Bk Y s 122 #[.int .i64 0,.int .i64 0,.int .i64 0,.int .i64 0]:=Keep.bk af.out aH.out fun q=>q;have a9:=(((ax.far (p:=⟨c,0,none⟩) a2 (.int .i64 (S+u))).far (p:=⟨c,1,none⟩) a2 (.int .i64 0)).far (p:=⟨c,2,none⟩) a2 (.int .i64 ((k:Int)+1))).far (p:=⟨c,3,none⟩) a2 (.int .i64 ((k:Int)+1));generalize (((Y.setCell ⟨c,0,none⟩ (.int .i64 (S+u))).setCell ⟨c,1,none⟩ (.int .i64 0)).setCell ⟨c,2,none⟩ (.int .i64 ((k:Int)+1))).setCell ⟨c,3,none⟩ (.int .i64 ((k:Int)+1))=w9 at L O a9⊢;obtain ⟨a6,a7,aJ⟩:=hqq3 L O a9;clear L O ax a9 t al am an ao ah ai aj ak;go_wp2_with fail;go_roundw
      case rel=>exact ⟨k+1,S+u,by omega,by go_num,a7.out,aJ.out,by omega,by have:=aB.out;omega,a6.out⟩
      case measure=>simp [intOf];omega
  · have aT:k=m:=oM;subst aT;have ah:=v.cell 0;have ai:=v.cell 1;have aj:=v.cell 2;have ak:=v.cell 3;have b2:=n.cell 0;have b3:=n.cell 1;have b4:=n.cell 2;have b5:=n.cell 3;have al:=n.frozen 0;have am:=n.frozen 1;have an:=n.frozen 2;have ao:=n.frozen 3;have O:=(((n.set 0 (.int .i64 S)).set 1 (.int .i64 0)).set 2 (.int .i64 (k:Int))).set 3 (.int .i64 (k:Int));have L:=(((U.setCell (p:=⟨s,0,none⟩) nL (.int .i64 S)).setCell (p:=⟨s,1,none⟩) nL (.int .i64 0)).setCell (p:=⟨s,2,none⟩) nL (.int .i64 (k:Int))).setCell (p:=⟨s,3,none⟩) nL (.int .i64 (k:Int));obtain ⟨a7,a6⟩:=hqq2 O L;clear O L v n U;go_wp2_with fail;exact bodyPost_ret (results_cell_row (P:=prog) (fn:=f81) (p:=2) (ty:=122) rfl _ _ s 122 #[.int .i64 S,.int .i64 0,(k:Int),(k:Int)] (0,0) _ rfl a7.out underlying122 rfl kR) rfl ⟨⟨S,rfl⟩,a6.out⟩
theorem aCz (a:Nat) (w:World) (c:a<=1000000):Calls prog 137 #[(a:Int)] w fun b w'=>b=.returned (.int .i64 (a:Int))/\w=w':=by
 go_enter func137,ntmps137;go_wp2;go_ret;exact ⟨by first | rfl |(congr 3;omega)|(simp;omega),rfl⟩
theorem aEk (a:Nat) (w:World) (d:a<=1000000):Calls prog 82 #[(a:Int)] w fun b w'=>(∃c:Int,b=.returned (.int .i64 c)/\9216<=c)/\w=w':=by
 go_enter func82,ntmps82;go_wp2_with fail;refine (aCz a w d).mono ?_;rintro b w1 ⟨rfl,rfl⟩;go_wp2_with fail;go_ret;exact ⟨⟨_,rfl,by omega⟩,rfl⟩
end
section
theorem aAx {a b:Nat} (c:a≠b):((a:Int)==(b:Int))=false:=by rw [zCb];omega
theorem aCM {a b:List Nat} {k c:Nat} (e:a.length=c) (f:b.length=c) (d:a.take k=b.take k) (g:c<=k):a=b:=by
 rw [zAg oM,zAg oM] at d;exact d
end
section
open Go.RowKit
theorem aCN:(prog.info? 3).map (fun a=>(a.zero,a.size,a.bytes))=some (some (.int .i64 0),1,8):=by kernel_rfl
theorem iR {w:World} {B c:Nat} {a:Option Addr} {l:List UInt8} (d:Rd w B 1 a c (l.map bv)):∀b,(convert 26 9 (.slice a c b)).run prog w=.ok (.string ⟨l.toArray⟩) w:=
 fun b=>lU (P:=prog) 26 9 5 underlying26 underlying5 underlying9 d
theorem Rd.keepF {F:Nat->Prop} {w w':World} {B m c:Nat} {a:Option Addr} {n:List Value} (g:Rd w B m a c n) (k:Keep F w w') (u:B<=w.heap.size) (q:0 < c->∀e,a=some e->¬F e.block):Rd w' w'.heap.size m a c n:=
 ⟨g.1,fun i=>by
   obtain ⟨b,d,f,v,o⟩:=g.2 i;exact ⟨b,d,f,by have:=k.size;omega,fun j t s=>(k.cell (p:=⟨b,d+j,none⟩) (by simp only;omega) (by exact q i ⟨b,d,none⟩ f)).trans (o j t s)⟩⟩
theorem tG (l:List UInt8) (a b:Nat):(⟨l.toArray⟩:ByteArray).extract a b=⟨((l.drop a).take (b - a)).toArray⟩:=by
 apply ByteArray.ext;rw [ByteArray.data_extract];apply Array.ext';rw [Array.toList_extract]
theorem aT (l:List UInt8):(⟨l.toArray⟩:ByteArray).size=l.length:=by simp [ByteArray.size]
section
variable (l : List UInt8) (w : World)
theorem nO (a b:Nat) (c:a<=b) (d:b<=l.length):(Instr.slice 9 (.string ⟨l.toArray⟩) (some (.int .i64 (a:Int))) (some (.int .i64 (b:Int))) none).run prog w=.ok (.string ⟨((l.drop a).take (b - a)).toArray⟩) w:=by
 rw [run_slice_string (P:=prog) (w:=w) 9 ⟨l.toArray⟩ .i64 .i64 a b underlying9 oM oM (by rw [aT];omega)];rw [zBr,zBr,tG]
theorem aAX (a:Nat) (b:a<=l.length):(Instr.slice 9 (.string ⟨l.toArray⟩) none (some (.int .i64 (a:Int))) none).run prog w=.ok (.string ⟨(l.take a).toArray⟩) w:=by
 rw [run_slice_string_h (P:=prog) (w:=w) 9 ⟨l.toArray⟩ underlying9 .i64 a oM (by rw [aT];omega)];rw [zBr,tG];simp
theorem aAW (a:Nat) (b:a<=l.length):(Instr.slice 9 (.string ⟨l.toArray⟩) (some (.int .i64 (a:Int))) none none).run prog w=.ok (.string ⟨(l.drop a).toArray⟩) w:=by
 rw [run_slice_string_l (P:=prog) (w:=w) 9 ⟨l.toArray⟩ underlying9 .i64 a oM (by rw [aT];omega)];rw [zBr,tG,aT];congr 3;apply congrArg;rw [zAg (by rw [zAw];omega)]
theorem wT (a b:Nat) (c:a<=b) (d:b<=l.length):(Instr.sliceAt 9 (.string ⟨l.toArray⟩) (some (.int .i64 (a:Int))) (some (.int .i64 (b:Int))) none).run prog w=.ok (.string ⟨((l.drop a).take (b - a)).toArray⟩) w:=by
 rw [run_sliceAt_string (h:=underlying9),nO l w a b c d]
theorem aIX (a:Nat) (b:a<=l.length):(Instr.sliceAt 9 (.string ⟨l.toArray⟩) none (some (.int .i64 (a:Int))) none).run prog w=.ok (.string ⟨(l.take a).toArray⟩) w:=by
 rw [run_sliceAt_string (h:=underlying9),aAX l w a b]
theorem aIW (a:Nat) (b:a<=l.length):(Instr.sliceAt 9 (.string ⟨l.toArray⟩) (some (.int .i64 (a:Int))) none none).run prog w=.ok (.string ⟨(l.drop a).toArray⟩) w:=by
 rw [run_sliceAt_string (h:=underlying9),aAW l w a b]
end
theorem aEo (c a:List UInt8):(c.take a.length==a)=a.isPrefixOf c:=by
 rw [Bool.eq_iff_iff];simp only [zCq,List.isPrefixOf_iff_prefix];constructor;intro b;rw [<-b];exact List.take_prefix _ _;intro b;exact (List.prefix_iff_eq_take.1 b).symm
theorem pI (b p:List UInt8) (a c f d:Nat) (w:World) (j:b.length=f) (e:p.length=d) (s:a+d=c) (o:c<=f) (q:f<=1099511627776):
 Calls prog 136 #[.string ⟨b.toArray⟩,(a:Int),.string ⟨p.toArray⟩] w fun m w'=>m=.returned (.bool (p.isPrefixOf (b.drop a)))/\w=w':=by
 have x:(⟨b.toArray⟩:ByteArray).size=f:=(aT b).trans j;have y:(⟨p.toArray⟩:ByteArray).size=d:=(aT p).trans e;have u:=fun w=>nO b w a c oM oM;have v:=fun w=>wT b w a c oM oM;have t:(a:Int)+(d:Int)=(c:Int):=oM;have i:((b.drop a).take (c - a)==p)=p.isPrefixOf (b.drop a):=by rw [<-aEo,e,show c - a=d by omega]
 obtain ⟨g,n⟩:=hqq2 i e;clear e j i;go_enter func136,ntmps136;go_wp2;go_ret;exact ⟨cK (by first | exact g.out |(simp [<-g.out])),rfl⟩
theorem yS (a p:List UInt8) (c b:Nat) (j:List Nat) (N:Nat) (w:World) (o:a.length=c) (d:p.length=b) (z:fC a p=j) (A:j.length=N) (a9:c<=549755813888) (a8:b<=549755813888):
 Calls prog 78 #[.string ⟨a.toArray⟩,.string ⟨p.toArray⟩] w fun t w'=>∃g m,t=.returned (.slice g N m)/\Made w' w.heap.size 3 1 g N m (j.map nv)/\Below w.heap.size w w':=by
 obtain ⟨a3,V,a0,a1,a2⟩:=info_parts aCN;have ad:(⟨a.toArray⟩:ByteArray).size=c:=(aT a).trans o;have ae:(⟨p.toArray⟩:ByteArray).size=b:=(aT p).trans d;have C:∀k:Nat,k<=c+1 - b->¬(k+b<=c)->gR a p k=j:=fun k a6 a7=>by rw [<-z,fC,o,d];congr 1;omega
 obtain ⟨L,K,y,x⟩:=hqq4 C A o d;clear z A C o d;go_enter func78,ntmps78;go_wp2;go_loopw [5,6] (fun a5 v wr=>∃k:Nat,k<=c+1 - b/\v=.int .i64 k/\wr.ownsRow w.heap.size 3 1 a5 (gR a p k).length ((gR a p k).map nv)/\Below w.heap.size w wr) (fun _ v _=>c+1 -(intOf v).toNat)
 case atStart=>exact ⟨0,zAp _,rfl,World.ownsRow_nil _ _ _ _,Below.refl _ _⟩
 case round=>
  obtain ⟨k,X,rfl,f,n⟩:=hrel;have I:=n.size;by_cases Y:k+b<=c
  · have G:=aAB a p k;have U:decide ((k:Int)+(b:Int)<=(c:Int))=true:=(by simp;omega);obtain ⟨J,H⟩:=eqx (k+b);have i:=lhd f;clear f;cases q:p.isPrefixOf (a.drop k) with
    | true=>
      have e:=aEF a p k q;have s:=lhd e;obtain ⟨a4,u⟩:=eqx ((gR a p k).length);rw [u] at G i;have M:=lhd u;clear e u;go_wp2_with fail;refine (pI a p k J c b _ y.out x.out H oM oM).mono ?_;rintro t w' ⟨rfl,rfl⟩;rw [q];go_wp2_with (at_builtin;refine bF _ rfl (.tmp 20) (.tmp 22) _ rfl w.heap.size 3 a3 (.int .i64 0) 1 8 underlying22 V a0 a1 a2 rfl dC _ a4 _ rfl i.out rfl rfl (by simp [Value.oneCell']) (by unfold maxLen;omega) oM I ?_;intro ab ac Z E aa O);have R:=aX n i.out E I;clear E O;go_roundw
      case rel=>refine ⟨k+1,by omega,by go_num,?_,R⟩;rw [s.out,zAi,M.out,zAz];exact Z
      case measure=>simp [intOf];omega
    | false=>
      have e:=aAA a p k q;have s:=lhd e;clear e G;go_wp2_with fail;refine (pI a p k J c b _ y.out x.out H oM oM).mono ?_;rintro t w' ⟨rfl,rfl⟩;rw [q];go_wp2;go_roundw
      case rel=>refine ⟨k+1,by omega,by go_num,?_,n⟩;rw [s.out];exact i.out
      case measure=>simp [intOf];omega
  · have U:decide ((k:Int)+(b:Int)<=(c:Int))=false:=(by simp;omega);rw [L.out k X Y,K.out] at f;obtain ⟨g,m,rfl,d⟩:=aU f;clear f;go_wp2;go_ret;exact ⟨g,m,rfl,d,n⟩
theorem wS (E G:Option Addr) (a X e Y M O:Nat) (b c:List Nat) (w:World) (o:Rd w M 1 E a (b.map nv)) (q:Rd w O 1 G e (c.map nv)) (a8:a<=1099511627776) (a9:e<=1099511627776):
 Calls prog 15 #[.slice E a X,.slice G e Y] w fun a1 w'=>a1=.returned (.bool (decide (b=c)))/\Below w.heap.size w w':=by
 have K:b.length=a:=by simpa using o.1
 have L:c.length=e:=by simpa using q.1
 obtain ⟨R,U,f,g⟩:=hqq4 o q K L;clear o q K L;by_cases s:a=e
 · subst s;go_enter func15,ntmps15;go_wp2;go_loopw [5] (fun z wr=>∃k:Nat,k<=a/\z=.int .i64 k/\b.take k=c.take k/\∃a3,wr=w.drewN a3) (fun z _=>a -(intOf z).toNat)
   case atStart=>exact ⟨0,zAp _,rfl,rfl,0,rfl⟩
   case round=>
    obtain ⟨k,a7,rfl,j,aa,rfl⟩:=hrel;by_cases J:k < a
    · obtain ⟨A,v⟩:∃A,b[k]?=some A:=⟨b[k]'(by have:=f.out;omega),zAa (by have:=f.out;omega)⟩;obtain ⟨C,y⟩:∃C,c[k]?=some C:=⟨c[k]'(by have:=g.out;omega),zAa (by have:=g.out;omega)⟩;obtain ⟨b1,ab,ad,rfl,a5,t,Z⟩:=R.out.get J;obtain ⟨b2,ac,ae,rfl,a6,u,a0⟩:=U.out.get J;rw [zAf,v] at t;rw [zAf,y] at u;simp only [Option.map_some,Option.some.injEq] at t u;subst t;subst u;unfold nv iv at Z a0;obtain ⟨V,H,I⟩:=hqq3 j v y;clear j v y;by_cases x:A=C
      · subst x;go_wp2;go_quiet (fail);go_wp2;go_roundw
        case rel=>refine ⟨k+1,by omega,by go_num,?_,_,rfl⟩;rw [zAv,zAv,V.out,H.out,I.out]
        case measure=>simp [intOf];omega
      · have a4:=aAx x
        have d:b≠c:=fun n=>x (by
         have i:=H.out;rw [n,I.out] at i;injection i with i;exact i.symm)
        have m:=lhd d;clear d;go_wp2;go_quiet (fail);go_wp2;go_ret;exact ⟨cK (by rw [zBy m.out]),below_drewN (below_drewN bR _) _⟩
    · have a2:a<=k:=oM;have d:=lhd (aCM f.out g.out j a2);clear j;go_wp2;go_ret;exact ⟨cK (by rw [zBz d.out]),below_drewN bR _⟩
 · have d:b≠c:=fun n=>s (by rw [<-f.out,<-g.out,n]);have m:=lhd d;have a4:=aAx s;clear d;go_enter func15,ntmps15;go_wp2;go_ret;exact ⟨cK (by rw [zBy m.out]),Below.refl _ _⟩
theorem aDr (g i j m:Int) (y z A C:Option Addr) (Z a4 a0 a5 u a6 v a7 E G H I:Nat) (n o:List UInt8) (s t:List Nat) (w:World) (R:Rd w E 1 y Z (n.map bv)) (U:Rd w G 1 z a0 (o.map bv)) (V:Rd w H 1 A u (s.map nv)) (X:Rd w I 1 C v (t.map nv))
 (b1:E<=w.heap.size) (b2:G<=w.heap.size) (L:H<=w.heap.size) (M:I<=w.heap.size) (a9:u<=1099511627776) (aa:v<=1099511627776):
 Calls prog 21 #[.agg #[.int .i64 g,.int .i64 j,.slice y Z a4,.slice A u a6],.agg #[.int .i64 i,.int .i64 m,.slice z a0 a5,.slice C v a7]] w fun O w'=>O=.returned (.bool (decide (g=i/\j=m/\n=o/\s=t)))/\Below w.heap.size w w':=by
 have b:∀c d,Below w.heap.size w ((w.alloc c).alloc d):=fun c d=>((Below.refl w.heap.size w).alloc nL c).alloc (by simp) d;obtain ⟨J,K,a2,a3⟩:=hqq4 (R.mono b1) (U.mono b2) (V.mono L) (X.mono M);clear R U V X b1 b2 L M;by_cases e:g=i
 · by_cases f:j=m
   · by_cases q:n=o
     · have x:(g==i)=true:=(by rw [zCq];exact e);have a1:(j==m)=true:=(by rw [zCq];exact f);have a:=lhd (And.intro e (And.intro f q));clear e f q;go_enter func21,ntmps21;have ab:=fun c d=>iR (J.out.below (b c d));have ac:=fun c d=>iR (K.out.below (b c d));have ad:(n==o)=true:=(by rw [zCq];exact a.out.2.2);go_wp2_with fail;refine (wS _ _ _ _ _ _ _ _ s t _ (a2.out.below (b _ _)) (a3.out.below (b _ _)) a9 aa).mono ?_;rintro O w' ⟨rfl,Y⟩;have a8:=(b _ _).trans (Y.mono (b _ _).size);clear Y;go_wp2_with fail;go_ret;exact ⟨cK (by simp [a.out.1,a.out.2.1,a.out.2.2]),a8⟩
     · have x:(g==i)=true:=(by rw [zCq];exact e);have a1:(j==m)=true:=(by rw [zCq];exact f);have a:=lhd q;clear e f q;go_enter func21,ntmps21;have ab:=fun c d=>iR (J.out.below (b c d));have ac:=fun c d=>iR (K.out.below (b c d));have ad:(n==o)=false:=(by rw [zCb];exact a.out);go_wp2_with fail;go_ret;exact ⟨cK (by simp [a.out]),b _ _⟩
   · have x:(g==i)=true:=(by rw [zCq];exact e);have a1:(j==m)=false:=(by rw [zCb];exact f);have a:=lhd f;clear e f;go_enter func21,ntmps21;go_wp2_with fail;go_ret;exact ⟨cK (by simp [a.out]),b _ _⟩
 · have x:(g==i)=false:=(by rw [zCb];exact e);have a:=lhd e;clear e;go_enter func21,ntmps21;go_wp2_with fail;go_ret;exact ⟨cK (by simp [a.out]),b _ _⟩
section
variable {w W : World}
theorem lW {a:Nat} {g i j m b c d e:Value} (f:Bk W a 50 #[g,i,j,m]):
 Bk ((((W.setCell ⟨a,0,none⟩ b).setCell ⟨a,1,none⟩ c).setCell ⟨a,2,none⟩ d).setCell ⟨a,3,none⟩ e) a 50 #[b,c,d,e]:=by
 have:=(((f.set 0 b).set 1 c).set 2 d).set 3 e;simpa using this
theorem aCT {a:Nat} {v0 v1 v2 v3:Value} (b:w.heap.size<=a):Below w.heap.size w W->Below w.heap.size w ((((W.setCell ⟨a,0,none⟩ v0).setCell ⟨a,1,none⟩ v1).setCell ⟨a,2,none⟩ v2).setCell ⟨a,3,none⟩ v3):=
 fun c=>(((c.setCell (p:=⟨a,0,none⟩) b v0).setCell (p:=⟨a,1,none⟩) b v1).setCell (p:=⟨a,2,none⟩) b v2).setCell (p:=⟨a,3,none⟩) b v3
theorem xB {F:Nat->Prop} {a:Nat} {v0 v1 v2 v3:Value} (b:w.heap.size<=a):Keep F w W->Keep F w ((((W.setCell ⟨a,0,none⟩ v0).setCell ⟨a,1,none⟩ v1).setCell ⟨a,2,none⟩ v2).setCell ⟨a,3,none⟩ v3):=
 fun c=>(((c.setCell (p:=⟨a,0,none⟩) (.inr b) v0).setCell (p:=⟨a,1,none⟩) (.inr b) v1).setCell (p:=⟨a,2,none⟩) (.inr b) v2).setCell (p:=⟨a,3,none⟩) (.inr b) v3
theorem qJ {s:Nat} {v0 v1 v2 v3:Value}:Keep (fun a=>a=s) W ((((W.setCell ⟨s,0,none⟩ v0).setCell ⟨s,1,none⟩ v1).setCell ⟨s,2,none⟩ v2).setCell ⟨s,3,none⟩ v3):=
 ((((Keep.refl (fun a=>a=s) W).setCell (p:=⟨s,0,none⟩) (.inl rfl) v0).setCell (p:=⟨s,1,none⟩) (.inl rfl) v1).setCell (p:=⟨s,2,none⟩) (.inl rfl) v2).setCell (p:=⟨s,3,none⟩) (.inl rfl) v3
end
theorem aGw (B:Nat) (c:TypeId) (g f:Nat) (i:List Value):Stb (rO B c g f i):=fun _ _ _ ⟨a,b,d,e⟩ k=>⟨a,b,d,e.below k⟩
theorem iQ (a b:List UInt8):Value.string ((⟨a.toArray⟩:ByteArray)++⟨b.toArray⟩)=.string ⟨(a++b).toArray⟩:=congrArg Value.string (by
 apply ByteArray.ext;rw [ByteArray.data_append];simp)
def RdN (w:World) (d e:Nat) (a:Option Addr) (c:Nat) (f:List Value):Prop:=Rd w w.heap.size e a c f/\(0 < c->∀b,a=some b->d<=b.block)
theorem RdN.keepF {F:Nat->Prop} {w w':World} {b f e:Nat} {c:Option Addr} {g:List Value} (a:RdN w b f c e g) (k:Keep F w w') (n:∀d,F d->d < b):RdN w' b f c e g:=
 ⟨Rd.keepF a.1 k nL fun o i m j=>by have:=a.2 o i m;have:=n _ j;omega,a.2⟩
theorem RdN.below {w w':World} {c e d:Nat} {a:Option Addr} {f:List Value} (b:RdN w c e a d f) (k:Below w.heap.size w w'):RdN w' c e a d f:=⟨(b.1.below k).mono k.size,b.2⟩
theorem RdN.mono {w:World} {c d f e:Nat} {a:Option Addr} {g:List Value} (b:RdN w c f a e g) (m:d<=c):RdN w d f a e g:=⟨b.1,fun n i j=>zAk m (b.2 n i j)⟩
theorem RdN.nil (w:World) (c d:Nat) (a:Option Addr):RdN w c d a 0 []:=⟨Rd.nil _ _ _ _,fun b=>absurd b oM⟩
theorem RdN.of_made {w:World} {B d c g:Nat} {i:TypeId} {a:Option Addr} {e:List Value} (b:Made w B i d a c g e):RdN w B d a c e:=⟨b.rd,fun m f j=>by subst j;exact (b.own.lt f.block rfl).1⟩
def aIh (d e b:Nat) (g:List Value):Value->World->Prop:=fun f w=>∃a c,f=.slice a b c/\RdN w d e a b g
theorem aCl {F:Nat->Prop} {b:Nat} (g:∀a,F a->a < b) (j i:Nat) (m:List Value):uP F (aIh b j i m):=fun _ _ _ ⟨c,d,e,f⟩ k=>⟨c,d,e,f.keepF k g⟩
def aKS (d:Nat) (a:List UInt8):Value->World->Prop:=fun e w=>∃b c,e=.agg (lX ⟨0,0,a, []⟩ b c none 0)/\RdN w d 1 b a.length (a.map bv)
theorem aF5 {F:Nat->Prop} {b:Nat} (i:∀a,F a->a < b) (d:List UInt8):uP F (aKS b d):=fun _ _ _ ⟨c,e,f,g⟩ k=>⟨c,e,f,g.keepF k i⟩
def aIZ (e d:Nat) (a:List UInt8):Value->World->Prop:=fun _ w=>∃b c,Bk w e 50 (lX ⟨0,0,a, []⟩ b c none 0)/\RdN w d 1 b a.length (a.map bv)
theorem aGX (g f:Nat) (c:List UInt8):Stb (aIZ g f c):=fun _ _ _ ⟨b,d,a,e⟩ k=>⟨b,d,Bk.below a k a.lt,e.below k⟩
theorem aHX (w:World) (l:List UInt8) (b:Nat) (c:TypeId) (d:Nat×Nat) (i e:Nat) (o:l.length=i) (n:e=w.heap.size):RdN (w.drew.alloc (.cells (bytesRow ⟨l.toArray⟩ b) c d)) e 1 (some ⟨e,0,none⟩) i (l.map bv):=by
 subst n;refine ⟨⟨by simp [o],fun _=>⟨_,0,rfl,by simp,fun g s a=>?_⟩⟩,fun _ q m=>by cases m;exact zAs _⟩;have j:=cell_of_row (w.drew.alloc (.cells (bytesRow ⟨l.toArray⟩ b) c d)) w.heap.size g (bytesRow ⟨l.toArray⟩ b) c d (heap_alloc_new w.drew _);rw [zBi,j];unfold bytesRow;have f:g < l.length:=by have:=(zAc.1 a).1;simpa using this
 rw [Array.getElem?_append_left (by simpa using f)];rw [zAf,zAa f] at a;simp only [Option.map_some,Option.some.injEq] at a;rw [<-a];simp [f,bv]
def cD (gx:Nat) (most:Int) (d:List UInt8) (r:Told) (w w':World) (g:Ending):Prop:=
 ∃a f b c,g=.returned (.agg (lX r a f b c))/\Keep (fun e=>e=gx) w w'/\RdN w' w.heap.size 1 a r.data.length (r.data.map bv)/\Made w' w.heap.size 3 1 b r.places.length c (r.places.map nv)/\Bk w' gx 56 #[.string ⟨d.toArray⟩,.int .i64 most]
theorem cQ {gx:Nat} {most:Int} {b:List UInt8} {r:Told} {w w':World} {a:Array Value} {s:Nat} {A1:Option Addr} {c1:Nat} {A2:Option Addr} {c2:Nat} (m:a.getD 4 undef=.pointer (some ⟨s,0,none⟩)) (e:Bk w' s 50 (lX r A1 c1 A2 c2))
 (g:Keep (fun c=>c=gx) w w') (i:RdN w' w.heap.size 1 A1 r.data.length (r.data.map bv)) (j:Made w' w.heap.size 3 1 A2 r.places.length c2 (r.places.map nv)) (n:Bk w' gx 56 #[.string ⟨b.toArray⟩,.int .i64 most]):
 bodyPost prog f25 (fun d w'=>cD gx most b r w w' d) .ret ⟨a, []⟩ w':=by
 have o:=results_cell_row (P:=prog) (fn:=f25) (p:=4) (ty:=50) rfl a w' s 50 (lX r A1 c1 A2 c2) (0,0) _ m e underlying50 rfl kR;exact bodyPost_ret o rfl ⟨A1,c1,A2,c2,rfl,g,i,j,n⟩
structure RefF (w W:World) (gx nd cd:Nat) (AD:Option Addr) (T D:List UInt8) (most kind p k:Int):Prop where
 low:Below w.heap.size w W
 step:Bk W w.heap.size 46 #[.int .i64 kind,.int .i64 p,.int .i64 k,.slice AD nd cd]
 res:Bk W (w.heap.size+1) 50 #[.int .i64 0,.int .i64 0,.slice none 0 0,.slice none 0 0]
 mod:Bk W gx 56 #[.string ⟨T.toArray⟩,.int .i64 most]
 rD:Rd W w.heap.size 1 AD nd (D.map bv)
 gxl:gx < w.heap.size
section
variable {w W W' : World} {gx nd cd : Nat} {AD : Option Addr} {T D : List UInt8} {most kind p k : Int}
theorem RefF.grow (F:RefF w W gx nd cd AD T D most kind p k) (a:Grow W W'):RefF w W' gx nd cd AD T D most kind p k:=
 ⟨F.low.trans (Below.mono a F.low.size),F.step.below a F.step.lt,F.res.below a F.res.lt,F.mod.below a F.mod.lt,F.rD.below (Below.mono a F.low.size),F.gxl⟩
theorem dQ (w:World) (kind p k:Int) (AD:Option Addr) (nd cd:Nat) (a:Array Value):Below w.heap.size w ((w.alloc (.cells #[.int .i64 kind,.int .i64 p,.int .i64 k,.slice AD nd cd] 46)).alloc (.cells a 50)):=
 ((Below.refl w.heap.size w).alloc nL _).alloc (by simp) _
theorem dT (w:World) (kind p k:Int) (AD:Option Addr) (nd cd:Nat) (a:Array Value):Bk ((w.alloc (.cells #[.int .i64 kind,.int .i64 p,.int .i64 k,.slice AD nd cd] 46)).alloc (.cells a 50)) (w.heap.size+1) 50 a:=by
 simpa using Bk.new (w.alloc (.cells #[.int .i64 kind,.int .i64 p,.int .i64 k,.slice AD nd cd] 46)) 50 a
theorem bS {B:Nat} (a:Bk w gx 56 #[.string ⟨T.toArray⟩,.int .i64 most]) (c:Rd w B 1 AD nd (D.map bv)) (b:B<=w.heap.size):
 RefF w ((w.alloc (.cells #[.int .i64 kind,.int .i64 p,.int .i64 k,.slice AD nd cd] 46)).alloc (.cells #[.int .i64 0,.int .i64 0,.slice none 0 0,.slice none 0 0] 50)) gx nd cd AD T D most kind p k:=
 ⟨dQ _ _ _ _ _ _ _ _,(Bk.new _ _ _).alloc _,dT _ _ _ _ _ _ _ _,(a.alloc _).alloc _,(c.mono b).below (dQ _ _ _ _ _ _ _ _),a.lt⟩
end
theorem aDx (gx:Nat) (AD:Option Addr) (nd cd B:Nat) (p k:Int) (most:Int) (T D:List UInt8) (d:Nat) (c:T.length=d) (w:World) (a:Bk w gx 56 #[.string ⟨T.toArray⟩,.int .i64 most])
 (b:Rd w B 1 AD nd (D.map bv)) (j:B<=w.heap.size) (f:0 < nd->∀e,AD=some e->e.block≠gx) (v:d<=549755813888) (t:nd<=549755813888) (A:-9223372036854775808<=(p:Int)/\(p:Int)<=9223372036854775807) (m:-9223372036854775808<=(k:Int)/\(k:Int)<=9223372036854775807) (z:0<=most/\most<=2147483648)
 (s:p < 0):
 Calls prog 25 #[gx,aZ 1 p k AD nd cd] w fun i w'=>cD gx most (T) ⟨2,0, [], []⟩ w w' i:=by
 have u:D.length=nd:=by simpa using b.1
 have F:=bS (kind:=1) (p:=p) (k:=k) (cd:=cd) a b j;obtain ⟨n,g,q,o⟩:=hqq4 F a c f;have x:=a.lt;have E:(⟨T.toArray⟩:ByteArray).size=d:=(aT T).trans c;have C:w.cell? ⟨gx,0,none⟩=some (.string ⟨T.toArray⟩):=(a.cell 0).trans rfl;clear b a F c f;have y:=m;unfold aZ;go_enter func25,ntmps25;go_wp2;exact cQ (A1:=none) (c1:=0) (A2:=none) (c2:=0) rfl (dT w 1 p k AD nd cd #[.int .i64 2,.int .i64 0,.slice none 0 0,.slice none 0 0]) (Keep.of_below (dQ _ _ _ _ _ _ _ _)) (RdN.nil _ _ _ _) (bB _ _ _) ((g.out.alloc _).alloc _)
theorem aDy (gx:Nat) (AD:Option Addr) (nd cd B:Nat) (p k:Int) (most:Int) (T D:List UInt8) (b:Nat) (d:T.length=b) (w:World) (a:Bk w gx 56 #[.string ⟨T.toArray⟩,.int .i64 most])
 (c:Rd w B 1 AD nd (D.map bv)) (j:B<=w.heap.size) (f:0 < nd->∀e,AD=some e->e.block≠gx) (x:b<=549755813888) (u:nd<=549755813888) (C:-9223372036854775808<=(p:Int)/\(p:Int)<=9223372036854775807) (m:-9223372036854775808<=(k:Int)/\(k:Int)<=9223372036854775807) (A:0<=most/\most<=2147483648)
 (s:¬(p < 0)) (t:p > (b:Int)):
 Calls prog 25 #[gx,aZ 1 p k AD nd cd] w fun i w'=>cD gx most (T) ⟨2,0, [], []⟩ w w' i:=by
 have v:D.length=nd:=by simpa using c.1
 have F:=bS (kind:=1) (p:=p) (k:=k) (cd:=cd) a c j;obtain ⟨n,g,q,o⟩:=hqq4 F a d f;have y:=a.lt;have G:(⟨T.toArray⟩:ByteArray).size=b:=(aT T).trans d;have E:w.cell? ⟨gx,0,none⟩=some (.string ⟨T.toArray⟩):=(a.cell 0).trans rfl;clear c a F d f;have z:=m;unfold aZ;go_enter func25,ntmps25;go_wp2;exact cQ (A1:=none) (c1:=0) (A2:=none) (c2:=0) rfl (dT w 1 p k AD nd cd #[.int .i64 2,.int .i64 0,.slice none 0 0,.slice none 0 0]) (Keep.of_below (dQ _ _ _ _ _ _ _ _)) (RdN.nil _ _ _ _) (bB _ _ _) ((g.out.alloc _).alloc _)
theorem aDz (gx:Nat) (AD:Option Addr) (nd cd B:Nat) (p k:Int) (most:Int) (T D:List UInt8) (d:Nat) (c:T.length=d) (w:World) (a:Bk w gx 56 #[.string ⟨T.toArray⟩,.int .i64 most])
 (b:Rd w B 1 AD nd (D.map bv)) (j:B<=w.heap.size) (f:0 < nd->∀e,AD=some e->e.block≠gx) (v:d<=549755813888) (t:nd<=549755813888) (A:-9223372036854775808<=(p:Int)/\(p:Int)<=9223372036854775807) (m:-9223372036854775808<=(k:Int)/\(k:Int)<=9223372036854775807) (z:0<=most/\most<=2147483648)
 (s:p < 0):
 Calls prog 25 #[gx,aZ 2 p k AD nd cd] w fun i w'=>cD gx most (T) ⟨2,0, [], []⟩ w w' i:=by
 have u:D.length=nd:=by simpa using b.1
 have F:=bS (kind:=2) (p:=p) (k:=k) (cd:=cd) a b j;obtain ⟨n,g,q,o⟩:=hqq4 F a c f;have x:=a.lt;have E:(⟨T.toArray⟩:ByteArray).size=d:=(aT T).trans c;have C:w.cell? ⟨gx,0,none⟩=some (.string ⟨T.toArray⟩):=(a.cell 0).trans rfl;clear b a F c f;have y:=m;unfold aZ;go_enter func25,ntmps25;go_wp2;exact cQ (A1:=none) (c1:=0) (A2:=none) (c2:=0) rfl (dT w 2 p k AD nd cd #[.int .i64 2,.int .i64 0,.slice none 0 0,.slice none 0 0]) (Keep.of_below (dQ _ _ _ _ _ _ _ _)) (RdN.nil _ _ _ _) (bB _ _ _) ((g.out.alloc _).alloc _)
theorem aBQ (gx:Nat) (AD:Option Addr) (nd cd B:Nat) (p k:Int) (most:Int) (T D:List UInt8) (d:Nat) (c:T.length=d) (w:World) (a:Bk w gx 56 #[.string ⟨T.toArray⟩,.int .i64 most])
 (b:Rd w B 1 AD nd (D.map bv)) (j:B<=w.heap.size) (f:0 < nd->∀e,AD=some e->e.block≠gx) (x:d<=549755813888) (u:nd<=549755813888) (C:-9223372036854775808<=(p:Int)/\(p:Int)<=9223372036854775807) (m:-9223372036854775808<=(k:Int)/\(k:Int)<=9223372036854775807) (A:0<=most/\most<=2147483648)
 (s:¬(p < 0)) (t:k < 0):
 Calls prog 25 #[gx,aZ 2 p k AD nd cd] w fun i w'=>cD gx most (T) ⟨2,0, [], []⟩ w w' i:=by
 have v:D.length=nd:=by simpa using b.1
 have F:=bS (kind:=2) (p:=p) (k:=k) (cd:=cd) a b j;obtain ⟨n,g,q,o⟩:=hqq4 F a c f;have y:=a.lt;have G:(⟨T.toArray⟩:ByteArray).size=d:=(aT T).trans c;have E:w.cell? ⟨gx,0,none⟩=some (.string ⟨T.toArray⟩):=(a.cell 0).trans rfl;clear b a F c f;have z:=m;unfold aZ;go_enter func25,ntmps25;go_wp2;exact cQ (A1:=none) (c1:=0) (A2:=none) (c2:=0) rfl (dT w 2 p k AD nd cd #[.int .i64 2,.int .i64 0,.slice none 0 0,.slice none 0 0]) (Keep.of_below (dQ _ _ _ _ _ _ _ _)) (RdN.nil _ _ _ _) (bB _ _ _) ((g.out.alloc _).alloc _)
theorem aDA (gx:Nat) (AD:Option Addr) (nd cd B:Nat) (p k:Int) (most:Int) (T D:List UInt8) (b:Nat) (d:T.length=b) (w:World) (a:Bk w gx 56 #[.string ⟨T.toArray⟩,.int .i64 most])
 (c:Rd w B 1 AD nd (D.map bv)) (j:B<=w.heap.size) (f:0 < nd->∀e,AD=some e->e.block≠gx) (y:b<=549755813888) (v:nd<=549755813888) (E:-9223372036854775808<=(p:Int)/\(p:Int)<=9223372036854775807) (m:-9223372036854775808<=(k:Int)/\(k:Int)<=9223372036854775807) (C:0<=most/\most<=2147483648)
 (s:¬(p < 0)) (t:¬(k < 0)) (u:p > (b:Int)):
 Calls prog 25 #[gx,aZ 2 p k AD nd cd] w fun i w'=>cD gx most (T) ⟨2,0, [], []⟩ w w' i:=by
 have x:D.length=nd:=by simpa using c.1
 have F:=bS (kind:=2) (p:=p) (k:=k) (cd:=cd) a c j;obtain ⟨n,g,q,o⟩:=hqq4 F a d f;have z:=a.lt;have H:(⟨T.toArray⟩:ByteArray).size=b:=(aT T).trans d;have G:w.cell? ⟨gx,0,none⟩=some (.string ⟨T.toArray⟩):=(a.cell 0).trans rfl;clear c a F d f;have A:=m;unfold aZ;go_enter func25,ntmps25;go_wp2;exact cQ (A1:=none) (c1:=0) (A2:=none) (c2:=0) rfl (dT w 2 p k AD nd cd #[.int .i64 2,.int .i64 0,.slice none 0 0,.slice none 0 0]) (Keep.of_below (dQ _ _ _ _ _ _ _ _)) (RdN.nil _ _ _ _) (bB _ _ _) ((g.out.alloc _).alloc _)
theorem aBR (gx:Nat) (AD:Option Addr) (nd cd B:Nat) (p k:Int) (most:Int) (T D:List UInt8) (b:Nat) (d:T.length=b) (w:World) (a:Bk w gx 56 #[.string ⟨T.toArray⟩,.int .i64 most])
 (c:Rd w B 1 AD nd (D.map bv)) (j:B<=w.heap.size) (f:0 < nd->∀e,AD=some e->e.block≠gx) (z:b<=549755813888) (x:nd<=549755813888) (G:-9223372036854775808<=(p:Int)/\(p:Int)<=9223372036854775807) (m:-9223372036854775808<=(k:Int)/\(k:Int)<=9223372036854775807) (E:0<=most/\most<=2147483648)
 (s:¬(p < 0)) (t:¬(k < 0)) (u:¬(p > (b:Int))) (v:k > (b:Int) - p):
 Calls prog 25 #[gx,aZ 2 p k AD nd cd] w fun i w'=>cD gx most (T) ⟨2,0, [], []⟩ w w' i:=by
 have y:D.length=nd:=by simpa using c.1
 have F:=bS (kind:=2) (p:=p) (k:=k) (cd:=cd) a c j;obtain ⟨n,g,q,o⟩:=hqq4 F a d f;have A:=a.lt;have I:(⟨T.toArray⟩:ByteArray).size=b:=(aT T).trans d;have H:w.cell? ⟨gx,0,none⟩=some (.string ⟨T.toArray⟩):=(a.cell 0).trans rfl;clear c a F d f;have C:=m;unfold aZ;go_enter func25,ntmps25;go_wp2;exact cQ (A1:=none) (c1:=0) (A2:=none) (c2:=0) rfl (dT w 2 p k AD nd cd #[.int .i64 2,.int .i64 0,.slice none 0 0,.slice none 0 0]) (Keep.of_below (dQ _ _ _ _ _ _ _ _)) (RdN.nil _ _ _ _) (bB _ _ _) ((g.out.alloc _).alloc _)
theorem aBM (gx:Nat) (AD:Option Addr) (nd cd B:Nat) (p k:Int) (most:Int) (T D:List UInt8) (d:Nat) (c:T.length=d) (w:World) (a:Bk w gx 56 #[.string ⟨T.toArray⟩,.int .i64 most])
 (b:Rd w B 1 AD nd (D.map bv)) (j:B<=w.heap.size) (f:0 < nd->∀e,AD=some e->e.block≠gx) (v:d<=549755813888) (t:nd<=549755813888) (A:-9223372036854775808<=(p:Int)/\(p:Int)<=9223372036854775807) (m:-9223372036854775808<=(k:Int)/\(k:Int)<=9223372036854775807) (z:0<=most/\most<=2147483648)
 (s:p < 0):
 Calls prog 25 #[gx,aZ 5 p k AD nd cd] w fun i w'=>cD gx most (T) ⟨2,0, [], []⟩ w w' i:=by
 have u:D.length=nd:=by simpa using b.1
 have F:=bS (kind:=5) (p:=p) (k:=k) (cd:=cd) a b j;obtain ⟨n,g,q,o⟩:=hqq4 F a c f;have x:=a.lt;have E:(⟨T.toArray⟩:ByteArray).size=d:=(aT T).trans c;have C:w.cell? ⟨gx,0,none⟩=some (.string ⟨T.toArray⟩):=(a.cell 0).trans rfl;clear b a F c f;have y:=m;unfold aZ;go_enter func25,ntmps25;go_wp2;exact cQ (A1:=none) (c1:=0) (A2:=none) (c2:=0) rfl (dT w 5 p k AD nd cd #[.int .i64 2,.int .i64 0,.slice none 0 0,.slice none 0 0]) (Keep.of_below (dQ _ _ _ _ _ _ _ _)) (RdN.nil _ _ _ _) (bB _ _ _) ((g.out.alloc _).alloc _)
theorem zS (gx:Nat) (AD:Option Addr) (nd cd B:Nat) (p k:Int) (most:Int) (T D:List UInt8) (d:Nat) (c:T.length=d) (w:World) (a:Bk w gx 56 #[.string ⟨T.toArray⟩,.int .i64 most])
 (b:Rd w B 1 AD nd (D.map bv)) (j:B<=w.heap.size) (f:0 < nd->∀e,AD=some e->e.block≠gx) (x:d<=549755813888) (u:nd<=549755813888) (C:-9223372036854775808<=(p:Int)/\(p:Int)<=9223372036854775807) (m:-9223372036854775808<=(k:Int)/\(k:Int)<=9223372036854775807) (A:0<=most/\most<=2147483648)
 (s:¬(p < 0)) (t:k < 0):
 Calls prog 25 #[gx,aZ 5 p k AD nd cd] w fun i w'=>cD gx most (T) ⟨2,0, [], []⟩ w w' i:=by
 have v:D.length=nd:=by simpa using b.1
 have F:=bS (kind:=5) (p:=p) (k:=k) (cd:=cd) a b j;obtain ⟨n,g,q,o⟩:=hqq4 F a c f;have y:=a.lt;have G:(⟨T.toArray⟩:ByteArray).size=d:=(aT T).trans c;have E:w.cell? ⟨gx,0,none⟩=some (.string ⟨T.toArray⟩):=(a.cell 0).trans rfl;clear b a F c f;have z:=m;unfold aZ;go_enter func25,ntmps25;go_wp2;exact cQ (A1:=none) (c1:=0) (A2:=none) (c2:=0) rfl (dT w 5 p k AD nd cd #[.int .i64 2,.int .i64 0,.slice none 0 0,.slice none 0 0]) (Keep.of_below (dQ _ _ _ _ _ _ _ _)) (RdN.nil _ _ _ _) (bB _ _ _) ((g.out.alloc _).alloc _)
theorem aBN (gx:Nat) (AD:Option Addr) (nd cd B:Nat) (p k:Int) (most:Int) (T D:List UInt8) (b:Nat) (d:T.length=b) (w:World) (a:Bk w gx 56 #[.string ⟨T.toArray⟩,.int .i64 most])
 (c:Rd w B 1 AD nd (D.map bv)) (j:B<=w.heap.size) (f:0 < nd->∀e,AD=some e->e.block≠gx) (y:b<=549755813888) (v:nd<=549755813888) (E:-9223372036854775808<=(p:Int)/\(p:Int)<=9223372036854775807) (m:-9223372036854775808<=(k:Int)/\(k:Int)<=9223372036854775807) (C:0<=most/\most<=2147483648)
 (s:¬(p < 0)) (t:¬(k < 0)) (u:p > (b:Int)):
 Calls prog 25 #[gx,aZ 5 p k AD nd cd] w fun i w'=>cD gx most (T) ⟨2,0, [], []⟩ w w' i:=by
 have x:D.length=nd:=by simpa using c.1
 have F:=bS (kind:=5) (p:=p) (k:=k) (cd:=cd) a c j;obtain ⟨n,g,q,o⟩:=hqq4 F a d f;have z:=a.lt;have H:(⟨T.toArray⟩:ByteArray).size=b:=(aT T).trans d;have G:w.cell? ⟨gx,0,none⟩=some (.string ⟨T.toArray⟩):=(a.cell 0).trans rfl;clear c a F d f;have A:=m;unfold aZ;go_enter func25,ntmps25;go_wp2;exact cQ (A1:=none) (c1:=0) (A2:=none) (c2:=0) rfl (dT w 5 p k AD nd cd #[.int .i64 2,.int .i64 0,.slice none 0 0,.slice none 0 0]) (Keep.of_below (dQ _ _ _ _ _ _ _ _)) (RdN.nil _ _ _ _) (bB _ _ _) ((g.out.alloc _).alloc _)
theorem zT (gx:Nat) (AD:Option Addr) (nd cd B:Nat) (p k:Int) (most:Int) (T D:List UInt8) (b:Nat) (d:T.length=b) (w:World) (a:Bk w gx 56 #[.string ⟨T.toArray⟩,.int .i64 most])
 (c:Rd w B 1 AD nd (D.map bv)) (j:B<=w.heap.size) (f:0 < nd->∀e,AD=some e->e.block≠gx) (z:b<=549755813888) (x:nd<=549755813888) (G:-9223372036854775808<=(p:Int)/\(p:Int)<=9223372036854775807) (m:-9223372036854775808<=(k:Int)/\(k:Int)<=9223372036854775807) (E:0<=most/\most<=2147483648)
 (s:¬(p < 0)) (t:¬(k < 0)) (u:¬(p > (b:Int))) (v:k > (b:Int) - p):
 Calls prog 25 #[gx,aZ 5 p k AD nd cd] w fun i w'=>cD gx most (T) ⟨2,0, [], []⟩ w w' i:=by
 have y:D.length=nd:=by simpa using c.1
 have F:=bS (kind:=5) (p:=p) (k:=k) (cd:=cd) a c j;obtain ⟨n,g,q,o⟩:=hqq4 F a d f;have A:=a.lt;have I:(⟨T.toArray⟩:ByteArray).size=b:=(aT T).trans d;have H:w.cell? ⟨gx,0,none⟩=some (.string ⟨T.toArray⟩):=(a.cell 0).trans rfl;clear c a F d f;have C:=m;unfold aZ;go_enter func25,ntmps25;go_wp2;exact cQ (A1:=none) (c1:=0) (A2:=none) (c2:=0) rfl (dT w 5 p k AD nd cd #[.int .i64 2,.int .i64 0,.slice none 0 0,.slice none 0 0]) (Keep.of_below (dQ _ _ _ _ _ _ _ _)) (RdN.nil _ _ _ _) (bB _ _ _) ((g.out.alloc _).alloc _)
theorem aDv (gx:Nat) (AD:Option Addr) (nd cd B:Nat) (p k:Int) (most:Int) (T D:List UInt8) (d:Nat) (c:T.length=d) (w:World) (a:Bk w gx 56 #[.string ⟨T.toArray⟩,.int .i64 most])
 (b:Rd w B 1 AD nd (D.map bv)) (j:B<=w.heap.size) (f:0 < nd->∀e,AD=some e->e.block≠gx) (v:d<=549755813888) (t:nd<=549755813888) (A:-9223372036854775808<=(p:Int)/\(p:Int)<=9223372036854775807) (m:-9223372036854775808<=(k:Int)/\(k:Int)<=9223372036854775807) (z:0<=most/\most<=2147483648)
 (s:p < 0):
 Calls prog 25 #[gx,aZ 3 p k AD nd cd] w fun i w'=>cD gx most (T) ⟨2,0, [], []⟩ w w' i:=by
 have u:D.length=nd:=by simpa using b.1
 have F:=bS (kind:=3) (p:=p) (k:=k) (cd:=cd) a b j;obtain ⟨n,g,q,o⟩:=hqq4 F a c f;have x:=a.lt;have E:(⟨T.toArray⟩:ByteArray).size=d:=(aT T).trans c;have C:w.cell? ⟨gx,0,none⟩=some (.string ⟨T.toArray⟩):=(a.cell 0).trans rfl;clear b a F c f;have y:=m;unfold aZ;go_enter func25,ntmps25;go_wp2;exact cQ (A1:=none) (c1:=0) (A2:=none) (c2:=0) rfl (dT w 3 p k AD nd cd #[.int .i64 2,.int .i64 0,.slice none 0 0,.slice none 0 0]) (Keep.of_below (dQ _ _ _ _ _ _ _ _)) (RdN.nil _ _ _ _) (bB _ _ _) ((g.out.alloc _).alloc _)
theorem aDw (gx:Nat) (AD:Option Addr) (nd cd B:Nat) (p k:Int) (most:Int) (T D:List UInt8) (b:Nat) (d:T.length=b) (w:World) (a:Bk w gx 56 #[.string ⟨T.toArray⟩,.int .i64 most])
 (c:Rd w B 1 AD nd (D.map bv)) (j:B<=w.heap.size) (f:0 < nd->∀e,AD=some e->e.block≠gx) (x:b<=549755813888) (u:nd<=549755813888) (C:-9223372036854775808<=(p:Int)/\(p:Int)<=9223372036854775807) (m:-9223372036854775808<=(k:Int)/\(k:Int)<=9223372036854775807) (A:0<=most/\most<=2147483648)
 (s:¬(p < 0)) (t:p > (b:Int)):
 Calls prog 25 #[gx,aZ 3 p k AD nd cd] w fun i w'=>cD gx most (T) ⟨2,0, [], []⟩ w w' i:=by
 have v:D.length=nd:=by simpa using c.1
 have F:=bS (kind:=3) (p:=p) (k:=k) (cd:=cd) a c j;obtain ⟨n,g,q,o⟩:=hqq4 F a d f;have y:=a.lt;have G:(⟨T.toArray⟩:ByteArray).size=b:=(aT T).trans d;have E:w.cell? ⟨gx,0,none⟩=some (.string ⟨T.toArray⟩):=(a.cell 0).trans rfl;clear c a F d f;have z:=m;unfold aZ;go_enter func25,ntmps25;go_wp2;exact cQ (A1:=none) (c1:=0) (A2:=none) (c2:=0) rfl (dT w 3 p k AD nd cd #[.int .i64 2,.int .i64 0,.slice none 0 0,.slice none 0 0]) (Keep.of_below (dQ _ _ _ _ _ _ _ _)) (RdN.nil _ _ _ _) (bB _ _ _) ((g.out.alloc _).alloc _)
theorem aBO (gx:Nat) (AD:Option Addr) (nd cd B:Nat) (p k:Int) (most:Int) (T D:List UInt8) (b:Nat) (d:T.length=b) (w:World) (a:Bk w gx 56 #[.string ⟨T.toArray⟩,.int .i64 most])
 (c:Rd w B 1 AD nd (D.map bv)) (j:B<=w.heap.size) (f:0 < nd->∀e,AD=some e->e.block≠gx) (y:b<=549755813888) (v:nd<=549755813888) (E:-9223372036854775808<=(p:Int)/\(p:Int)<=9223372036854775807) (m:-9223372036854775808<=(k:Int)/\(k:Int)<=9223372036854775807) (C:0<=most/\most<=2147483648)
 (s:¬(p < 0)) (t:¬(p > (b:Int))) (u:(nd:Int) > (b:Int) - p):
 Calls prog 25 #[gx,aZ 3 p k AD nd cd] w fun i w'=>cD gx most (T) ⟨2,0, [], []⟩ w w' i:=by
 have x:D.length=nd:=by simpa using c.1
 have F:=bS (kind:=3) (p:=p) (k:=k) (cd:=cd) a c j;obtain ⟨n,g,q,o⟩:=hqq4 F a d f;have z:=a.lt;have H:(⟨T.toArray⟩:ByteArray).size=b:=(aT T).trans d;have G:w.cell? ⟨gx,0,none⟩=some (.string ⟨T.toArray⟩):=(a.cell 0).trans rfl;clear c a F d f;have A:=m;unfold aZ;go_enter func25,ntmps25;go_wp2;exact cQ (A1:=none) (c1:=0) (A2:=none) (c2:=0) rfl (dT w 3 p k AD nd cd #[.int .i64 2,.int .i64 0,.slice none 0 0,.slice none 0 0]) (Keep.of_below (dQ _ _ _ _ _ _ _ _)) (RdN.nil _ _ _ _) (bB _ _ _) ((g.out.alloc _).alloc _)
theorem aJ2 (gx:Nat) (AD:Option Addr) (nd cd B:Nat) (p k:Int) (most:Int) (T D:List UInt8) (b:Nat) (d:T.length=b) (w:World) (a:Bk w gx 56 #[.string ⟨T.toArray⟩,.int .i64 most])
 (c:Rd w B 1 AD nd (D.map bv)) (j:B<=w.heap.size) (f:0 < nd->∀e,AD=some e->e.block≠gx) (t:b<=549755813888) (q:nd<=549755813888) (y:-9223372036854775808<=(p:Int)/\(p:Int)<=9223372036854775807) (v:-9223372036854775808<=(k:Int)/\(k:Int)<=9223372036854775807) (x:0<=most/\most<=2147483648)
  :
 Calls prog 25 #[gx,aZ 4 p k AD nd cd] w fun i w'=>cD gx most (T) ⟨0,(b:Int), [], []⟩ w w' i:=by
 have s:D.length=nd:=by simpa using c.1
 have F:=bS (kind:=4) (p:=p) (k:=k) (cd:=cd) a c j;obtain ⟨m,g,o,n⟩:=hqq4 F a d f;have u:=a.lt;have A:(⟨T.toArray⟩:ByteArray).size=b:=(aT T).trans d;have z:w.cell? ⟨gx,0,none⟩=some (.string ⟨T.toArray⟩):=(a.cell 0).trans rfl;clear c a F d f;unfold aZ;go_enter func25,ntmps25;go_wp2;exact cQ (A1:=none) (c1:=0) (A2:=none) (c2:=0) rfl (dT w 4 p k AD nd cd #[.int .i64 0,(b:Int),.slice none 0 0,.slice none 0 0]) (Keep.of_below (dQ _ _ _ _ _ _ _ _)) (RdN.nil _ _ _ _) (bB _ _ _) ((g.out.alloc _).alloc _)
theorem aFa (gx:Nat) (AD:Option Addr) (nd cd B:Nat) (p k:Int) (most:Int) (T D:List UInt8) (d:Nat) (c:T.length=d) (w:World) (a:Bk w gx 56 #[.string ⟨T.toArray⟩,.int .i64 most])
 (b:Rd w B 1 AD nd (D.map bv)) (j:B<=w.heap.size) (f:0 < nd->∀e,AD=some e->e.block≠gx) (t:d<=549755813888) (q:nd<=549755813888) (y:-9223372036854775808<=(p:Int)/\(p:Int)<=9223372036854775807) (v:-9223372036854775808<=(k:Int)/\(k:Int)<=9223372036854775807) (x:0<=most/\most<=2147483648)
  :
 Calls prog 25 #[gx,aZ 8 p k AD nd cd] w fun i w'=>cD gx most (T) ⟨0,0, [], []⟩ w w' i:=by
 have s:D.length=nd:=by simpa using b.1
 have F:=bS (kind:=8) (p:=p) (k:=k) (cd:=cd) a b j;obtain ⟨m,g,o,n⟩:=hqq4 F a c f;have u:=a.lt;have A:(⟨T.toArray⟩:ByteArray).size=d:=(aT T).trans c;have z:w.cell? ⟨gx,0,none⟩=some (.string ⟨T.toArray⟩):=(a.cell 0).trans rfl;clear b a F c f;unfold aZ;go_enter func25,ntmps25;go_wp2;exact cQ (A1:=none) (c1:=0) (A2:=none) (c2:=0) rfl (dT w 8 p k AD nd cd #[.int .i64 0,.int .i64 0,.slice none 0 0,.slice none 0 0]) (Keep.of_below (dQ _ _ _ _ _ _ _ _)) (RdN.nil _ _ _ _) (bB _ _ _) ((g.out.alloc _).alloc _)
end
end Go.Proofs.YthldmddkfbijhaaGreatDoor
